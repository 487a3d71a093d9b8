
/-
  Package table: the strength at a point.
-/
import Derived.Test.YtobpgiiplhnahaaGreatM2
set_option linter.unusedVariables false
set_option linter.unusedSimpArgs false
set_option linter.deprecated false
namespace Go.Sp
open Go Go.Proofs
/-- The corner's part, as the program computes it. -/
def ptN (t : Tab) (i k : Nat) (p q : Int) : Nat → Int
  | 0 => (t.ws.getD (i + 1) 0 - t.ws.getD i 0 - (p - t.ws.getD i 0)) * (t.ms.getD (k + 1) 0 - t.ms.getD k 0 - (q - t.ms.getD k 0))
  | 1 => (p - t.ws.getD i 0) * (t.ms.getD (k + 1) 0 - t.ms.getD k 0 - (q - t.ms.getD k 0))
  | 2 => (t.ws.getD (i + 1) 0 - t.ws.getD i 0 - (p - t.ws.getD i 0)) * (q - t.ms.getD k 0)
  | _ => (p - t.ws.getD i 0) * (q - t.ms.getD k 0)
def vtN (t : Tab) (i k : Nat) : Nat → Int
  | 0 => (t.vs.getD i []).getD k 0
  | 1 => (t.vs.getD (i + 1) []).getD k 0
  | 2 => (t.vs.getD i []).getD (k + 1) 0
  | _ => (t.vs.getD (i + 1) []).getD (k + 1) 0
theorem pt0 (t : Tab) (i k : Nat) (p q : Int) : ptN t i k p q 0 = (t.ws.getD (i + 1) 0 - t.ws.getD i 0 - (p - t.ws.getD i 0)) * (t.ms.getD (k + 1) 0 - t.ms.getD k 0 - (q - t.ms.getD k 0)) := rfl
theorem pt1 (t : Tab) (i k : Nat) (p q : Int) : ptN t i k p q 1 = (p - t.ws.getD i 0) * (t.ms.getD (k + 1) 0 - t.ms.getD k 0 - (q - t.ms.getD k 0)) := rfl
theorem pt2 (t : Tab) (i k : Nat) (p q : Int) : ptN t i k p q 2 = (t.ws.getD (i + 1) 0 - t.ws.getD i 0 - (p - t.ws.getD i 0)) * (q - t.ms.getD k 0) := rfl
theorem pt3 (t : Tab) (i k : Nat) (p q : Int) : ptN t i k p q 3 = (p - t.ws.getD i 0) * (q - t.ms.getD k 0) := rfl
theorem vt0 (t : Tab) (i k : Nat) : vtN t i k 0 = (t.vs.getD i []).getD k 0 := rfl
theorem vt1 (t : Tab) (i k : Nat) : vtN t i k 1 = (t.vs.getD (i + 1) []).getD k 0 := rfl
theorem vt2 (t : Tab) (i k : Nat) : vtN t i k 2 = (t.vs.getD i []).getD (k + 1) 0 := rfl
theorem vt3 (t : Tab) (i k : Nat) : vtN t i k 3 = (t.vs.getD (i + 1) []).getD (k + 1) 0 := rfl
def smN (t : Tab) (i k : Nat) (p q : Int) : Nat → Int
  | 0 => 0
  | n + 1 => smN t i k p q n + vtN t i k n * ptN t i k p q n
theorem pt_bd {t : Tab} {i k : Nat} {p q : Int} (h : CellB t i k p q) (n : Nat) : (0 ≤ ptN t i k p q n ∧ ptN t i k p q n ≤ 2400) ∧ 0 ≤ vtN t i k n ∧ vtN t i k n ≤ 2000 := by
  have a1 := h.w0
  have a2 := h.m0
  have a3 := h.w1
  have a4 := h.m1
  have u : 0 ≤ t.ws.getD (i + 1) 0 - t.ws.getD i 0 - (p - t.ws.getD i 0) ∧ t.ws.getD (i + 1) 0 - t.ws.getD i 0 - (p - t.ws.getD i 0) ≤ 40 := by omega
  have v : 0 ≤ t.ms.getD (k + 1) 0 - t.ms.getD k 0 - (q - t.ms.getD k 0) ∧ t.ms.getD (k + 1) 0 - t.ms.getD k 0 - (q - t.ms.getD k 0) ≤ 60 := by omega
  match n with
  | 0 => exact ⟨mulB u v, h.v1⟩
  | 1 => exact ⟨mulB a1 v, h.v2⟩
  | 2 => exact ⟨mulB u a2, h.v3⟩
  | n + 3 => exact ⟨mulB a1 a2, h.v4⟩
theorem sm_bd {t : Tab} {i k : Nat} {p q : Int} (h : CellB t i k p q) : ∀ n, n ≤ 4 → 0 ≤ smN t i k p q n ∧ smN t i k p q n ≤ 4800000 * (n : Int)
  | 0, _ => ⟨Int.le_refl _, by show (0 : Int) ≤ _; omega⟩
  | n + 1, hn => by
    have ih := sm_bd h n (by omega)
    have a := pt_bd h n
    have b := mulB a.2 a.1
    show 0 ≤ smN t i k p q n + vtN t i k n * ptN t i k p q n ∧ smN t i k p q n + vtN t i k n * ptN t i k p q n ≤ _
    omega
theorem sm_eq (t : Tab) (i k : Nat) (p q : Int) : smN t i k p q 4 = atS t i k p q := by
  have u : t.ws.getD (i + 1) 0 - t.ws.getD i 0 - (p - t.ws.getD i 0) = t.ws.getD (i + 1) 0 - p := by omega
  have v : t.ms.getD (k + 1) 0 - t.ms.getD k 0 - (q - t.ms.getD k 0) = t.ms.getD (k + 1) 0 - q := by omega
  show 0 + vtN t i k 0 * ptN t i k p q 0 + vtN t i k 1 * ptN t i k p q 1 + vtN t i k 2 * ptN t i k p q 2 + vtN t i k 3 * ptN t i k p q 3 = _
  rw [pt0, pt1, pt2, pt3, vt0, vt1, vt2, vt3, u, v]
  unfold atS
  omega
theorem at_eq {t : Tab} (hv : VTab t) {p q : Int} {i k : Nat} (h : CellB t i k p q) : atF t p q = (2 * smN t i k p q 4 + (t.ws.getD (i + 1) 0 - t.ws.getD i 0) * (t.ms.getD (k + 1) 0 - t.ms.getD k 0)) / (2 * (t.ws.getD (i + 1) 0 - t.ws.getD i 0) * (t.ms.getD (k + 1) 0 - t.ms.getD k 0)) := by
  rw [atF_is hv h.ic h.kc, sm_eq, atC, Int.mul_assoc]
  rfl
set_option maxHeartbeats 8000000 in
theorem at_c (t : Tab) (hv : VTab t) (p q : Int) (hp : IsPt t p q) (wv mv vv : Value) (w : World) (hr : RdTb w t wv mv vv) : CnV Tryz.prog 119 #[tbV wv mv vv, vi p, vi q] w (vi (atF t p q)) := by
  have hr0 := hr
  have w2 := hv.w2
  have w5 := hv.w5
  have m2 := hv.m2
  have m5 := hv.m5
  have vl := hv.v
  obtain ⟨aw, cw, bw, ow, rfl, hadw, hcw⟩ := hr.ws.open
  obtain ⟨am, cm, bm, om, rfl, hadm, hcm⟩ := hr.ms.open
  obtain ⟨av, cv, bv, ov, us, rfl, hadv, hcv, hrow⟩ := hr.vs.open
  have hadw' := hadw (by omega)
  have hadm' := hadm (by omega)
  have hadv' := hadv (by omega)
  refine cnv (vs := [_, _, _]) Tryz.func119 rfl rfl ?_
  all_goals refine tc_seq fun K1 hK1 => ?_; refine tc_region ?_; refine tl_e (e_box rfl rfl rfl) rfl (fun b3 _ => ?_); refine tl_q (y_assign rfl) rfl ?_; refine tl_nil ?_; ((refine hK1 ?_; try (clear hK1; clear K1)))
  all_goals refine tc_seq fun K2 hK2 => ?_; refine tc_draw (by kernel_rfl) ?_; refine tx_p 0 rfl (by kernel_rfl) (y_field rfl) rfl (fun _ _ _ h => h) (fun _ h => h) ?_; refine tx_q 1 rfl (by kernel_rfl) (y_load1 rfl (by repeat constructor) (by rfl)) rfl (fun _ _ _ h => h) (fun _ h => h) ?_; refine tx_p 2 rfl (by kernel_rfl) (y_move rfl) rfl (fun _ _ _ h => h) (fun _ h => h) ?_; refine tx_p 4 rfl (by kernel_rfl) (y_field rfl) rfl (fun _ _ _ h => h) (fun _ h => h) ?_; refine tx_q 5 rfl (by kernel_rfl) (y_load1 rfl (by repeat constructor) (by rfl)) rfl (fun _ _ _ h => h) (fun _ h => h) ?_; refine tx_p 6 rfl (by kernel_rfl) (y_move rfl) rfl (fun _ _ _ h => h) (fun _ h => h) ?_; refine tx_e 3 rfl (by kernel_rfl) rfl (e_callX rfl (.cons rfl (.cons rfl .nil)) (fun w' hw' => cell_c t.ws (by omega) (by omega) p hp.1.1 _ w' (hr0.ws.fr (hw'.fr (w0 := w) (S := []) MI.m)))) (.inr fun _ _ h => h.sub (fun _ h => List.mem_cons_of_mem _ h) (List.Sublist.refl _)) (fun i hi => ?_); refine tx_e 7 rfl (by kernel_rfl) rfl (e_callX rfl (.cons rfl (.cons rfl .nil)) (fun w' hw' => cell_c t.ms (by omega) (by omega) q hp.2.1 _ w' (hr0.ms.fr (hw'.fr (w0 := w) (S := []) MI.m)))) (.inr fun _ _ h => h.sub (fun _ h => List.mem_cons_of_mem _ h) (List.Sublist.refl _)) (fun k hk => ?_); refine tx_p 8 rfl (by kernel_rfl) (y_assign rfl) rfl (fun _ _ _ h => h) (fun _ h => h) ?_; refine tx_p 9 rfl (by kernel_rfl) (y_assign rfl) rfl (fun _ _ _ h => h) (fun _ h => h) ?_; refine tx_done (by kernel_rfl) ?_; ((refine hK2 ?_; try (clear hK2; clear K2)))
  all_goals refine tc_seq fun K3 hK3 => ?_; ((obtain ⟨i, wi⟩ := i; obtain ⟨k, wk⟩ := k; dsimp only at hi hk ⊢))
  all_goals ((have hC := cellB hv hi.1 hk.1 hp; have hi1 := hi.1.1; have hk1 := hk.1.1))
  all_goals ((have z1 := hC.w0; have z2 := hC.m0; have z3 := hC.w1; have z4 := hC.m1; have z5 := hC.wb; have z6 := hC.mb; have z7 := hC.r0; have z8 := hC.r1; have z9 := hC.ww; have z10 := hC.mm))
  all_goals ((have g0 := pt_bd hC 0; have g1 := pt_bd hC 1; have g2 := pt_bd hC 2; have g3 := pt_bd hC 3; rw [pt0] at g0; rw [pt1] at g1; rw [pt2] at g2; rw [pt3] at g3; have gA := mulB (A := 40) (B := 60) ⟨by omega, z9.2⟩ ⟨by omega, z10.2⟩; have gB := mulB (a := 2 * (t.ws.getD (i + 1) 0 - t.ws.getD i 0)) (A := 80) (B := 60) ⟨by omega, by omega⟩ ⟨by omega, z10.2⟩))
  all_goals (have gC : 0 < 2 * (t.ws.getD (i + 1) 0 - t.ws.getD i 0) * (t.ms.getD (k + 1) 0 - t.ms.getD k 0) := Int.mul_pos (by omega) (by omega))
  all_goals (obtain ⟨ar0, cr0, br0, or0, her0, hadr0, hcr0⟩ := row_open (hrow w (Fr.refl [] w) i (by omega)))
  all_goals (obtain ⟨ar1, cr1, br1, or1, her1, hadr1, hcr1⟩ := row_open (hrow w (Fr.refl [] w) (i + 1) (by omega)))
  all_goals refine tc_draw (by kernel_rfl) ?_; refine tx_p 0 rfl (by kernel_rfl) (y_move rfl) rfl (fun _ _ _ h => h) (fun _ h => h) ?_; refine tx_p 1 rfl (by kernel_rfl) (y_field rfl) rfl (fun _ _ _ h => h) (fun _ h => h) ?_; refine tx_q 2 rfl (by kernel_rfl) (y_load1 rfl (by repeat constructor) (by rfl)) rfl (fun _ _ _ h => h) (fun _ h => h) ?_; refine tx_p 3 rfl (by kernel_rfl) (y_move rfl) rfl (fun _ _ _ h => h) (fun _ h => h) ?_; refine tx_p 4 rfl (by kernel_rfl) (y_index rfl rfl (by omega) hadw') rfl (fun _ _ _ h => h) (fun _ h => h) ?_; ((refine tx_q 5 rfl (by kernel_rfl) (y_load1o (v := vi (t.ws.getD i 0)) rfl (fun w' hw' => by rw [show Int.toNat (i : Int) * 1 = i from by omega]; exact hcw w' (hw'.fr (w0 := w) (S := []) MI.m) i (by omega))) rfl (fun _ _ _ h => h) (fun _ h => h) ?_))
  all_goals refine tx_p 6 rfl (by kernel_rfl) (y_sub rfl rfl (by omega)) rfl (fun _ _ _ h => h) (fun _ h => h) ?_; refine tx_p 7 rfl (by kernel_rfl) (y_move rfl) rfl (fun _ _ _ h => h) (fun _ h => h) ?_; refine tx_p 8 rfl (by kernel_rfl) (y_field rfl) rfl (fun _ _ _ h => h) (fun _ h => h) ?_; refine tx_q 9 rfl (by kernel_rfl) (y_load1 rfl (by repeat constructor) (by rfl)) rfl (fun _ _ _ h => h) (fun _ h => h) ?_; refine tx_p 10 rfl (by kernel_rfl) (y_move rfl) rfl (fun _ _ _ h => h) (fun _ h => h) ?_; refine tx_p 11 rfl (by kernel_rfl) (y_index rfl rfl (by omega) hadm') rfl (fun _ _ _ h => h) (fun _ h => h) ?_; ((refine tx_q 12 rfl (by kernel_rfl) (y_load1o (v := vi (t.ms.getD k 0)) rfl (fun w' hw' => by rw [show Int.toNat (k : Int) * 1 = k from by omega]; exact hcm w' (hw'.fr (w0 := w) (S := []) MI.m) k (by omega))) rfl (fun _ _ _ h => h) (fun _ h => h) ?_))
  all_goals refine tx_p 13 rfl (by kernel_rfl) (y_sub rfl rfl (by omega)) rfl (fun _ _ _ h => h) (fun _ h => h) ?_; refine tx_p 14 rfl (by kernel_rfl) (y_assign rfl) rfl (fun _ _ _ h => h) (fun _ h => h) ?_; refine tx_p 15 rfl (by kernel_rfl) (y_assign rfl) rfl (fun _ _ _ h => h) (fun _ h => h) ?_; refine tx_done (by kernel_rfl) ?_; ((refine hK3 ?_; try (clear hK3; clear K3)))
  all_goals refine tc_seq fun K4 hK4 => ?_; refine tc_draw (by kernel_rfl) ?_; refine tx_p 0 rfl (by kernel_rfl) (y_field rfl) rfl (fun _ _ _ h => h) (fun _ h => h) ?_; refine tx_q 1 rfl (by kernel_rfl) (y_load1 rfl (by repeat constructor) (by rfl)) rfl (fun _ _ _ h => h) (fun _ h => h) ?_; refine tx_p 2 rfl (by kernel_rfl) (y_move rfl) rfl (fun _ _ _ h => h) (fun _ h => h) ?_; refine tx_p 3 rfl (by kernel_rfl) (y_add rfl rfl (by omega)) rfl (fun _ _ _ h => h) (fun _ h => h) ?_; refine tx_p 4 rfl (by kernel_rfl) (y_index rfl rfl (by omega) hadw') rfl (fun _ _ _ h => h) (fun _ h => h) ?_; ((refine tx_q 5 rfl (by kernel_rfl) (y_load1o (v := vi (t.ws.getD (i + 1) 0)) rfl (fun w' hw' => by rw [show Int.toNat ((i : Int) + 1) * 1 = i + 1 from by omega]; exact hcw w' (hw'.fr (w0 := w) (S := []) MI.m) (i + 1) (by omega))) rfl (fun _ _ _ h => h) (fun _ h => h) ?_))
  all_goals refine tx_p 6 rfl (by kernel_rfl) (y_field rfl) rfl (fun _ _ _ h => h) (fun _ h => h) ?_; refine tx_q 7 rfl (by kernel_rfl) (y_load1 rfl (by repeat constructor) (by rfl)) rfl (fun _ _ _ h => h) (fun _ h => h) ?_; refine tx_p 8 rfl (by kernel_rfl) (y_move rfl) rfl (fun _ _ _ h => h) (fun _ h => h) ?_; refine tx_p 9 rfl (by kernel_rfl) (y_index rfl rfl (by omega) hadw') rfl (fun _ _ _ h => h) (fun _ h => h) ?_; ((refine tx_q 10 rfl (by kernel_rfl) (y_load1o (v := vi (t.ws.getD i 0)) rfl (fun w' hw' => by rw [show Int.toNat (i : Int) * 1 = i from by omega]; exact hcw w' (hw'.fr (w0 := w) (S := []) MI.m) i (by omega))) rfl (fun _ _ _ h => h) (fun _ h => h) ?_))
  all_goals refine tx_p 11 rfl (by kernel_rfl) (y_sub rfl rfl (by omega)) rfl (fun _ _ _ h => h) (fun _ h => h) ?_; refine tx_p 12 rfl (by kernel_rfl) (y_field rfl) rfl (fun _ _ _ h => h) (fun _ h => h) ?_; refine tx_q 13 rfl (by kernel_rfl) (y_load1 rfl (by repeat constructor) (by rfl)) rfl (fun _ _ _ h => h) (fun _ h => h) ?_; refine tx_p 14 rfl (by kernel_rfl) (y_move rfl) rfl (fun _ _ _ h => h) (fun _ h => h) ?_; refine tx_p 15 rfl (by kernel_rfl) (y_add rfl rfl (by omega)) rfl (fun _ _ _ h => h) (fun _ h => h) ?_; refine tx_p 16 rfl (by kernel_rfl) (y_index rfl rfl (by omega) hadm') rfl (fun _ _ _ h => h) (fun _ h => h) ?_; ((refine tx_q 17 rfl (by kernel_rfl) (y_load1o (v := vi (t.ms.getD (k + 1) 0)) rfl (fun w' hw' => by rw [show Int.toNat ((k : Int) + 1) * 1 = k + 1 from by omega]; exact hcm w' (hw'.fr (w0 := w) (S := []) MI.m) (k + 1) (by omega))) rfl (fun _ _ _ h => h) (fun _ h => h) ?_))
  all_goals refine tx_p 18 rfl (by kernel_rfl) (y_field rfl) rfl (fun _ _ _ h => h) (fun _ h => h) ?_; refine tx_q 19 rfl (by kernel_rfl) (y_load1 rfl (by repeat constructor) (by rfl)) rfl (fun _ _ _ h => h) (fun _ h => h) ?_; refine tx_p 20 rfl (by kernel_rfl) (y_move rfl) rfl (fun _ _ _ h => h) (fun _ h => h) ?_; refine tx_p 21 rfl (by kernel_rfl) (y_index rfl rfl (by omega) hadm') rfl (fun _ _ _ h => h) (fun _ h => h) ?_; ((refine tx_q 22 rfl (by kernel_rfl) (y_load1o (v := vi (t.ms.getD k 0)) rfl (fun w' hw' => by rw [show Int.toNat (k : Int) * 1 = k from by omega]; exact hcm w' (hw'.fr (w0 := w) (S := []) MI.m) k (by omega))) rfl (fun _ _ _ h => h) (fun _ h => h) ?_))
  all_goals refine tx_p 23 rfl (by kernel_rfl) (y_sub rfl rfl (by omega)) rfl (fun _ _ _ h => h) (fun _ h => h) ?_; refine tx_p 24 rfl (by kernel_rfl) (y_assign rfl) rfl (fun _ _ _ h => h) (fun _ h => h) ?_; refine tx_p 25 rfl (by kernel_rfl) (y_assign rfl) rfl (fun _ _ _ h => h) (fun _ h => h) ?_; refine tx_done (by kernel_rfl) ?_; ((refine hK4 ?_; try (clear hK4; clear K4)))
  all_goals refine tc_seq fun K5 hK5 => ?_; refine tc_region ?_; refine tl_q (y_assign rfl) rfl ?_; refine tl_nil ?_; ((refine hK5 ?_; try (clear hK5; clear K5)))
  all_goals refine tc_seq fun K6 hK6 => ?_; refine tc_seq fun K7 hK7 => ?_; refine tc_region ?_; refine tl_q (y_move rfl) rfl ?_; refine tl_q (y_move rfl) rfl ?_; refine tl_q (y_move rfl) rfl ?_; refine tl_q (y_move rfl) rfl ?_; refine tl_q (y_sub rfl rfl (by omega)) rfl ?_; refine tl_q (y_move rfl) rfl ?_; refine tl_q (y_move rfl) rfl ?_; refine tl_q (y_sub rfl rfl (by omega)) rfl ?_; refine tl_q (y_mul rfl rfl (by omega)) rfl ?_; refine tl_q (y_build_g (by repeat constructor)) rfl ?_; refine tl_q (y_move rfl) rfl ?_; refine tl_q (y_add rfl rfl (by omega)) rfl ?_; refine tl_q (y_move rfl) rfl ?_; refine tl_q (y_move rfl) rfl ?_; refine tl_q (y_move rfl) rfl ?_; refine tl_q (y_move rfl) rfl ?_; refine tl_q (y_sub rfl rfl (by omega)) rfl ?_; refine tl_q (y_mul rfl rfl (by omega)) rfl ?_; refine tl_q (y_build_g (by repeat constructor)) rfl ?_; refine tl_q (y_move rfl) rfl ?_; refine tl_q (y_move rfl) rfl ?_; refine tl_q (y_add rfl rfl (by omega)) rfl ?_; refine tl_q (y_move rfl) rfl ?_; refine tl_q (y_move rfl) rfl ?_; refine tl_q (y_sub rfl rfl (by omega)) rfl ?_; refine tl_q (y_move rfl) rfl ?_; refine tl_q (y_mul rfl rfl (by omega)) rfl ?_; refine tl_q (y_build_g (by repeat constructor)) rfl ?_; refine tl_q (y_move rfl) rfl ?_; refine tl_q (y_add rfl rfl (by omega)) rfl ?_; refine tl_q (y_move rfl) rfl ?_; refine tl_q (y_add rfl rfl (by omega)) rfl ?_; refine tl_q (y_move rfl) rfl ?_; refine tl_q (y_move rfl) rfl ?_; refine tl_q (y_mul rfl rfl (by omega)) rfl ?_; refine tl_q (y_build_g (by repeat constructor)) rfl ?_; refine tl_e (e_bsliceG rfl (.agg rfl rfl (.agg rfl rfl (.agg rfl rfl (.agg rfl rfl .nil)))) rfl rfl) rfl (fun b98 _ => ?_); refine tl_q (y_len rfl) rfl ?_; refine tl_q (y_move rfl) rfl ?_; refine tl_nil ?_; ((refine hK7 ?_; try (clear hK7; clear K7)))
  all_goals refine tc_block ?_
  all_goals (
   refine tc_loop (fun n : Nat => n ≤ 4) (fun n => [(3, ptr b3), (7, vi i), (8, vi k), (11, vi (t.ws.getD (i + 1) 0 - t.ws.getD i 0)), (12, vi (t.ms.getD (k + 1) 0 - t.ms.getD k 0)), (13, vi (smN t i k p q n)), (98, .slice (some ⟨b98, 0, none⟩) 4 4), (99, vi 4), (100, vi n)]) (fun _ => [(w, [])]) (fun _ => [(b98, .cells #[vi i, vi k, vi (ptN t i k p q 0), vi (i + 1), vi k, vi (ptN t i k p q 1), vi i, vi (k + 1), vi (ptN t i k p q 2), vi (i + 1), vi (k + 1), vi (ptN t i k p q 3)] 202 (0, 0)), (b3, tbP (.slice aw t.ws.length cw) (.slice am t.ms.length cm) (.slice av t.vs.length cv))]) (fun n => 4 - n) ?_ ?_
   · exact tk_start 0 (by omega) (.cons rfl (.cons rfl (.cons rfl (.cons rfl (.cons rfl (.cons rfl (.cons rfl (.cons rfl (.cons rfl .nil))))))))) (fun _ h => h.subl SB.s SB.s)
   · rintro n hn
     all_goals refine tc_seq fun K8 hK8 => ?_; refine tc_region ?_; refine tl_q (y_lss rfl rfl) rfl ?_; refine tl_nil ?_; ((refine hK8 ?_; try (clear hK8; clear K8)))
     all_goals refine tc_seq fun K9 hK9 => ?_
     all_goals (
      refine tc_cond rfl (fun hc => ?_) (fun hc => ?_)
      · try simp only [qn1, qn2, qn3, qn4, qn5, qn6, qn7, qn8] at hc
        all_goals refine tc_skip ?_; ((refine hK9 ?_; try (clear hK9; clear K9)))
        all_goals refine tc_seq fun K10 hK10 => ?_; refine tc_block ?_; refine tc_seq fun K11 hK11 => ?_; ((have hsb := sm_bd hC n (by omega); have hpb := pt_bd hC n; have hmb := mulB hpb.2 hpb.1))
        all_goals (rcases (show n = 0 ∨ n = 1 ∨ n = 2 ∨ n = 3 by omega) with rfl | rfl | rfl | rfl)
        all_goals (simp only [vt0, vt1, vt2, vt3] at hmb)
        all_goals refine tc_region ?_; refine tl_q (y_index rfl rfl (by omega) rfl) rfl ?_; ((refine tl_q (y_loadN rfl (by repeat constructor) (by (repeat (first | exact .nil | apply CA.cons rfl)); done)) rfl ?_))
        all_goals refine tl_e (e_allocN rfl) rfl (fun b15 _ => ?_); refine tl_e (e_storeW rfl rfl (by repeat constructor) (by rfl) (by rfl) (by simp [Value.oneCell'])) rfl (fun _ _ => ?_); refine tl_nil ?_; ((refine hK11 ?_; try (clear hK11; clear K11)))
        all_goals refine tc_draw (by kernel_rfl) ?_; refine tx_p 0 rfl (by kernel_rfl) (y_move rfl) rfl (fun _ _ _ h => h) (fun _ h => h) ?_; refine tx_p 1 rfl (by kernel_rfl) (y_field rfl) rfl (fun _ _ _ h => h) (fun _ h => h) ?_; refine tx_q 2 rfl (by kernel_rfl) (y_load1 rfl (by repeat constructor) (by rfl)) rfl (fun _ _ _ h => h) (fun _ h => h) ?_; refine tx_p 3 rfl (by kernel_rfl) (y_field rfl) rfl (fun _ _ _ h => h) (fun _ h => h) ?_; refine tx_q 4 rfl (by kernel_rfl) (y_load1 rfl (by repeat constructor) (by rfl)) rfl (fun _ _ _ h => h) (fun _ h => h) ?_; refine tx_p 5 rfl (by kernel_rfl) (y_index rfl rfl (by omega) hadv') rfl (fun _ _ _ h => h) (fun _ h => h) ?_; ((first | refine tx_q 6 rfl (by kernel_rfl) (y_load1o (v := .slice ar0 (t.vs.getD i []).length cr0) rfl (fun w' hw' => by rw [show Int.toNat (i : Int) * 1 = i from by omega, ← her0]; exact hcv w' (hw'.fr (w0 := w) (S := []) MI.m) i (by omega))) rfl (fun _ _ _ h => h) (fun _ h => h) ?_ | refine tx_q 6 rfl (by kernel_rfl) (y_load1o (v := .slice ar1 (t.vs.getD (i + 1) []).length cr1) rfl (fun w' hw' => by rw [show Int.toNat ((i : Int) + 1) * 1 = i + 1 from by omega, ← her1]; exact hcv w' (hw'.fr (w0 := w) (S := []) MI.m) (i + 1) (by omega))) rfl (fun _ _ _ h => h) (fun _ h => h) ?_))
        all_goals refine tx_p 7 rfl (by kernel_rfl) (y_field rfl) rfl (fun _ _ _ h => h) (fun _ h => h) ?_; refine tx_q 8 rfl (by kernel_rfl) (y_load1 rfl (by repeat constructor) (by rfl)) rfl (fun _ _ _ h => h) (fun _ h => h) ?_; (first | refine tx_p 9 rfl (by kernel_rfl) (y_index rfl rfl (by omega) (hadr0 (by omega))) rfl (fun _ _ _ h => h) (fun _ h => h) ?_ | refine tx_p 9 rfl (by kernel_rfl) (y_index rfl rfl (by omega) (hadr1 (by omega))) rfl (fun _ _ _ h => h) (fun _ h => h) ?_); ((first | refine tx_q 10 rfl (by kernel_rfl) (y_load1o (v := vi ((t.vs.getD i []).getD k 0)) rfl (fun w' hw' => by rw [show Int.toNat (k : Int) * 1 = k from by omega]; exact hcr0 w' (hw'.fr (w0 := w) (S := []) MI.m) k (by omega))) rfl (fun _ _ _ h => h) (fun _ h => h) ?_ | refine tx_q 10 rfl (by kernel_rfl) (y_load1o (v := vi ((t.vs.getD i []).getD (k + 1) 0)) rfl (fun w' hw' => by rw [show Int.toNat ((k : Int) + 1) * 1 = k + 1 from by omega]; exact hcr0 w' (hw'.fr (w0 := w) (S := []) MI.m) (k + 1) (by omega))) rfl (fun _ _ _ h => h) (fun _ h => h) ?_ | refine tx_q 10 rfl (by kernel_rfl) (y_load1o (v := vi ((t.vs.getD (i + 1) []).getD k 0)) rfl (fun w' hw' => by rw [show Int.toNat (k : Int) * 1 = k from by omega]; exact hcr1 w' (hw'.fr (w0 := w) (S := []) MI.m) k (by omega))) rfl (fun _ _ _ h => h) (fun _ h => h) ?_ | refine tx_q 10 rfl (by kernel_rfl) (y_load1o (v := vi ((t.vs.getD (i + 1) []).getD (k + 1) 0)) rfl (fun w' hw' => by rw [show Int.toNat ((k : Int) + 1) * 1 = k + 1 from by omega]; exact hcr1 w' (hw'.fr (w0 := w) (S := []) MI.m) (k + 1) (by omega))) rfl (fun _ _ _ h => h) (fun _ h => h) ?_))
        all_goals refine tx_p 11 rfl (by kernel_rfl) (y_field rfl) rfl (fun _ _ _ h => h) (fun _ h => h) ?_; refine tx_q 12 rfl (by kernel_rfl) (y_load1 rfl (by repeat constructor) (by rfl)) rfl (fun _ _ _ h => h) (fun _ h => h) ?_; refine tx_p 13 rfl (by kernel_rfl) (y_mul rfl rfl (by omega)) rfl (fun _ _ _ h => h) (fun _ h => h) ?_; refine tx_p 14 rfl (by kernel_rfl) (y_add rfl rfl (by omega)) rfl (fun _ _ _ h => h) (fun _ h => h) ?_; refine tx_p 15 rfl (by kernel_rfl) (y_assign rfl) rfl (fun _ _ _ h => h) (fun _ h => h) ?_; refine tx_done (by kernel_rfl) ?_; ((refine hK10 ?_; try (clear hK10; clear K10)))
        all_goals refine tc_region ?_; refine tl_q (y_add rfl rfl (by omega)) rfl ?_; refine tl_q (y_move rfl) rfl ?_; refine tl_nil ?_
        all_goals (
         first
         | exact tk_round 1 (by omega) (by omega) (.cons rfl (.cons rfl (.cons rfl (.cons rfl (.cons rfl (.cons rfl (.cons rfl (.cons rfl (.cons rfl .nil))))))))) (fun _ h => h.subl SB.s SB.s)
         | exact tk_round 2 (by omega) (by omega) (.cons rfl (.cons rfl (.cons rfl (.cons rfl (.cons rfl (.cons rfl (.cons rfl (.cons rfl (.cons rfl .nil))))))))) (fun _ h => h.subl SB.s SB.s)
         | exact tk_round 3 (by omega) (by omega) (.cons rfl (.cons rfl (.cons rfl (.cons rfl (.cons rfl (.cons rfl (.cons rfl (.cons rfl (.cons rfl .nil))))))))) (fun _ h => h.subl SB.s SB.s)
         | exact tk_round 4 (by omega) (by omega) (.cons rfl (.cons rfl (.cons rfl (.cons rfl (.cons rfl (.cons rfl (.cons rfl (.cons rfl (.cons rfl .nil))))))))) (fun _ h => h.subl SB.s SB.s))
      · try simp only [qn1, qn2, qn3, qn4, qn5, qn6, qn7, qn8] at hc
        all_goals refine tc_exit ?_; ((refine hK6 ?_; try (clear hK6; clear K6)))
        all_goals refine tc_seq fun K12 hK12 => ?_; (obtain rfl : n = 4 := by omega)
        all_goals (have hsb := sm_bd hC 4 (by omega))
        all_goals refine tc_region ?_; refine tl_q (y_move rfl) rfl ?_; refine tl_q (y_mul rfl rfl (by omega)) rfl ?_; refine tl_q (y_move rfl) rfl ?_; refine tl_q (y_move rfl) rfl ?_; refine tl_q (y_mul rfl rfl (by omega)) rfl ?_; refine tl_q (y_add rfl rfl (by omega)) rfl ?_; refine tl_q (y_move rfl) rfl ?_; refine tl_q (y_mul rfl rfl (by omega)) rfl ?_; refine tl_q (y_move rfl) rfl ?_; refine tl_q (y_mul rfl rfl (by omega)) rfl ?_; refine tl_q (y_quo rfl rfl (by omega) (by omega)) rfl ?_; refine tl_q (y_assign rfl) rfl ?_; refine tl_nil ?_; ((refine hK12 ?_; try (clear hK12; clear K12)))
        all_goals refine tc_ret ?_; (repeat (first | refine tk_then_ret ?_))
        all_goals (refine tk_ret rfl rfl (.cons (.tmp rfl) .nil) ?_)
        all_goals (
         rw [at_eq hv hC]
         exact fun w' hw' => ⟨rfl, hw'.fr (w0 := w) (S := []) MI.m⟩)))
end Go.Sp
/-
  Package table: the bounds at one warmth.
-/
namespace Go.Sp
open Go Go.Proofs
theorem tmin_c (a b : Int) (sl : Value) (w : World) (hr : RdI w sl [a, b]) : CnV Tryz.prog 105 #[sl] w (vi (min a b)) := by
  refine cnv (vs := [_]) Tryz.func105 rfl rfl ?_
  all_goals refine tc_seq fun K1 hK1 => ?_; refine tc_region ?_; refine tl_q (y_assign rfl) rfl ?_; refine tl_nil ?_; ((refine hK1 ?_; try (clear hK1; clear K1)))
  all_goals refine tc_seq fun K2 hK2 => ?_; refine tc_region ?_; refine tl_q (y_move rfl) rfl ?_; refine tl_e (e_callV rfl (.cons rfl .nil) (fun w' hw' => min_c a b _ w' (hr.fr (hw'.fr (by simp))))) rfl (fun _ _ => ?_); refine tl_q (y_assign rfl) rfl ?_; refine tl_nil ?_; ((refine hK2 ?_; try (clear hK2; clear K2)))
  all_goals refine tc_ret ?_; (repeat (first | refine tk_then_ret ?_))
  all_goals (refine tk_ret rfl rfl (.cons (.tmp rfl) .nil) ?_)
  all_goals (
   exact fun w' hw' => ⟨rfl, hw'.fr (by simp)⟩)
abbrev rgT (r : Int × Int) : Obj := .cells #[vi r.1, vi r.2] 161 (0, 0)
theorem strengths_c (r1 r2 : Int × Int) (wv mv vv : Value) (h1 : wv.oneCell' = true) (h2 : mv.oneCell' = true) (h3 : vv.oneCell' = true) (w : World) :
    CnX Tryz.prog 104 #[tbV wv mv vv, .agg #[vi r1.1, vi r1.2], .agg #[vi r2.1, vi r2.2]] w [] (fun q : Nat × Nat × Nat => .func (.func 118) #[] #[ptr q.2.2, ptr q.2.1, ptr q.1])
      (fun q w' => True ∧ (∀ p ∈ [(q.2.2, rgT r2), (q.2.1, rgT r1), (q.1, tbP wv mv vv)], w.heap.size ≤ p.1 ∧ w'.heap[p.1]? = some p.2) ∧ ([(q.2.2, rgT r2), (q.2.1, rgT r1), (q.1, tbP wv mv vv)].map Prod.fst).Nodup) := by
  refine cnx0 (vs := [_, _, _]) Tryz.func104 rfl rfl ?_
  all_goals refine tc_seq fun K1 hK1 => ?_; refine tc_region ?_; refine tl_e (e_box rfl rfl rfl) rfl (fun b3 _ => ?_); refine tl_e (e_box rfl rfl rfl) rfl (fun b4 _ => ?_); refine tl_e (e_box rfl rfl rfl) rfl (fun b5 _ => ?_); refine tl_q (y_assign rfl) rfl ?_; refine tl_nil ?_; ((refine hK1 ?_; try (clear hK1; clear K1)))
  all_goals refine tc_seq fun K2 hK2 => ?_; refine tc_region ?_; refine tl_q (y_fn .nil (.cons rfl (.cons rfl (.cons rfl .nil)))) rfl ?_; refine tl_q (y_assign rfl) rfl ?_; refine tl_nil ?_; ((refine hK2 ?_; try (clear hK2; clear K2)))
  all_goals refine tc_ret ?_; (repeat (first | refine tk_then_ret ?_))
  all_goals (refine tk_ret rfl rfl (.cons (.tmp rfl) .nil) ?_)
  all_goals (
   refine fun w' hw' => ⟨(b3, b4, b5), rfl, hw'.fr (w0 := w) (S := []) MI.m, trivial, fun p hp => ?_, ?_⟩
   · rcases List.mem_cons.1 hp with rfl | hp
     · exact ⟨(hw'.own _ (HM.mem (b := b5) (by repeat constructor)) (w, []) (by simp)).resolve_left (by simp), hw'.heap _ (HM.mem (b := b5) (by repeat constructor))⟩
     · rcases List.mem_cons.1 hp with rfl | hp
       · exact ⟨(hw'.own _ (HM.mem (b := b4) (by repeat constructor)) (w, []) (by simp)).resolve_left (by simp), hw'.heap _ (HM.mem (b := b4) (by repeat constructor))⟩
       · obtain rfl := List.mem_singleton.1 hp
         exact ⟨(hw'.own _ (HM.mem (b := b3) (by repeat constructor)) (w, []) (by simp)).resolve_left (by simp), hw'.heap _ (HM.mem (b := b3) (by repeat constructor))⟩
   · have := hw'.nodup
     exact this)
theorem lt_ofB {w : World} {b : Nat} {o : Obj} (h : w.heap[b]? = some o) : b < w.heap.size := (Array.getElem?_eq_some_iff.1 h).1
theorem KnS.memB {H : List (Nat × Obj)} {S : List Nat} {w1 : World} (h : KnS H S w1 w1) : ∀ p ∈ H, p.1 ∈ S := fun p hp =>
  (h.own p.1 (List.mem_map.2 ⟨p, hp, rfl⟩)).resolve_right (fun hh => by
    have := h.kn p hp
    rw [Array.getElem?_eq_none hh] at this; cases this)
noncomputable def encS (t : Tab) (p lo : Int) (k : Nat) : List Value := [vi (lo + k), vi (atF t p (lo + k))]
set_option maxHeartbeats 4000000 in
theorem strengths_seq (t : Tab) (hv : VTab t) (p lo hi : Int) (hl : 0 ≤ lo ∧ hi ≤ 60 ∧ lo ≤ hi + 1) (hp0 : 0 ≤ p ∧ p ≤ 40) (hp : ∀ m, lo ≤ m → m ≤ hi → IsPt t p m) (wv mv vv : Value) (w : World) (b3 b4 b5 : Nat) (S0 : List Nat) (h3 : w.heap[b3]? = some (tbP wv mv vv)) (hb3 : b3 ∉ S0) (h4 : w.heap[b4]? = some (rgT (p, p))) (hb4 : b4 ∉ S0) (h5 : w.heap[b5]? = some (rgT (lo, hi))) (hb5 : b5 ∉ S0) (hrd : ∀ w', Fr S0 w w' → RdTb w' t wv mv vv) :
    Seq Tryz.prog 118 #[ptr b5, ptr b4, ptr b3] (encS t p lo) (List.range (hi - lo + 1).toNat) S0 w := by
  intro σ l0 S Hx I J s0 w1 f0 hS hK0 h0 hY
  have hnS : ∀ x, x ∉ S0 → x < w.heap.size → x ∉ S := fun x hx hl hm => (hS x hm).elim hx (fun g => by omega)
  have n3 := hnS b3 hb3 (lt_ofB h3)
  have n4 := hnS b4 hb4 (lt_ofB h4)
  have n5 := hnS b5 hb5 (lt_ofB h5)
  have g3 := f0.keep h3
  have g4 := f0.keep h4
  have g5 := f0.keep h5
  have hrd1 : ∀ w', Fr S w1 w' → RdTb w' t wv mv vv := fun w' f => hrd w' (f0.mono (fun x hx => by simp at hx) |>.trans f (fun x hx => hS x hx))
  rw [show (#[.func (.yield l0) #[] #[]] ++ #[ptr b5, ptr b4, ptr b3] : Array Value) = #[.func (.yield l0) #[] #[], ptr b5, ptr b4, ptr b3] from by simp]
  refine cnxS (vs := [_, _, _, _]) (S := S) (Hx s0) Tryz.func118 rfl rfl ⟨hK0.kn, hK0.nd, hK0.memB⟩ ?_
  all_goals refine tc_seq fun K1 hK1 => ?_; refine tc_region ?_; refine tl_q (y_field rfl) rfl ?_; refine tl_q (y_load1o (v := vi lo) rfl (fun w' hw' => cell0 ((hw'.fr (w0 := w1) (S := S) MI.m).keepS n5 g5) rfl)) rfl ?_; refine tl_q (y_assign rfl) rfl ?_; refine tl_nil ?_; ((refine hK1 ?_; try (clear hK1; clear K1)))
  all_goals refine tc_block ?_
  all_goals (
   refine tc_loop (fun x : Nat × σ => (lo + (x.1 : Int) ≤ hi + 1) ∧ I x.1 x.2) (fun x => [(0, .func (.yield l0) #[] #[]), (1, ptr b5), (2, ptr b4), (3, ptr b3), (5, vi (lo + x.1))]) (fun _ => [(w1, S)]) (fun x => Hx x.2) (fun x => (hi + 1 - lo - x.1).toNat) ?_ ?_
   · exact tk_start (0, s0) ⟨by dsimp only; omega, h0⟩ (.cons rfl (.cons rfl (.cons rfl (.cons rfl (.cons (by rw [show lo + (((0 : Nat), s0).1 : Int) = lo by dsimp only; omega]; rfl) .nil))))) (fun _ h => h)
   · rintro ⟨k, st⟩ ⟨hkl, hI⟩
     dsimp only at hkl hI ⊢
     all_goals refine tc_seq fun K2 hK2 => ?_; refine tc_seq fun K3 hK3 => ?_; refine tc_region ?_; refine tl_q (y_move rfl) rfl ?_; refine tl_q (y_field rfl) rfl ?_; refine tl_q (y_load1o (v := vi hi) rfl (fun w' hw' => cell0 ((hw'.fr (w0 := w1) (S := S) MI.m).keepS n5 g5) rfl)) rfl ?_; refine tl_q (y_leq rfl rfl) rfl ?_; refine tl_nil ?_; ((refine hK3 ?_; try (clear hK3; clear K3)))
     all_goals (
      refine tc_cond rfl (fun hc => ?_) (fun hc => ?_)
      · try simp only [qn1, qn2, qn3, qn4, qn5, qn6, qn7, qn8] at hc
        all_goals refine tc_skip ?_; ((refine hK2 ?_; try (clear hK2; clear K2)))
        all_goals refine tc_seq fun K4 hK4 => ?_; refine tc_block ?_; refine tc_seq fun K5 hK5 => ?_; refine tc_region ?_; refine tl_q (y_field rfl) rfl ?_; refine tl_q (y_load1o (v := vi p) rfl (fun w' hw' => cell0 ((hw'.fr (w0 := w1) (S := S) MI.m).keepS n4 g4) rfl)) rfl ?_; refine tl_q (y_assign rfl) rfl ?_; refine tl_nil ?_; ((refine hK5 ?_; try (clear hK5; clear K5)))
        all_goals refine tc_block ?_
        all_goals (
         refine tc_loop (fun x : Int × Nat × σ => ((x.1 = p ∧ x.2.1 = k) ∨ (x.1 = p + 1 ∧ x.2.1 = k + 1)) ∧ I x.2.1 x.2.2) (fun x => [(0, .func (.yield l0) #[] #[]), (1, ptr b5), (2, ptr b4), (3, ptr b3), (5, vi (lo + k)), (6, vi x.1)]) (fun _ => [(w1, S)]) (fun x => Hx x.2.2) (fun x => (p + 1 - x.1).toNat) ?_ ?_
         · exact tk_start (p, k, st) ⟨.inl ⟨rfl, rfl⟩, hI⟩ (.cons rfl (.cons rfl (.cons rfl (.cons rfl (.cons rfl (.cons rfl .nil)))))) (fun _ h => h)
         · rintro ⟨q, k', st2⟩ ⟨hq, hI2⟩
           dsimp only at hq hI2 ⊢
           all_goals refine tc_seq fun K6 hK6 => ?_; refine tc_seq fun K7 hK7 => ?_; refine tc_region ?_; refine tl_q (y_move rfl) rfl ?_; refine tl_q (y_field rfl) rfl ?_; refine tl_q (y_load1o (v := vi p) rfl (fun w' hw' => cell0 ((hw'.fr (w0 := w1) (S := S) MI.m).keepS n4 g4) rfl)) rfl ?_; refine tl_q (y_leq rfl rfl) rfl ?_; refine tl_nil ?_; ((refine hK7 ?_; try (clear hK7; clear K7)))
           all_goals (
            refine tc_cond rfl (fun hc => ?_) (fun hc => ?_)
            · try simp only [qn1, qn2, qn3, qn4, qn5, qn6, qn7, qn8] at hc
              all_goals refine tc_skip ?_; ((refine hK6 ?_; try (clear hK6; clear K6)))
              all_goals refine tc_seq fun K8 hK8 => ?_; refine tc_block ?_; refine tc_seq fun K9 hK9 => ?_; (obtain ⟨rfl, rfl⟩ : q = p ∧ k' = k := hq.resolve_right (fun h => by omega))
              all_goals (have hpk := hp (lo + k') (by omega) (by omega))
              all_goals refine tc_region ?_; refine tl_q (y_move rfl) rfl ?_; refine tl_q (y_move rfl) rfl ?_; refine tl_q (y_loadNo (n := 3) (vs := [wv, mv, vv]) rfl (fun w' hw' => (CA_whole (c := #[wv, mv, vv]) (t := 58) (f := (0, 0)) rfl).cells ((hw'.fr (w0 := w1) (S := S) MI.m).keepS n3 g3))) rfl ?_; refine tl_q (y_move rfl) rfl ?_; refine tl_q (y_move rfl) rfl ?_; refine tl_e (e_callV rfl (.cons rfl (.cons rfl (.cons rfl .nil))) (fun w' hw' => at_c t hv q (lo + k') hpk _ _ _ w' (hrd1 w' (hw'.fr (w0 := w1) (S := S) MI.m)))) rfl (fun _ _ => ?_); refine tl_r (e_yield [] k' st2 k' rfl rfl rfl (.cons rfl (.cons rfl .nil)) rfl (List.getElem?_range (by omega)) hI2 hY (by simp) (List.append_nil _).symm) rfl (fun y hy => ?_)
              all_goals (refine tl_q (y_not rfl) rfl ?_); refine tl_nil ?_; ((refine hK9 ?_; try (clear hK9; clear K9)))
              all_goals (
               refine tc_cond rfl (fun hc => ?_) (fun hc => ?_)
               · try simp only [qn1, qn2, qn3, qn4, qn5, qn6, qn7, qn8] at hc
                 all_goals refine tc_ret ?_; (repeat (first | refine tk_then_ret ?_ | refine tk_block_ret ?_))
                 all_goals (refine tk_ret rfl rfl .nil ?_)
                 all_goals (
                  first
                  | (rcases hy with hy | hy
                     · rw [hy.1] at hc; cases hc
                     · exact fun w' hw' => ⟨y.2, rfl, hw'.fr (w0 := w1) (S := S) MI.m, (by rw [List.append_nil] at hw'; exact hw'.knS MI.m), .inr hy.2⟩)
                  | (have hke : k = (hi - lo + 1).toNat := by omega
                     subst hke
                     exact fun w' hw' => ⟨st, rfl, hw'.fr (w0 := w1) (S := S) MI.m, hw'.knS MI.m, .inl (by rw [List.length_range]; exact hI)⟩))
               · try simp only [qn1, qn2, qn3, qn4, qn5, qn6, qn7, qn8] at hc
                 all_goals refine tc_skip ?_; ((refine hK8 ?_; try (clear hK8; clear K8)))
                 all_goals refine tc_region ?_; refine tl_q (y_move rfl) rfl ?_; refine tl_q (y_add rfl rfl (by omega)) rfl ?_; refine tl_q (y_assign rfl) rfl ?_; refine tl_nil ?_
                 all_goals (
                  rcases hy with hy | hy
                  · exact tk_round (q + 1, k' + 1, y.2) ⟨.inr ⟨rfl, rfl⟩, hy.2⟩ (by dsimp only; omega) (.cons rfl (.cons rfl (.cons rfl (.cons rfl (.cons rfl (.cons rfl .nil)))))) (fun _ h => by simpa using h)
                  · rw [hy.1] at hc; cases hc))
            · try simp only [qn1, qn2, qn3, qn4, qn5, qn6, qn7, qn8] at hc
              all_goals refine tc_exit ?_; ((refine hK4 ?_; try (clear hK4; clear K4)))
              all_goals refine tc_region ?_; refine tl_q (y_move rfl) rfl ?_; refine tl_q (y_add rfl rfl (by omega)) rfl ?_; refine tl_q (y_assign rfl) rfl ?_; refine tl_nil ?_
              all_goals (
               obtain ⟨rfl, rfl⟩ : q = p + 1 ∧ k' = k + 1 := hq.resolve_left (fun h => by omega)
               exact tk_round (k + 1, st2) ⟨by dsimp only; omega, hI2⟩ (by dsimp only; omega) (.cons rfl (.cons rfl (.cons rfl (.cons rfl (.cons (by rw [show lo + ((k + 1 : Nat) : Int) = lo + k + 1 by omega]; rfl) .nil))))) (fun _ h => by simpa using h))))
      · try simp only [qn1, qn2, qn3, qn4, qn5, qn6, qn7, qn8] at hc
        all_goals refine tc_exit ?_; refine tk_end rfl rfl .nil ?_
        all_goals (
         first
         | (rcases hy with hy | hy
            · rw [hy.1] at hc; cases hc
            · exact fun w' hw' => ⟨y.2, rfl, hw'.fr (w0 := w1) (S := S) MI.m, (by rw [List.append_nil] at hw'; exact hw'.knS MI.m), .inr hy.2⟩)
         | (have hke : k = (hi - lo + 1).toNat := by omega
            subst hke
            exact fun w' hw' => ⟨st, rfl, hw'.fr (w0 := w1) (S := S) MI.m, hw'.knS MI.m, .inl (by rw [List.length_range]; exact hI)⟩))))
end Go.Sp
/-
  Package table: Bounds, at one warmth.
-/
namespace Go.Sp
open Go Go.Proofs
theorem nd_ne {l : List Nat} {a b : Nat} (h : l.Nodup) (hs : SB [a, b] l) : ¬ a = b := by
  have := h.sublist hs.s
  simpa using this
theorem bnd2_eq {t : Tab} (hv : VTab t) {p lo hi : Int} (hp : ∀ m, lo ≤ m → m ≤ hi → IsPt t p m) (h : lo ≤ hi) : bndF t p lo (2000, 0) (hi - lo + 1).toNat = bnd2 t p lo hi := by
  unfold bnd2
  obtain ⟨k, hk⟩ : ∃ k : Nat, (hi - lo + 1).toNat = k + 1 := ⟨(hi - lo + 1).toNat - 1, by omega⟩
  rw [hk]
  exact (bndF_eq hv (fun i hi' => hp _ (by omega) (by omega))).symm
set_option maxHeartbeats 1000000 in
theorem tBoundsP_c (t : Tab) (hv : VTab t) (p lo hi : Int) (hw : t.ws.getD 0 0 ≤ p ∧ p ≤ lastL t.ws) (hm : t.ms.getD 0 0 ≤ lo ∧ lo ≤ hi ∧ hi ≤ lastL t.ms) (wv mv vv : Value) (w : World) (hr : RdTb w t wv mv vv) : CnV Tryz.prog 80 #[tbV wv mv vv, .agg #[vi p, vi p], .agg #[vi lo, vi hi]] w (.tuple #[rV (bnd2 t p lo hi), vi 0]) := by
  have hr0 := hr
  have w2 := hv.w2
  have w5 := hv.w5
  have m2 := hv.m2
  have m5 := hv.m5
  have hw0 := hv.w0
  have hm0 := hv.m0
  have hp : ∀ m, lo ≤ m → m ≤ hi → IsPt t p m := fun m h1 h2 => by unfold lastL at hw hm; exact ⟨by omega, by omega⟩
  have o1 := hr.ws.one
  have o2 := hr.ms.one
  have o3 := hr.vs.one
  obtain ⟨K, hK⟩ : ∃ K, K = (hi - lo + 1).toNat := ⟨_, rfl⟩
  refine cnv (vs := [_, _, _]) Tryz.func80 rfl rfl ?_
  all_goals refine tc_seq fun K1 hK1 => ?_; refine tc_region ?_; refine tl_e (e_box rfl rfl rfl) rfl (fun b3 _ => ?_); refine tl_e (e_box rfl rfl rfl) rfl (fun b4 _ => ?_); refine tl_e (e_box rfl rfl rfl) rfl (fun b5 _ => ?_); refine tl_e (e_allocN rfl) rfl (fun b6 _ => ?_); refine tl_q (y_assign rfl) rfl ?_; refine tl_nil ?_; ((refine hK1 ?_; try (clear hK1; clear K1)))
  all_goals refine tc_seq fun K2 hK2 => ?_; refine tc_seq fun K3 hK3 => ?_; refine tc_region ?_; refine tl_q (y_loadW rfl (by repeat constructor) (by rfl)) rfl ?_; refine tl_e (e_callV rfl (.cons rfl .nil) (fun w' hw' => checkTable_c t hv _ _ _ w' (hr0.fr (hw'.fr (w0 := w) (S := []) MI.m)))) rfl (fun _ _ => ?_); refine tl_q (y_assign rfl) rfl ?_; refine tl_nil ?_; ((refine hK3 ?_; try (clear hK3; clear K3)))
  all_goals refine tc_seq fun K4 hK4 => ?_; refine tc_region ?_; refine tl_q (y_move rfl) rfl ?_; refine tl_q (y_neq rfl rfl) rfl ?_; refine tl_nil ?_; ((refine hK4 ?_; try (clear hK4; clear K4)))
  all_goals (
   refine tc_cond rfl (fun hc => ?_) (fun hc => ?_)
   · try simp only [qn1, qn2, qn3, qn4, qn5, qn6, qn7, qn8] at hc
   · try simp only [qn1, qn2, qn3, qn4, qn5, qn6, qn7, qn8] at hc
     all_goals refine tc_skip ?_; ((refine hK2 ?_; try (clear hK2; clear K2)))
     all_goals refine tc_seq fun K6 hK6 => ?_; refine tc_seq fun K7 hK7 => ?_; refine tc_draw (by kernel_rfl) ?_; refine tx_p 0 rfl (by kernel_rfl) (y_field rfl) rfl (fun _ _ _ h => h) (fun _ h => h) ?_; refine tx_q 1 rfl (by kernel_rfl) (y_load1 rfl (by repeat constructor) (by rfl)) rfl (fun _ _ _ h => h) (fun _ h => h) ?_; refine tx_q 3 rfl (by kernel_rfl) (y_loadW rfl (by repeat constructor) (by rfl)) rfl (fun _ _ _ h => h) (fun _ h => h) ?_; refine tx_e 2 rfl (by kernel_rfl) rfl (e_callV rfl (.cons rfl .nil) (fun w' hw' => span_c t.ws (by omega) (by omega) _ w' (hr0.ws.fr (hw'.fr (w0 := w) (S := []) MI.m)))) (.inr fun _ _ h => h) (fun _ _ => ?_); refine tx_e 4 rfl (by kernel_rfl) rfl (e_callV rfl (.cons rfl (.cons rfl .nil)) (fun w' _ => tholds_c _ _ _ _ w')) (.inr fun _ _ h => h) (fun _ _ => ?_); refine tx_p 5 rfl (by kernel_rfl) (y_not_dec rfl) rfl (fun _ _ _ h => h) (fun _ h => h) ?_; refine tx_p 6 rfl (by kernel_rfl) (y_move rfl) rfl (fun _ _ _ h => h) (fun _ h => h) ?_; ((refine tx_gs 24 rfl (fun hc => ?_) (fun hc => ?_) <;> (try simp only [qn1, qn2, qn3, qn4, qn5, qn6, qn7, qn8] at hc) <;> (first | (exfalso; omega) | refine tx_pg 7 rfl (by kernel_rfl) rfl rfl (y_field rfl) rfl (fun _ _ _ h => h) (fun _ h => h) ?_)))
     all_goals (refine tx_qg 8 rfl (by kernel_rfl) rfl rfl (y_load1 rfl (by repeat constructor) (by rfl)) rfl (fun _ _ _ h => h) (fun _ h => h) ?_); refine tx_qg 10 rfl (by kernel_rfl) rfl rfl (y_loadW rfl (by repeat constructor) (by rfl)) rfl (fun _ _ _ h => h) (fun _ h => h) ?_; refine tx_eg 9 rfl (by kernel_rfl) rfl rfl rfl (e_callV rfl (.cons rfl .nil) (fun w' hw' => span_c t.ms (by omega) (by omega) _ w' (hr0.ms.fr (hw'.fr (w0 := w) (S := []) MI.m)))) (.inr fun _ _ h => h) (fun _ _ => ?_); refine tx_eg 11 rfl (by kernel_rfl) rfl rfl rfl (e_callV rfl (.cons rfl (.cons rfl .nil)) (fun w' _ => tholds_c _ _ _ _ w')) (.inr fun _ _ h => h) (fun _ _ => ?_); refine tx_pg 12 rfl (by kernel_rfl) rfl rfl (y_not_dec rfl) rfl (fun _ _ _ h => h) (fun _ h => h) ?_; refine tx_p 13 rfl (by kernel_rfl) (y_pick_f rfl rfl) rfl (fun _ _ _ h => h) (fun _ h => h) ?_; refine tx_done (by kernel_rfl) ?_; ((refine hK7 ?_; try (clear hK7; clear K7)))
     all_goals (
      refine tc_cond rfl (fun hc => ?_) (fun hc => ?_)
      · try simp only [qn1, qn2, qn3, qn4, qn5, qn6, qn7, qn8] at hc
        all_goals ((exfalso; omega))
      · try simp only [qn1, qn2, qn3, qn4, qn5, qn6, qn7, qn8] at hc
        all_goals refine tc_skip ?_; ((refine hK6 ?_; try (clear hK6; clear K6)))
        all_goals refine tc_seq fun K9 hK9 => ?_; refine tc_region ?_; refine tl_q (y_build_g (by repeat constructor)) rfl ?_; refine tl_e (e_allocN rfl) rfl (fun b9 _ => ?_); refine tl_e (e_storeW rfl rfl (by repeat constructor) (by rfl) (by rfl) (by simp [Value.oneCell'])) rfl (fun _ _ => ?_); refine tl_nil ?_; ((refine hK9 ?_; try (clear hK9; clear K9)))
        all_goals refine tc_seq fun K10 hK10 => ?_; refine tc_seq fun K11 hK11 => ?_; refine tc_region ?_; refine tl_q (y_loadW rfl (by repeat constructor) (by rfl)) rfl ?_; refine tl_q (y_loadW rfl (by repeat constructor) (by rfl)) rfl ?_; refine tl_q (y_loadW rfl (by repeat constructor) (by rfl)) rfl ?_; refine tl_e (e_callN rfl (.cons rfl (.cons rfl (.cons rfl .nil))) (fun w' hw' => strengths_c (p, p) (lo, hi) wv mv vv o1 o2 o3 w')) rfl (fun q hq => ?_); refine tl_nil ?_; ((refine hK11 ?_; try (clear hK11; clear K11)))
        all_goals refine tc_block ?_
        all_goals (
         obtain ⟨q1, q2, q3⟩ := q
         dsimp only
         refine tc_range (α := Nat) (σ := Nat) (gf := 118) (lb := #[ptr q3, ptr q2, ptr q1]) (enc := encS t p lo) (List.range (hi - lo + 1).toNat) [b9, b6] (fun n => [(b9, rgT (bndF t p lo (2000, 0) n)), (b6, rgT (0, 0))]) (fun i n => n = i) (fun _ _ => False) 0 rfl rfl (fun _ => rfl) rfl (by simp) (fun _ h => h.subl SB.s SB.s) (fun w' hw' => ?hseq) ?_ ?_ ?_
         case hseq =>
           have hnd := hw'.nodup
           have h9 : w.heap.size ≤ b9 := (hw'.own _ (HM.mem (b := b9) (by repeat constructor)) (w, []) (by simp)).resolve_left (by simp)
           have h6 : w.heap.size ≤ b6 := (hw'.own _ (HM.mem (b := b6) (by repeat constructor)) (w, []) (by simp)).resolve_left (by simp)
           have a3 : w'.heap[q1]? = some (tbP wv mv vv) := hw'.at (by repeat constructor)
           have a4 : w'.heap[q2]? = some (rgT (p, p)) := hw'.at (by repeat constructor)
           have a5 : w'.heap[q3]? = some (rgT (lo, hi)) := hw'.at (by repeat constructor)
           have n3 : q1 ∉ [b9, b6] := by simpa using ⟨nd_ne hnd (a := q1) (b := b9) (by repeat constructor), nd_ne hnd (a := q1) (b := b6) (by repeat constructor)⟩
           have n4 : q2 ∉ [b9, b6] := by simpa using ⟨nd_ne hnd (a := q2) (b := b9) (by repeat constructor), nd_ne hnd (a := q2) (b := b6) (by repeat constructor)⟩
           have n5 : q3 ∉ [b9, b6] := by simpa using ⟨nd_ne hnd (a := q3) (b := b9) (by repeat constructor), nd_ne hnd (a := q3) (b := b6) (by repeat constructor)⟩
           have fw := hw'.fr (w0 := w) (S := []) MI.m
           exact strengths_seq t hv p lo hi (by omega) (by omega) hp _ _ _ w' q1 q2 q3 [b9, b6] a3 n3 a4 n4 a5 n5 (fun w'' f => hr0.fr (fw.trans f (fun x hx => .inr (by rcases (by simpa using hx : x = b9 ∨ x = b6) with rfl | rfl <;> assumption))))
         · intro l R0 R1 i n x w2 hx hI K0 hK
           obtain rfl := hI
           obtain ⟨hxl, hxe⟩ := List.getElem?_eq_some_iff.1 hx
           simp only [List.length_range, List.getElem_range] at hxl hxe
           subst hxe
           all_goals refine tc_region ?_; refine tl_q (y_assign rfl) rfl ?_; refine tl_nil ?_; refine hK ?_; clear hK
           all_goals refine tc_block ?_; refine tc_draw (by kernel_rfl) ?_; refine tx_p 0 rfl (by kernel_rfl) (y_field rfl) rfl (fun _ _ _ h => h) (fun _ h => h) ?_; refine tx_q 1 rfl (by kernel_rfl) (y_load1 rfl (by repeat constructor) (by rfl)) rfl (fun _ _ _ h => h) (fun _ h => h) ?_; refine tx_p 2 rfl (by kernel_rfl) (y_move rfl) rfl (fun _ _ _ h => h) (fun _ h => h) ?_; refine tx_p 5 rfl (by kernel_rfl) (y_field rfl) rfl (fun _ _ _ h => h) (fun _ h => h) ?_; refine tx_q 6 rfl (by kernel_rfl) (y_load1 rfl (by repeat constructor) (by rfl)) rfl (fun _ _ _ h => h) (fun _ h => h) ?_; refine tx_p 7 rfl (by kernel_rfl) (y_move rfl) rfl (fun _ _ _ h => h) (fun _ h => h) ?_; refine tx_p 8 rfl (by kernel_rfl) (y_max rfl rfl) rfl (fun _ _ _ h => h) (fun _ h => h) ?_; (refine tx_e 3 rfl (by kernel_rfl) rfl (e_bslice rfl (by (repeat (first | exact .nil | apply PV.one rfl rfl)); done) rfl rfl) (.inr qq1) (fun b43 _ => ?_))
           all_goals refine tx_e 4 rfl (by kernel_rfl) rfl (e_callV rfl (.cons rfl .nil) (fun w' hw' => tmin_c _ _ _ w' (RdI.own0 (xs := [_, _]) hw' (by repeat constructor)))) (.inr fun _ _ h => h) (fun _ _ => ?_); refine tx_p 9 rfl (by kernel_rfl) (y_build_g (by repeat constructor)) rfl (fun _ _ _ h => h) (fun _ h => h) ?_; refine tx_e 10 rfl (by kernel_rfl) rfl (e_storeW rfl rfl (by repeat constructor) (by rfl) (by rfl) (by simp [Value.oneCell'])) (.inl (by kernel_rfl)) (fun _ _ => ?_); refine tx_done (by kernel_rfl) ?_
           all_goals (
            repeat (refine tk_ib ?_)
            exact tk_rq (n + 1) rfl (fun _ h => h.subl SB.s SB.s))
         · intro D n hI
           obtain rfl := hI
           all_goals ((refine hK10 ?_; try (clear hK10; clear K10)))
           all_goals refine tc_seq fun K12 hK12 => ?_; refine tc_region ?_; refine tl_q (y_loadW rfl (by repeat constructor) (by rfl)) rfl ?_; refine tl_e (e_storeW rfl rfl (by repeat constructor) (by rfl) (by rfl) (by simp [Value.oneCell'])) rfl (fun _ _ => ?_); refine tl_q (y_assign rfl) rfl ?_; refine tl_nil ?_; ((refine hK12 ?_; try (clear hK12; clear K12)))
           all_goals refine tc_ret ?_; (repeat (first | refine tk_then_ret ?_))
           all_goals (refine tk_retM rfl (by repeat constructor) rfl (.cons (.agg inferInstance rfl (by repeat constructor) (by rfl)) (.cons (.tmp rfl) .nil)) ?_)
           all_goals (
            refine fun w' hw' => ⟨?_, hw'.fr (w0 := w) (S := []) MI.m⟩
            rw [List.length_range, ← bnd2_eq hv hp hm.2.1]
            rfl)
         · intro D c s hJ; exact hJ.elim)))
end Go.Sp
/-
  Package dispute: small functions; what is valid.
-/
namespace Go.Sp
open Go Go.Proofs
theorem dindexLk_c (g : FuncId) [GoFn Tryz.prog g] (first cap : Array Value) (p : L4 → Bool) (xs : List L4) (hx : (xs.length : Int) ≤ 9223372036854775807) (sl : Value) (w : World) (hr : RdS 4 lkE w sl xs) (ht : TestsG Tryz.prog lkV g first cap p w) :
    CnV Tryz.prog 99 #[sl, .func (.func g) first cap] w (vi (idxG xs p)) := by
  obtain ⟨ad, cp, b0, o, rfl, had, hcell⟩ := hr.open lkE_len lk0
  refine cnv (vs := [_, _]) Tryz.func99 rfl rfl ?_
  all_goals refine tc_seq fun K1 hK1 => ?_; refine tc_region ?_; refine tl_q (y_assign rfl) rfl ?_; refine tl_nil ?_; ((refine hK1 ?_; try (clear hK1; clear K1)))
  all_goals refine tc_seq fun K2 hK2 => ?_; refine tc_seq fun K3 hK3 => ?_; refine tc_region ?_; refine tl_q (y_move rfl) rfl ?_; refine tl_q (y_len rfl) rfl ?_; refine tl_q (y_move rfl) rfl ?_; refine tl_nil ?_; ((refine hK3 ?_; try (clear hK3; clear K3)))
  all_goals refine tc_block ?_
  all_goals (
   refine tc_loop (fun k : Nat => k ≤ xs.length ∧ ∀ j, j < k → p (xs.getD j lk0) = false) (fun k => [(0, .slice ad xs.length cp), (1, .func (.func g) first cap), (7, vi xs.length), (8, vi k)]) (fun _ => [(w, [])]) (fun _ => []) (fun k => xs.length - k) ?_ ?_
   · exact tk_start 0 ⟨Nat.zero_le _, fun j hj => absurd hj (Nat.not_lt_zero j)⟩ (.cons rfl (.cons rfl (.cons rfl (.cons rfl .nil)))) (fun _ h => h)
   · rintro k ⟨hk, hj⟩
     all_goals refine tc_seq fun K4 hK4 => ?_; refine tc_region ?_; refine tl_q (y_lss rfl rfl) rfl ?_; refine tl_nil ?_; ((refine hK4 ?_; try (clear hK4; clear K4)))
     all_goals refine tc_seq fun K5 hK5 => ?_
     all_goals (
      refine tc_cond rfl (fun hc => ?_) (fun hc => ?_)
      · try simp only [qn1, qn2, qn3, qn4, qn5, qn6, qn7, qn8] at hc
        all_goals refine tc_skip ?_; ((refine hK5 ?_; try (clear hK5; clear K5)))
        all_goals refine tc_seq fun K6 hK6 => ?_; refine tc_block ?_; refine tc_seq fun K7 hK7 => ?_; refine tc_region ?_; refine tl_q (y_move rfl) rfl ?_; refine tl_q (y_assign rfl) rfl ?_; refine tl_nil ?_; ((refine hK7 ?_; try (clear hK7; clear K7)))
        all_goals refine tc_seq fun K8 hK8 => ?_
        have had' := had (by omega)
        all_goals refine tc_region ?_; refine tl_q (y_move rfl) rfl ?_; refine tl_q (y_move rfl) rfl ?_; refine tl_q (y_move rfl) rfl ?_; refine tl_q (y_index rfl rfl (by omega) had') rfl ?_; refine tl_q (y_loadNo (vs := lkE (xs.getD (Int.toNat k) lk0)) rfl (fun w' hw' => hcell w' [] (hw'.fr (by simp)) (by simp) (Int.toNat k) (by omega))) rfl ?_; refine tl_e (e_callVf rfl rfl (.cons rfl .nil) (fun w' hw' => ht (xs.getD (Int.toNat k) lk0) w' (hw'.fr (by simp)))) rfl (fun _ _ => ?_); refine tl_nil ?_; ((refine hK8 ?_; try (clear hK8; clear K8)))
        all_goals (
         refine tc_cond rfl (fun hc => ?_) (fun hc => ?_)
         · all_goals (skip)
           all_goals refine tc_seq fun K9 hK9 => ?_; refine tc_region ?_; refine tl_q (y_move rfl) rfl ?_; refine tl_q (y_assign rfl) rfl ?_; refine tl_nil ?_; ((refine hK9 ?_; try (clear hK9; clear K9)))
           all_goals refine tc_ret ?_; (repeat (first | refine tk_then_ret ?_ | refine tk_block_ret ?_))
           all_goals (refine tk_ret rfl rfl (.cons (.tmp rfl) .nil) ?_)
           all_goals (
            first | exact fun w' hw' => ⟨by rw [idxG_hit (k := k) (by omega) (by simpa using hc) hj]; rfl, hw'.fr (by simp)⟩ | exact fun w' hw' => ⟨by rw [idxG_miss (d := lk0) (fun j hjj => hj j (by omega))]; rfl, hw'.fr (by simp)⟩)
         · all_goals (skip)
           all_goals refine tc_skip ?_; ((refine hK6 ?_; try (clear hK6; clear K6)))
           all_goals refine tc_region ?_; refine tl_q (y_add rfl rfl (by omega)) rfl ?_; refine tl_q (y_move rfl) rfl ?_; refine tl_nil ?_
           all_goals (
            exact tk_round (k + 1) ⟨by omega, fun j hj' => by rcases Nat.lt_succ_iff_lt_or_eq.1 hj' with h | rfl; exact hj j h; simpa using hc⟩ (by omega) (.cons rfl (.cons rfl (.cons rfl (.cons rfl .nil)))) (fun _ h => h)))
      · try simp only [qn1, qn2, qn3, qn4, qn5, qn6, qn7, qn8] at hc
        all_goals refine tc_exit ?_; ((refine hK2 ?_; try (clear hK2; clear K2)))
        all_goals refine tc_seq fun K10 hK10 => ?_; refine tc_region ?_; refine tl_q (y_assign rfl) rfl ?_; refine tl_nil ?_; ((refine hK10 ?_; try (clear hK10; clear K10)))
        all_goals refine tc_ret ?_; (repeat (first | refine tk_then_ret ?_))
        all_goals (refine tk_ret rfl rfl (.cons (.tmp rfl) .nil) ?_)
        all_goals (
         first | exact fun w' hw' => ⟨by rw [idxG_hit (k := k) (by omega) (by simpa using hc) hj]; rfl, hw'.fr (by simp)⟩ | exact fun w' hw' => ⟨by rw [idxG_miss (d := lk0) (fun j hjj => hj j (by omega))]; rfl, hw'.fr (by simp)⟩)))
theorem dcontainsLk_c (g : FuncId) [GoFn Tryz.prog g] (first cap : Array Value) (p : L4 → Bool) (xs : List L4) (hx : (xs.length : Int) ≤ 9223372036854775807) (sl : Value) (w : World) (hr : RdS 4 lkE w sl xs) (ht : TestsG Tryz.prog lkV g first cap p w) :
    CnV Tryz.prog 74 #[sl, .func (.func g) first cap] w (.bool (xs.any p)) := by
  refine cnv (vs := [_, _]) Tryz.func74 rfl rfl ?_
  all_goals refine tc_seq fun K1 hK1 => ?_; refine tc_region ?_; refine tl_q (y_assign rfl) rfl ?_; refine tl_nil ?_; ((refine hK1 ?_; try (clear hK1; clear K1)))
  all_goals refine tc_seq fun K2 hK2 => ?_; refine tc_region ?_; refine tl_q (y_move rfl) rfl ?_; refine tl_q (y_move rfl) rfl ?_; refine tl_e (e_callV rfl (.cons rfl (.cons rfl .nil)) (fun w' hw' => dindexLk_c g first cap p xs hx _ w' (hr.fr (hw'.fr (by simp))) (ht.fr (hw'.fr (by simp))))) rfl (fun _ _ => ?_); refine tl_q (y_geq rfl rfl) rfl ?_; refine tl_q (y_assign rfl) rfl ?_; refine tl_nil ?_; ((refine hK2 ?_; try (clear hK2; clear K2)))
  all_goals refine tc_ret ?_; (repeat (first | refine tk_then_ret ?_))
  all_goals (refine tk_ret rfl rfl (.cons (.tmp rfl) .nil) ?_)
  all_goals (
   exact fun w' hw' => ⟨by rw [← idxG_any]; rfl, hw'.fr (by simp)⟩)
theorem dallLk1_c (g : FuncId) [GoFn Tryz.prog g] (first cap : Array Value) (p : L4 → Bool) (x : L4) (b : Nat) (w : World) (hb : w.cell? ⟨b, 0, none⟩ = some (.func (.func g) first cap)) (ht : TestsG Tryz.prog lkV g first cap p w) :
    CnV Tryz.prog 75 #[lkV x, .pointer (some ⟨b, 0, none⟩)] w (.bool (!(p x))) := by
  refine cnv (vs := [_, _]) Tryz.func75 rfl rfl ?_
  all_goals refine tc_seq fun K1 hK1 => ?_; refine tc_region ?_; refine tl_e (e_box rfl rfl rfl) rfl (fun _ _ => ?_); refine tl_q (y_assign rfl) rfl ?_; refine tl_nil ?_; ((refine hK1 ?_; try (clear hK1; clear K1)))
  all_goals refine tc_seq fun K2 hK2 => ?_; refine tc_region ?_; refine tl_q (y_load1o rfl (fun w' hw' => (hw'.fr (S := []) (w0 := w) (by simp)).cell (by simp) hb)) rfl ?_; refine tl_q (y_loadW rfl (by repeat constructor) (by rfl)) rfl ?_; refine tl_e (e_callVf rfl rfl (.cons rfl .nil) (fun w' hw' => ht x w' (hw'.fr (by simp)))) rfl (fun _ _ => ?_); refine tl_q (y_not rfl) rfl ?_; refine tl_q (y_assign rfl) rfl ?_; refine tl_nil ?_; ((refine hK2 ?_; try (clear hK2; clear K2)))
  all_goals refine tc_ret ?_; (repeat (first | refine tk_then_ret ?_))
  all_goals (refine tk_ret rfl rfl (.cons (.tmp rfl) .nil) ?_)
  all_goals (
   exact fun w' hw' => ⟨rfl, hw'.fr (by simp)⟩)
theorem dallLk_c (g : FuncId) [GoFn Tryz.prog g] (first cap : Array Value) (p : L4 → Bool) (xs : List L4) (hx : (xs.length : Int) ≤ 9223372036854775807) (sl : Value) (w : World) (hr : RdS 4 lkE w sl xs) (ht : TestsG Tryz.prog lkV g first cap p w) :
    CnV Tryz.prog 46 #[sl, .func (.func g) first cap] w (.bool (xs.all p)) := by
  refine cnv (vs := [_, _]) Tryz.func46 rfl rfl ?_
  all_goals refine tc_seq fun K1 hK1 => ?_; refine tc_region ?_; refine tl_e (e_box rfl rfl rfl) rfl (fun b _ => ?_); refine tl_q (y_assign rfl) rfl ?_; refine tl_nil ?_; ((refine hK1 ?_; try (clear hK1; clear K1)))
  all_goals refine tc_seq fun K2 hK2 => ?_; refine tc_region ?_; refine tl_q (y_move rfl) rfl ?_; refine tl_q (y_fn .nil (.cons rfl .nil)) rfl ?_; refine tl_e (e_callV rfl (.cons rfl (.cons rfl .nil)) (fun w' hw' => dcontainsLk_c 75 #[] #[.pointer (some ⟨b, 0, none⟩)] (fun x => !(p x)) xs hx _ w' (hr.fr (hw'.fr (by simp))) (fun x w2 f => by simpa using dallLk1_c g first cap p x b w2 (f.cell (by simp) (cellAt_cell? (hw'.heap _ (HM.mem (by repeat constructor))) rfl)) ((ht.fr (hw'.fr (by simp))).fr f)))) rfl (fun _ _ => ?_); refine tl_q (y_not rfl) rfl ?_; refine tl_q (y_assign rfl) rfl ?_; refine tl_nil ?_; ((refine hK2 ?_; try (clear hK2; clear K2)))
  all_goals refine tc_ret ?_; (repeat (first | refine tk_then_ret ?_))
  all_goals (refine tk_ret rfl rfl (.cons (.tmp rfl) .nil) ?_)
  all_goals (
   exact fun w' hw' => ⟨by simp [outV, List.all_eq_not_any_not], hw'.fr (by simp)⟩)
theorem dindexFc_c (g : FuncId) [GoFn Tryz.prog g] (first cap : Array Value) (p : Fct → Bool) (xs : List Fct) (hx : (xs.length : Int) ≤ 9223372036854775807) (sl : Value) (w : World) (hr : RdS 6 fcE w sl xs) (ht : TestsG Tryz.prog fcV g first cap p w) :
    CnV Tryz.prog 100 #[sl, .func (.func g) first cap] w (vi (idxG xs p)) := by
  obtain ⟨ad, cp, b0, o, rfl, had, hcell⟩ := hr.open fcE_len fct0
  refine cnv (vs := [_, _]) Tryz.func100 rfl rfl ?_
  all_goals refine tc_seq fun K1 hK1 => ?_; refine tc_region ?_; refine tl_q (y_assign rfl) rfl ?_; refine tl_nil ?_; ((refine hK1 ?_; try (clear hK1; clear K1)))
  all_goals refine tc_seq fun K2 hK2 => ?_; refine tc_seq fun K3 hK3 => ?_; refine tc_region ?_; refine tl_q (y_move rfl) rfl ?_; refine tl_q (y_len rfl) rfl ?_; refine tl_q (y_move rfl) rfl ?_; refine tl_nil ?_; ((refine hK3 ?_; try (clear hK3; clear K3)))
  all_goals refine tc_block ?_
  all_goals (
   refine tc_loop (fun k : Nat => k ≤ xs.length ∧ ∀ j, j < k → p (xs.getD j fct0) = false) (fun k => [(0, .slice ad xs.length cp), (1, .func (.func g) first cap), (7, vi xs.length), (8, vi k)]) (fun _ => [(w, [])]) (fun _ => []) (fun k => xs.length - k) ?_ ?_
   · exact tk_start 0 ⟨Nat.zero_le _, fun j hj => absurd hj (Nat.not_lt_zero j)⟩ (.cons rfl (.cons rfl (.cons rfl (.cons rfl .nil)))) (fun _ h => h)
   · rintro k ⟨hk, hj⟩
     all_goals refine tc_seq fun K4 hK4 => ?_; refine tc_region ?_; refine tl_q (y_lss rfl rfl) rfl ?_; refine tl_nil ?_; ((refine hK4 ?_; try (clear hK4; clear K4)))
     all_goals refine tc_seq fun K5 hK5 => ?_
     all_goals (
      refine tc_cond rfl (fun hc => ?_) (fun hc => ?_)
      · try simp only [qn1, qn2, qn3, qn4, qn5, qn6, qn7, qn8] at hc
        all_goals refine tc_skip ?_; ((refine hK5 ?_; try (clear hK5; clear K5)))
        all_goals refine tc_seq fun K6 hK6 => ?_; refine tc_block ?_; refine tc_seq fun K7 hK7 => ?_; refine tc_region ?_; refine tl_q (y_move rfl) rfl ?_; refine tl_q (y_assign rfl) rfl ?_; refine tl_nil ?_; ((refine hK7 ?_; try (clear hK7; clear K7)))
        all_goals refine tc_seq fun K8 hK8 => ?_
        have had' := had (by omega)
        all_goals refine tc_region ?_; refine tl_q (y_move rfl) rfl ?_; refine tl_q (y_move rfl) rfl ?_; refine tl_q (y_move rfl) rfl ?_; refine tl_q (y_index rfl rfl (by omega) had') rfl ?_; refine tl_q (y_loadNo (vs := fcE (xs.getD (Int.toNat k) fct0)) rfl (fun w' hw' => hcell w' [] (hw'.fr (by simp)) (by simp) (Int.toNat k) (by omega))) rfl ?_; refine tl_e (e_callVf rfl rfl (.cons rfl .nil) (fun w' hw' => ht (xs.getD (Int.toNat k) fct0) w' (hw'.fr (by simp)))) rfl (fun _ _ => ?_); refine tl_nil ?_; ((refine hK8 ?_; try (clear hK8; clear K8)))
        all_goals (
         refine tc_cond rfl (fun hc => ?_) (fun hc => ?_)
         · all_goals (skip)
           all_goals refine tc_seq fun K9 hK9 => ?_; refine tc_region ?_; refine tl_q (y_move rfl) rfl ?_; refine tl_q (y_assign rfl) rfl ?_; refine tl_nil ?_; ((refine hK9 ?_; try (clear hK9; clear K9)))
           all_goals refine tc_ret ?_; (repeat (first | refine tk_then_ret ?_ | refine tk_block_ret ?_))
           all_goals (refine tk_ret rfl rfl (.cons (.tmp rfl) .nil) ?_)
           all_goals (
            first | exact fun w' hw' => ⟨by rw [idxG_hit (k := k) (by omega) (by simpa using hc) hj]; rfl, hw'.fr (by simp)⟩ | exact fun w' hw' => ⟨by rw [idxG_miss (d := fct0) (fun j hjj => hj j (by omega))]; rfl, hw'.fr (by simp)⟩)
         · all_goals (skip)
           all_goals refine tc_skip ?_; ((refine hK6 ?_; try (clear hK6; clear K6)))
           all_goals refine tc_region ?_; refine tl_q (y_add rfl rfl (by omega)) rfl ?_; refine tl_q (y_move rfl) rfl ?_; refine tl_nil ?_
           all_goals (
            exact tk_round (k + 1) ⟨by omega, fun j hj' => by rcases Nat.lt_succ_iff_lt_or_eq.1 hj' with h | rfl; exact hj j h; simpa using hc⟩ (by omega) (.cons rfl (.cons rfl (.cons rfl (.cons rfl .nil)))) (fun _ h => h)))
      · try simp only [qn1, qn2, qn3, qn4, qn5, qn6, qn7, qn8] at hc
        all_goals refine tc_exit ?_; ((refine hK2 ?_; try (clear hK2; clear K2)))
        all_goals refine tc_seq fun K10 hK10 => ?_; refine tc_region ?_; refine tl_q (y_assign rfl) rfl ?_; refine tl_nil ?_; ((refine hK10 ?_; try (clear hK10; clear K10)))
        all_goals refine tc_ret ?_; (repeat (first | refine tk_then_ret ?_))
        all_goals (refine tk_ret rfl rfl (.cons (.tmp rfl) .nil) ?_)
        all_goals (
         first | exact fun w' hw' => ⟨by rw [idxG_hit (k := k) (by omega) (by simpa using hc) hj]; rfl, hw'.fr (by simp)⟩ | exact fun w' hw' => ⟨by rw [idxG_miss (d := fct0) (fun j hjj => hj j (by omega))]; rfl, hw'.fr (by simp)⟩)))
theorem dcontainsFc_c (g : FuncId) [GoFn Tryz.prog g] (first cap : Array Value) (p : Fct → Bool) (xs : List Fct) (hx : (xs.length : Int) ≤ 9223372036854775807) (sl : Value) (w : World) (hr : RdS 6 fcE w sl xs) (ht : TestsG Tryz.prog fcV g first cap p w) :
    CnV Tryz.prog 76 #[sl, .func (.func g) first cap] w (.bool (xs.any p)) := by
  refine cnv (vs := [_, _]) Tryz.func76 rfl rfl ?_
  all_goals refine tc_seq fun K1 hK1 => ?_; refine tc_region ?_; refine tl_q (y_assign rfl) rfl ?_; refine tl_nil ?_; ((refine hK1 ?_; try (clear hK1; clear K1)))
  all_goals refine tc_seq fun K2 hK2 => ?_; refine tc_region ?_; refine tl_q (y_move rfl) rfl ?_; refine tl_q (y_move rfl) rfl ?_; refine tl_e (e_callV rfl (.cons rfl (.cons rfl .nil)) (fun w' hw' => dindexFc_c g first cap p xs hx _ w' (hr.fr (hw'.fr (by simp))) (ht.fr (hw'.fr (by simp))))) rfl (fun _ _ => ?_); refine tl_q (y_geq rfl rfl) rfl ?_; refine tl_q (y_assign rfl) rfl ?_; refine tl_nil ?_; ((refine hK2 ?_; try (clear hK2; clear K2)))
  all_goals refine tc_ret ?_; (repeat (first | refine tk_then_ret ?_))
  all_goals (refine tk_ret rfl rfl (.cons (.tmp rfl) .nil) ?_)
  all_goals (
   exact fun w' hw' => ⟨by rw [← idxG_any]; rfl, hw'.fr (by simp)⟩)
theorem dallFc1_c (g : FuncId) [GoFn Tryz.prog g] (first cap : Array Value) (p : Fct → Bool) (x : Fct) (b : Nat) (w : World) (hb : w.cell? ⟨b, 0, none⟩ = some (.func (.func g) first cap)) (ht : TestsG Tryz.prog fcV g first cap p w) :
    CnV Tryz.prog 77 #[fcV x, .pointer (some ⟨b, 0, none⟩)] w (.bool (!(p x))) := by
  refine cnv (vs := [_, _]) Tryz.func77 rfl rfl ?_
  all_goals refine tc_seq fun K1 hK1 => ?_; refine tc_region ?_; refine tl_e (e_box rfl rfl rfl) rfl (fun _ _ => ?_); refine tl_q (y_assign rfl) rfl ?_; refine tl_nil ?_; ((refine hK1 ?_; try (clear hK1; clear K1)))
  all_goals refine tc_seq fun K2 hK2 => ?_; refine tc_region ?_; refine tl_q (y_load1o rfl (fun w' hw' => (hw'.fr (S := []) (w0 := w) (by simp)).cell (by simp) hb)) rfl ?_; refine tl_q (y_loadW rfl (by repeat constructor) (by rfl)) rfl ?_; refine tl_e (e_callVf rfl rfl (.cons rfl .nil) (fun w' hw' => ht x w' (hw'.fr (by simp)))) rfl (fun _ _ => ?_); refine tl_q (y_not rfl) rfl ?_; refine tl_q (y_assign rfl) rfl ?_; refine tl_nil ?_; ((refine hK2 ?_; try (clear hK2; clear K2)))
  all_goals refine tc_ret ?_; (repeat (first | refine tk_then_ret ?_))
  all_goals (refine tk_ret rfl rfl (.cons (.tmp rfl) .nil) ?_)
  all_goals (
   exact fun w' hw' => ⟨rfl, hw'.fr (by simp)⟩)
theorem dallFc_c (g : FuncId) [GoFn Tryz.prog g] (first cap : Array Value) (p : Fct → Bool) (xs : List Fct) (hx : (xs.length : Int) ≤ 9223372036854775807) (sl : Value) (w : World) (hr : RdS 6 fcE w sl xs) (ht : TestsG Tryz.prog fcV g first cap p w) :
    CnV Tryz.prog 47 #[sl, .func (.func g) first cap] w (.bool (xs.all p)) := by
  refine cnv (vs := [_, _]) Tryz.func47 rfl rfl ?_
  all_goals refine tc_seq fun K1 hK1 => ?_; refine tc_region ?_; refine tl_e (e_box rfl rfl rfl) rfl (fun b _ => ?_); refine tl_q (y_assign rfl) rfl ?_; refine tl_nil ?_; ((refine hK1 ?_; try (clear hK1; clear K1)))
  all_goals refine tc_seq fun K2 hK2 => ?_; refine tc_region ?_; refine tl_q (y_move rfl) rfl ?_; refine tl_q (y_fn .nil (.cons rfl .nil)) rfl ?_; refine tl_e (e_callV rfl (.cons rfl (.cons rfl .nil)) (fun w' hw' => dcontainsFc_c 77 #[] #[.pointer (some ⟨b, 0, none⟩)] (fun x => !(p x)) xs hx _ w' (hr.fr (hw'.fr (by simp))) (fun x w2 f => by simpa using dallFc1_c g first cap p x b w2 (f.cell (by simp) (cellAt_cell? (hw'.heap _ (HM.mem (by repeat constructor))) rfl)) ((ht.fr (hw'.fr (by simp))).fr f)))) rfl (fun _ _ => ?_); refine tl_q (y_not rfl) rfl ?_; refine tl_q (y_assign rfl) rfl ?_; refine tl_nil ?_; ((refine hK2 ?_; try (clear hK2; clear K2)))
  all_goals refine tc_ret ?_; (repeat (first | refine tk_then_ret ?_))
  all_goals (refine tk_ret rfl rfl (.cons (.tmp rfl) .nil) ?_)
  all_goals (
   exact fun w' hw' => ⟨by simp [outV, List.all_eq_not_any_not], hw'.fr (by simp)⟩)
theorem dwithin_c (n lo hi : Int) (w : World) : CnV Tryz.prog 72 #[vi n, vi lo, vi hi] w (.bool (decide (lo ≤ n ∧ n ≤ hi))) := by
  refine cnv (vs := [_, _, _]) Tryz.func72 rfl rfl ?_
  all_goals refine tc_seq fun K1 hK1 => ?_; refine tc_region ?_; refine tl_q (y_assign rfl) rfl ?_; refine tl_nil ?_; ((refine hK1 ?_; try (clear hK1; clear K1)))
  all_goals refine tc_seq fun K2 hK2 => ?_; refine tc_region ?_; refine tl_q (y_move rfl) rfl ?_; refine tl_q (y_move rfl) rfl ?_; refine tl_q (y_leq rfl rfl) rfl ?_; refine tl_q (y_move rfl) rfl ?_; ((refine tl_gs rfl rfl (fun hc => ?_) (fun hc => ?_) <;> (skip) <;> (first | refine tl_sk rfl rfl rfl rfl ?_ | refine tl_qg rfl rfl (y_move rfl) rfl ?_)))
  all_goals (first | refine tl_sk rfl rfl rfl rfl ?_ | refine tl_qg rfl rfl (y_move rfl) rfl ?_); (first | refine tl_sk rfl rfl rfl rfl ?_ | refine tl_qg rfl rfl (y_leq rfl rfl) rfl ?_); (first | refine tl_q (y_pick_t rfl rfl) rfl ?_ | refine tl_q (y_pick_f rfl rfl) rfl ?_); refine tl_q (y_assign rfl) rfl ?_; refine tl_nil ?_; ((refine hK2 ?_; try (clear hK2; clear K2)))
  all_goals refine tc_ret ?_; (repeat (first | refine tk_then_ret ?_))
  all_goals (refine tk_ret rfl rfl (.cons (.tmp rfl) .nil) ?_)
  all_goals (
   refine fun w' hw' => ⟨?_, hw'.fr (by simp)⟩; simp only [outV, decide_eq_true_eq, decide_eq_false_iff_not] at *; simp [hc])
theorem dmin_c (a b : Int) (sl : Value) (w : World) (hr : RdI w sl [a, b]) : CnV Tryz.prog 101 #[sl] w (vi (min a b)) := by
  refine cnv (vs := [_]) Tryz.func101 rfl rfl ?_
  all_goals refine tc_seq fun K1 hK1 => ?_; refine tc_region ?_; refine tl_q (y_assign rfl) rfl ?_; refine tl_nil ?_; ((refine hK1 ?_; try (clear hK1; clear K1)))
  all_goals refine tc_seq fun K2 hK2 => ?_; refine tc_region ?_; refine tl_q (y_move rfl) rfl ?_; refine tl_e (e_callV rfl (.cons rfl .nil) (fun w' hw' => min_c a b _ w' (hr.fr (hw'.fr (by simp))))) rfl (fun _ _ => ?_); refine tl_q (y_assign rfl) rfl ?_; refine tl_nil ?_; ((refine hK2 ?_; try (clear hK2; clear K2)))
  all_goals refine tc_ret ?_; (repeat (first | refine tk_then_ret ?_))
  all_goals (refine tk_ret rfl rfl (.cons (.tmp rfl) .nil) ?_)
  all_goals (
   exact fun w' hw' => ⟨rfl, hw'.fr (by simp)⟩)
theorem dof_c (lo hi a b : Int) (w : World) : CnV Tryz.prog 71 #[.agg #[vi lo, vi hi], vi a, vi b] w (.bool (decide (a ≤ lo ∧ lo ≤ hi ∧ hi ≤ b))) := by
  refine cnv (vs := [_, _, _]) Tryz.func71 rfl rfl ?_
  all_goals refine tc_seq fun K1 hK1 => ?_; refine tc_region ?_; refine tl_e (e_box rfl rfl rfl) rfl (fun b3 _ => ?_); refine tl_q (y_assign rfl) rfl ?_; refine tl_nil ?_; ((refine hK1 ?_; try (clear hK1; clear K1)))
  all_goals refine tc_seq fun K2 hK2 => ?_; refine tc_region ?_; refine tl_q (y_move rfl) rfl ?_; refine tl_q (y_field rfl) rfl ?_; refine tl_q (y_load1 rfl (by repeat constructor) (by rfl)) rfl ?_; refine tl_q (y_leq rfl rfl) rfl ?_; refine tl_q (y_move rfl) rfl ?_; ((refine tl_gs rfl rfl (fun hc => ?_) (fun hc => ?_) <;> (try simp only [qn1, qn2, qn3, qn4, qn5, qn6, qn7, qn8] at hc) <;> (first | refine tl_sk rfl rfl rfl rfl ?_ | refine tl_qg rfl rfl (y_field rfl) rfl ?_)))
  all_goals (first | refine tl_sk rfl rfl rfl rfl ?_ | refine tl_qg rfl rfl (y_load1 rfl (by repeat constructor) (by rfl)) rfl ?_); (first | refine tl_sk rfl rfl rfl rfl ?_ | refine tl_qg rfl rfl (y_field rfl) rfl ?_); (first | refine tl_sk rfl rfl rfl rfl ?_ | refine tl_qg rfl rfl (y_load1 rfl (by repeat constructor) (by rfl)) rfl ?_); (first | refine tl_sk rfl rfl rfl rfl ?_ | refine tl_qg rfl rfl (y_leq rfl rfl) rfl ?_); (first | refine tl_q (y_pick_t rfl rfl) rfl ?_ | refine tl_q (y_pick_f rfl rfl) rfl ?_); refine tl_q (y_move rfl) rfl ?_; ((first | refine tl_sk rfl rfl rfl rfl ?_ | (refine tl_gs rfl rfl (fun hc => ?_) (fun hc => ?_) <;> (try simp only [qn1, qn2, qn3, qn4, qn5, qn6, qn7, qn8] at hc) <;> (first | refine tl_sk rfl rfl rfl rfl ?_ | refine tl_qg rfl rfl (y_field rfl) rfl ?_))))
  all_goals (first | refine tl_sk rfl rfl rfl rfl ?_ | refine tl_qg rfl rfl (y_load1 rfl (by repeat constructor) (by rfl)) rfl ?_); (first | refine tl_sk rfl rfl rfl rfl ?_ | refine tl_qg rfl rfl (y_move rfl) rfl ?_); (first | refine tl_sk rfl rfl rfl rfl ?_ | refine tl_qg rfl rfl (y_leq rfl rfl) rfl ?_); (first | refine tl_q (y_pick_t rfl rfl) rfl ?_ | refine tl_q (y_pick_f rfl rfl) rfl ?_); refine tl_q (y_assign rfl) rfl ?_; refine tl_nil ?_; ((refine hK2 ?_; try (clear hK2; clear K2)))
  all_goals refine tc_ret ?_; (repeat (first | refine tk_then_ret ?_))
  all_goals (refine tk_ret rfl rfl (.cons (.tmp rfl) .nil) ?_)
  all_goals (
   refine fun w' hw' => ⟨congrArg (fun b => Ending.returned (Value.bool b)) ?_, hw'.fr (w0 := w) (S := []) MI.m⟩
   first
   | exact (decide_eq_false (by omega)).symm
   | exact decide_eq_decide.2 (by omega)
   | exact (decide_eq_true (by omega)).symm)
theorem don_c (l : List Int) (hl : (l.length : Int) ≤ 9223372036854775807) (h0 : 0 < l.length) (lo hi : Int) (sl : Value) (w : World) (hr : RdI w sl l) : CnV Tryz.prog 73 #[.agg #[vi lo, vi hi], sl] w (.bool (decide (l.getD 0 0 ≤ lo ∧ lo ≤ hi ∧ hi ≤ lastL l))) := by
  obtain ⟨ad, cap, b0, o, rfl, had, hcell⟩ := hr.open
  have had' := had h0
  refine cnv (vs := [_, _]) Tryz.func73 rfl rfl ?_
  all_goals refine tc_seq fun K1 hK1 => ?_; refine tc_region ?_; refine tl_e (e_box rfl rfl rfl) rfl (fun b2 _ => ?_); refine tl_q (y_assign rfl) rfl ?_; refine tl_nil ?_; ((refine hK1 ?_; try (clear hK1; clear K1)))
  all_goals refine tc_seq fun K2 hK2 => ?_; refine tc_draw (by kernel_rfl) ?_; refine tx_q 0 rfl (by kernel_rfl) (y_loadW rfl (by repeat constructor) (by rfl)) rfl (fun _ _ _ h => h) (fun _ h => h) ?_; refine tx_p 1 rfl (by kernel_rfl) (y_move rfl) rfl (fun _ _ _ h => h) (fun _ h => h) ?_; refine tx_p 2 rfl (by kernel_rfl) (y_index rfl rfl (by omega) had') rfl (fun _ _ _ h => h) (fun _ h => h) ?_; refine tx_q 3 rfl (by kernel_rfl) (y_load1o (v := vi (l.getD 0 0)) rfl (fun w' hw' => hcell w' (hw'.fr (w0 := w) (S := []) MI.m) 0 (by omega))) rfl (fun _ _ _ h => h) (fun _ h => h) ?_; refine tx_p 4 rfl (by kernel_rfl) (y_move rfl) rfl (fun _ _ _ h => h) (fun _ h => h) ?_; refine tx_p 5 rfl (by kernel_rfl) (y_move rfl) rfl (fun _ _ _ h => h) (fun _ h => h) ?_; refine tx_q 6 rfl (by kernel_rfl) (y_len rfl) rfl (fun _ _ _ h => h) (fun _ h => h) ?_; refine tx_p 7 rfl (by kernel_rfl) (y_sub rfl rfl (by omega)) rfl (fun _ _ _ h => h) (fun _ h => h) ?_; refine tx_p 8 rfl (by kernel_rfl) (y_index rfl rfl (by omega) had') rfl (fun _ _ _ h => h) (fun _ h => h) ?_; ((refine tx_q 9 rfl (by kernel_rfl) (y_load1o (v := vi (lastL l)) rfl (fun w' hw' => by rw [show Int.toNat ((l.length : Int) - 1) * 1 = l.length - 1 from by omega]; exact hcell w' (hw'.fr (w0 := w) (S := []) MI.m) (l.length - 1) (by omega))) rfl (fun _ _ _ h => h) (fun _ h => h) ?_))
  all_goals refine tx_e 10 rfl (by kernel_rfl) rfl (e_callV rfl (.cons rfl (.cons rfl (.cons rfl .nil))) (fun w' _ => dof_c _ _ _ _ w')) (.inr fun _ _ h => h) (fun _ _ => ?_); refine tx_p 11 rfl (by kernel_rfl) (y_assign rfl) rfl (fun _ _ _ h => h) (fun _ h => h) ?_; refine tx_done (by kernel_rfl) ?_; ((refine hK2 ?_; try (clear hK2; clear K2)))
  all_goals refine tc_ret ?_; (repeat (first | refine tk_then_ret ?_))
  all_goals (refine tk_ret rfl rfl (.cons (.tmp rfl) .nil) ?_)
  all_goals (
   exact fun w' hw' => ⟨rfl, hw'.fr (w0 := w) (S := []) MI.m⟩)
theorem dsample_c (d : Dsp) (hs : 1 ≤ d.S ∧ d.S ≤ 3) (n : Int) (wv mv vv lv fv : Value) (w : World) : CnV Tryz.prog 70 #[dpV d wv mv vv lv fv, vi n] w (.bool (decide (0 ≤ n ∧ n ≤ d.S - 1))) := by
  refine cnv (vs := [_, _]) Tryz.func70 rfl rfl ?_
  all_goals refine tc_seq fun K1 hK1 => ?_; refine tc_region ?_; refine tl_e (e_box rfl rfl rfl) rfl (fun b2 _ => ?_); refine tl_q (y_assign rfl) rfl ?_; refine tl_nil ?_; ((refine hK1 ?_; try (clear hK1; clear K1)))
  all_goals refine tc_seq fun K2 hK2 => ?_; refine tc_region ?_; refine tl_q (y_move rfl) rfl ?_; refine tl_q (y_field rfl) rfl ?_; refine tl_q (y_load1 rfl (by repeat constructor) (by rfl)) rfl ?_; refine tl_q (y_sub rfl rfl (by omega)) rfl ?_; refine tl_e (e_callV rfl (.cons rfl (.cons rfl (.cons rfl .nil))) (fun w' _ => dwithin_c _ _ _ w')) rfl (fun _ _ => ?_); refine tl_q (y_assign rfl) rfl ?_; refine tl_nil ?_; ((refine hK2 ?_; try (clear hK2; clear K2)))
  all_goals refine tc_ret ?_; (repeat (first | refine tk_then_ret ?_))
  all_goals (refine tk_ret rfl rfl (.cons (.tmp rfl) .nil) ?_)
  all_goals (
   exact fun w' hw' => ⟨rfl, hw'.fr (w0 := w) (S := []) MI.m⟩)
def lkB (S : Int) (x : L4) : Bool := decide ((0 ≤ x.1 ∧ x.1 ≤ S - 1) ∧ (0 ≤ x.2.1 ∧ x.2.1 ≤ S - 1) ∧ ¬ x.1 = x.2.1 ∧ -2000 ≤ x.2.2.1 ∧ x.2.2.1 ≤ x.2.2.2 ∧ x.2.2.2 ≤ 2000)
theorem dlink_c (d : Dsp) (hs : 1 ≤ d.S ∧ d.S ≤ 3) (x : L4) (wv mv vv lv fv : Value) (h1 : wv.oneCell' = true) (h2 : mv.oneCell' = true) (h3 : vv.oneCell' = true) (h4 : lv.oneCell' = true) (h5 : fv.oneCell' = true) (w : World) : CnV Tryz.prog 44 #[dpV d wv mv vv lv fv, lkV x] w (.bool (lkB d.S x)) := by
  refine cnv (vs := [_, _]) Tryz.func44 rfl rfl ?_
  all_goals refine tc_seq fun K1 hK1 => ?_; refine tc_region ?_; refine tl_e (e_box rfl rfl rfl) rfl (fun b2 _ => ?_); refine tl_e (e_box rfl rfl rfl) rfl (fun b3 _ => ?_); refine tl_q (y_assign rfl) rfl ?_; refine tl_nil ?_; ((refine hK1 ?_; try (clear hK1; clear K1)))
  all_goals refine tc_seq fun K2 hK2 => ?_; refine tc_region ?_; refine tl_q (y_loadW rfl (by repeat constructor) (by rfl)) rfl ?_; refine tl_q (y_field rfl) rfl ?_; refine tl_q (y_load1 rfl (by repeat constructor) (by rfl)) rfl ?_; refine tl_e (e_callV rfl (.cons rfl (.cons rfl .nil)) (fun w' _ => dsample_c d hs _ _ _ _ _ _ w')) rfl (fun _ _ => ?_); refine tl_q (y_move rfl) rfl ?_; ((refine tl_gs rfl rfl (fun hc => ?_) (fun hc => ?_) <;> (try simp only [qn1, qn2, qn3, qn4, qn5, qn6, qn7, qn8] at hc) <;> (first | refine tl_sk rfl rfl rfl rfl ?_ | refine tl_qg rfl rfl (y_loadW rfl (by repeat constructor) (by rfl)) rfl ?_)))
  all_goals (first | refine tl_sk rfl rfl rfl rfl ?_ | refine tl_qg rfl rfl (y_field rfl) rfl ?_); (first | refine tl_sk rfl rfl rfl rfl ?_ | refine tl_qg rfl rfl (y_load1 rfl (by repeat constructor) (by rfl)) rfl ?_); (first | refine tl_sk rfl rfl rfl rfl ?_ | refine tl_eg rfl rfl rfl (e_callV rfl (.cons rfl (.cons rfl .nil)) (fun w' _ => dsample_c d hs _ _ _ _ _ _ w')) (fun _ _ => ?_)); (first | refine tl_q (y_pick_t rfl rfl) rfl ?_ | refine tl_q (y_pick_f rfl rfl) rfl ?_); refine tl_q (y_move rfl) rfl ?_; ((first | refine tl_sk rfl rfl rfl rfl ?_ | (refine tl_gs rfl rfl (fun hc => ?_) (fun hc => ?_) <;> (try simp only [qn1, qn2, qn3, qn4, qn5, qn6, qn7, qn8] at hc) <;> (first | refine tl_sk rfl rfl rfl rfl ?_ | refine tl_qg rfl rfl (y_field rfl) rfl ?_))))
  all_goals (first | refine tl_sk rfl rfl rfl rfl ?_ | refine tl_qg rfl rfl (y_load1 rfl (by repeat constructor) (by rfl)) rfl ?_); (first | refine tl_sk rfl rfl rfl rfl ?_ | refine tl_qg rfl rfl (y_field rfl) rfl ?_); (first | refine tl_sk rfl rfl rfl rfl ?_ | refine tl_qg rfl rfl (y_load1 rfl (by repeat constructor) (by rfl)) rfl ?_); (first | refine tl_sk rfl rfl rfl rfl ?_ | refine tl_qg rfl rfl (y_neq rfl rfl) rfl ?_); (first | refine tl_q (y_pick_t rfl rfl) rfl ?_ | refine tl_q (y_pick_f rfl rfl) rfl ?_); refine tl_q (y_move rfl) rfl ?_; ((first | refine tl_sk rfl rfl rfl rfl ?_ | (refine tl_gs rfl rfl (fun hc => ?_) (fun hc => ?_) <;> (try simp only [qn1, qn2, qn3, qn4, qn5, qn6, qn7, qn8] at hc) <;> (first | refine tl_sk rfl rfl rfl rfl ?_ | refine tl_qg rfl rfl (y_field rfl) rfl ?_))))
  all_goals ((first | refine tl_sk rfl rfl rfl rfl ?_ | refine tl_qg rfl rfl (y_loadN rfl (by repeat constructor) (by (repeat (first | exact .nil | apply CA.cons rfl)); done)) rfl ?_))
  all_goals (first | refine tl_sk rfl rfl rfl rfl ?_ | refine tl_eg rfl rfl rfl (e_callV rfl (.cons rfl (.cons rfl (.cons rfl .nil))) (fun w' _ => dof_c _ _ _ _ w')) (fun _ _ => ?_)); (first | refine tl_q (y_pick_t rfl rfl) rfl ?_ | refine tl_q (y_pick_f rfl rfl) rfl ?_); refine tl_q (y_assign rfl) rfl ?_; refine tl_nil ?_; ((refine hK2 ?_; try (clear hK2; clear K2)))
  all_goals refine tc_ret ?_; (repeat (first | refine tk_then_ret ?_))
  all_goals (refine tk_ret rfl rfl (.cons (.tmp rfl) .nil) ?_)
  all_goals (
   refine fun w' hw' => ⟨congrArg (fun b => Ending.returned (Value.bool b)) ?_, hw'.fr (w0 := w) (S := []) MI.m⟩
   unfold lkB
   first
   | exact (decide_eq_false (by omega)).symm
   | exact decide_eq_decide.2 (by omega)
   | exact (decide_eq_true (by omega)).symm)
def fcB (t : Tab) (S P : Int) (f : Fct) : Bool := decide ((0 ≤ f.p ∧ f.p ≤ P - 1) ∧ (0 ≤ f.s ∧ f.s ≤ S - 1) ∧ (t.ws.getD 0 0 ≤ f.wl ∧ f.wl ≤ f.wh ∧ f.wh ≤ lastL t.ws) ∧ t.ms.getD 0 0 ≤ f.ml ∧ f.ml ≤ f.mh ∧ f.mh ≤ lastL t.ms)
set_option maxHeartbeats 1000000 in
theorem dfact_c (d : Dsp) (hv : VTab d.t) (hs : 1 ≤ d.S ∧ d.S ≤ 3) (hp : 1 ≤ d.P ∧ d.P ≤ 4) (f : Fct) (wv mv vv lv fv : Value) (h3 : vv.oneCell' = true) (h4 : lv.oneCell' = true) (h5 : fv.oneCell' = true) (w : World) (hr1 : RdI w wv d.t.ws) (hr2 : RdI w mv d.t.ms) : CnV Tryz.prog 45 #[dpV d wv mv vv lv fv, fcV f] w (.bool (fcB d.t d.S d.P f)) := by
  have w2 := hv.w2
  have w5 := hv.w5
  have m2 := hv.m2
  have m5 := hv.m5
  have h1 := hr1.one
  have h2 := hr2.one
  refine cnv (vs := [_, _]) Tryz.func45 rfl rfl ?_
  all_goals refine tc_seq fun K1 hK1 => ?_; refine tc_region ?_; refine tl_e (e_box rfl rfl rfl) rfl (fun b2 _ => ?_); refine tl_e (e_box rfl rfl rfl) rfl (fun b3 _ => ?_); refine tl_q (y_assign rfl) rfl ?_; refine tl_nil ?_; ((refine hK1 ?_; try (clear hK1; clear K1)))
  all_goals refine tc_seq fun K2 hK2 => ?_; refine tc_region ?_; refine tl_q (y_field rfl) rfl ?_; refine tl_q (y_load1 rfl (by repeat constructor) (by rfl)) rfl ?_; refine tl_q (y_field rfl) rfl ?_; refine tl_q (y_load1 rfl (by repeat constructor) (by rfl)) rfl ?_; refine tl_q (y_sub rfl rfl (by omega)) rfl ?_; refine tl_e (e_callV rfl (.cons rfl (.cons rfl (.cons rfl .nil))) (fun w' _ => dwithin_c _ _ _ w')) rfl (fun _ _ => ?_); refine tl_q (y_move rfl) rfl ?_; ((refine tl_gs rfl rfl (fun hc => ?_) (fun hc => ?_) <;> (try simp only [qn1, qn2, qn3, qn4, qn5, qn6, qn7, qn8] at hc) <;> (first | refine tl_sk rfl rfl rfl rfl ?_ | refine tl_qg rfl rfl (y_loadW rfl (by repeat constructor) (by rfl)) rfl ?_)))
  all_goals (first | refine tl_sk rfl rfl rfl rfl ?_ | refine tl_qg rfl rfl (y_field rfl) rfl ?_); (first | refine tl_sk rfl rfl rfl rfl ?_ | refine tl_qg rfl rfl (y_load1 rfl (by repeat constructor) (by rfl)) rfl ?_); (first | refine tl_sk rfl rfl rfl rfl ?_ | refine tl_eg rfl rfl rfl (e_callV rfl (.cons rfl (.cons rfl .nil)) (fun w' _ => dsample_c d hs _ _ _ _ _ _ w')) (fun _ _ => ?_)); (first | refine tl_q (y_pick_t rfl rfl) rfl ?_ | refine tl_q (y_pick_f rfl rfl) rfl ?_); refine tl_q (y_move rfl) rfl ?_; ((first | refine tl_sk rfl rfl rfl rfl ?_ | (refine tl_gs rfl rfl (fun hc => ?_) (fun hc => ?_) <;> (try simp only [qn1, qn2, qn3, qn4, qn5, qn6, qn7, qn8] at hc) <;> (first | refine tl_sk rfl rfl rfl rfl ?_ | refine tl_qg rfl rfl (y_field rfl) rfl ?_))))
  all_goals ((first | refine tl_sk rfl rfl rfl rfl ?_ | refine tl_qg rfl rfl (y_loadN rfl (by repeat constructor) (by (repeat (first | exact .nil | apply CA.cons rfl)); done)) rfl ?_))
  all_goals (first | refine tl_sk rfl rfl rfl rfl ?_ | refine tl_qg rfl rfl (y_field rfl) rfl ?_); (first | refine tl_sk rfl rfl rfl rfl ?_ | refine tl_qg rfl rfl (y_field rfl) rfl ?_); (first | refine tl_sk rfl rfl rfl rfl ?_ | refine tl_qg rfl rfl (y_load1 rfl (by repeat constructor) (by rfl)) rfl ?_); (first | refine tl_sk rfl rfl rfl rfl ?_ | refine tl_eg rfl rfl rfl (e_callV rfl (.cons rfl (.cons rfl .nil)) (fun w' hw' => don_c d.t.ws (by omega) (by omega) _ _ _ w' (hr1.fr (hw'.fr (w0 := w) (S := []) MI.m)))) (fun _ _ => ?_)); (first | refine tl_q (y_pick_t rfl rfl) rfl ?_ | refine tl_q (y_pick_f rfl rfl) rfl ?_); refine tl_q (y_move rfl) rfl ?_; ((first | refine tl_sk rfl rfl rfl rfl ?_ | (refine tl_gs rfl rfl (fun hc => ?_) (fun hc => ?_) <;> (try simp only [qn1, qn2, qn3, qn4, qn5, qn6, qn7, qn8] at hc) <;> (first | refine tl_sk rfl rfl rfl rfl ?_ | refine tl_qg rfl rfl (y_field rfl) rfl ?_))))
  all_goals ((first | refine tl_sk rfl rfl rfl rfl ?_ | refine tl_qg rfl rfl (y_loadN rfl (by repeat constructor) (by (repeat (first | exact .nil | apply CA.cons rfl)); done)) rfl ?_))
  all_goals (first | refine tl_sk rfl rfl rfl rfl ?_ | refine tl_qg rfl rfl (y_field rfl) rfl ?_); (first | refine tl_sk rfl rfl rfl rfl ?_ | refine tl_qg rfl rfl (y_field rfl) rfl ?_); (first | refine tl_sk rfl rfl rfl rfl ?_ | refine tl_qg rfl rfl (y_load1 rfl (by repeat constructor) (by rfl)) rfl ?_); (first | refine tl_sk rfl rfl rfl rfl ?_ | refine tl_eg rfl rfl rfl (e_callV rfl (.cons rfl (.cons rfl .nil)) (fun w' hw' => don_c d.t.ms (by omega) (by omega) _ _ _ w' (hr2.fr (hw'.fr (w0 := w) (S := []) MI.m)))) (fun _ _ => ?_)); (first | refine tl_q (y_pick_t rfl rfl) rfl ?_ | refine tl_q (y_pick_f rfl rfl) rfl ?_); refine tl_q (y_assign rfl) rfl ?_; refine tl_nil ?_; ((refine hK2 ?_; try (clear hK2; clear K2)))
  all_goals refine tc_ret ?_; (repeat (first | refine tk_then_ret ?_))
  all_goals (refine tk_ret rfl rfl (.cons (.tmp rfl) .nil) ?_)
  all_goals (
   refine fun w' hw' => ⟨congrArg (fun b => Ending.returned (Value.bool b)) ?_, hw'.fr (w0 := w) (S := []) MI.m⟩
   unfold fcB
   first
   | exact (decide_eq_false (by omega)).symm
   | exact decide_eq_decide.2 (by omega)
   | exact (decide_eq_true (by omega)).symm)
end Go.Sp
/-
  Package dispute: what is valid; a dispute at work; what a fact means.
-/
namespace Go.Sp
open Go Go.Proofs
theorem lk_ok {d : Dsp} (hv : VDsp d) : d.ls.all (lkB d.S) = true := List.all_eq_true.2 fun x hx => by
  obtain ⟨i, hi, rfl⟩ := List.getElem_of_mem hx
  have h := hv.lk i hi
  rw [List.getD_eq_getElem?_getD, List.getElem?_eq_getElem hi] at h
  exact decide_eq_true ⟨h.a, h.b, h.ne, h.d⟩
theorem fc_ok {d : Dsp} (hv : VDsp d) : d.fs.all (fcB d.t d.S d.P) = true := List.all_eq_true.2 fun x hx => by
  obtain ⟨i, hi, rfl⟩ := List.getElem_of_mem hx
  have h := hv.fc i hi
  rw [List.getD_eq_getElem?_getD, List.getElem?_eq_getElem hi] at h
  have hw := h.w
  exact decide_eq_true ⟨h.p, h.s, ⟨hw.1, Int.le_of_eq hw.2.1, hw.2.2⟩, h.m⟩
set_option maxHeartbeats 1000000 in
theorem checkDispute_c (d : Dsp) (hv : VDsp d) (wv mv vv lv fv : Value) (w : World) (hr : RdD w d wv mv vv lv fv) : CnV Tryz.prog 30 #[dpV d wv mv vv lv fv] w (vi 0) := by
  have hr0 := hr
  have hs := hv.s
  have hp := hv.p
  have hl4 := hv.l
  have hf6 := hv.f
  have o1 := hr.tb.ws.one
  have o2 := hr.tb.ms.one
  have o3 := hr.tb.vs.one
  obtain ⟨al, cl, bl, ol, rfl, hadl, hcl⟩ := hr.ls.open lkE_len lk0
  obtain ⟨af, cf, bf, of, rfl, hadf, hcf⟩ := hr.fs.open fcE_len fct0
  have c1 : ∀ w', Fr [] w w' → CnV Tryz.prog 46 #[.slice al d.ls.length cl, .func (.func 44) #[dpV d wv mv vv (.slice al d.ls.length cl) (.slice af d.fs.length cf)] #[]] w' (.bool true) := fun w' f => by
    have h := dallLk_c 44 #[dpV d wv mv vv (.slice al d.ls.length cl) (.slice af d.fs.length cf)] #[] (lkB d.S) d.ls (by omega) _ w' (hr0.ls.fr f) (fun x w2 _ => by simpa using dlink_c d hs x wv mv vv _ _ o1 o2 o3 rfl rfl w2)
    rwa [lk_ok hv] at h
  have c2 : ∀ w', Fr [] w w' → CnV Tryz.prog 47 #[.slice af d.fs.length cf, .func (.func 45) #[dpV d wv mv vv (.slice al d.ls.length cl) (.slice af d.fs.length cf)] #[]] w' (.bool true) := fun w' f => by
    have h := dallFc_c 45 #[dpV d wv mv vv (.slice al d.ls.length cl) (.slice af d.fs.length cf)] #[] (fcB d.t d.S d.P) d.fs (by omega) _ w' (hr0.fs.fr f) (fun x w2 f2 => by simpa using dfact_c d hv.t hs hp x wv mv vv _ _ o3 rfl rfl w2 (hr0.tb.ws.fr (f.trans f2 (by simp))) (hr0.tb.ms.fr (f.trans f2 (by simp))))
    rwa [fc_ok hv] at h
  refine cnv (vs := [_]) Tryz.func30 rfl rfl ?_
  all_goals refine tc_seq fun K1 hK1 => ?_; refine tc_region ?_; refine tl_e (e_box rfl rfl rfl) rfl (fun b1 _ => ?_); refine tl_q (y_assign rfl) rfl ?_; refine tl_nil ?_; ((refine hK1 ?_; try (clear hK1; clear K1)))
  all_goals refine tc_seq fun K2 hK2 => ?_; refine tc_seq fun K3 hK3 => ?_; refine tc_region ?_; refine tl_q (y_field rfl) rfl ?_; ((refine tl_q (y_loadN rfl (by repeat constructor) (by (repeat (first | exact .nil | apply CA.cons rfl)); done)) rfl ?_))
  all_goals refine tl_e (e_callV rfl (.cons rfl .nil) (fun w' hw' => checkTable_c d.t hv.t _ _ _ w' (hr0.tb.fr (hw'.fr (w0 := w) (S := []) MI.m)))) rfl (fun _ _ => ?_); refine tl_q (y_assign rfl) rfl ?_; refine tl_nil ?_; ((refine hK3 ?_; try (clear hK3; clear K3)))
  all_goals refine tc_seq fun K4 hK4 => ?_; refine tc_region ?_; refine tl_q (y_move rfl) rfl ?_; refine tl_q (y_neq rfl rfl) rfl ?_; refine tl_nil ?_; ((refine hK4 ?_; try (clear hK4; clear K4)))
  all_goals (
   refine tc_cond rfl (fun hc => ?_) (fun hc => ?_)
   · try simp only [qn1, qn2, qn3, qn4, qn5, qn6, qn7, qn8] at hc
   · try simp only [qn1, qn2, qn3, qn4, qn5, qn6, qn7, qn8] at hc
     all_goals refine tc_skip ?_; ((refine hK2 ?_; try (clear hK2; clear K2)))
     all_goals refine tc_seq fun K6 hK6 => ?_; refine tc_draw (by kernel_rfl) ?_; refine tx_q 0 rfl (by kernel_rfl) (y_loadW rfl (by repeat constructor) (by rfl)) rfl (fun _ _ _ h => h) (fun _ h => h) ?_; refine tx_p 1 rfl (by kernel_rfl) (y_fn (.cons rfl .nil) .nil) rfl (fun _ _ _ h => h) (fun _ h => h) ?_; refine tx_q 2 rfl (by kernel_rfl) (y_loadW rfl (by repeat constructor) (by rfl)) rfl (fun _ _ _ h => h) (fun _ h => h) ?_; refine tx_p 3 rfl (by kernel_rfl) (y_fn (.cons rfl .nil) .nil) rfl (fun _ _ _ h => h) (fun _ h => h) ?_; refine tx_p 4 rfl (by kernel_rfl) (y_assign rfl) rfl (fun _ _ _ h => h) (fun _ h => h) ?_; refine tx_p 5 rfl (by kernel_rfl) (y_assign rfl) rfl (fun _ _ _ h => h) (fun _ h => h) ?_; refine tx_done (by kernel_rfl) ?_; ((refine hK6 ?_; try (clear hK6; clear K6)))
     all_goals refine tc_seq fun K7 hK7 => ?_; refine tc_block ?_; refine tc_seq fun K8 hK8 => ?_; refine tc_region ?_; refine tl_q (y_field rfl) rfl ?_; refine tl_q (y_load1 rfl (by repeat constructor) (by rfl)) rfl ?_; refine tl_q (y_gtr rfl rfl) rfl ?_; refine tl_q (y_move rfl) rfl ?_; ((refine tl_gs rfl rfl (fun hc => ?_) (fun hc => ?_) <;> (try simp only [qn1, qn2, qn3, qn4, qn5, qn6, qn7, qn8] at hc) <;> (first | (exfalso; omega) | refine tl_qg rfl rfl (y_field rfl) rfl ?_)))
     all_goals (refine tl_qg rfl rfl (y_load1 rfl (by repeat constructor) (by rfl)) rfl ?_); refine tl_qg rfl rfl (y_gtr rfl rfl) rfl ?_; refine tl_q (y_pick_f rfl rfl) rfl ?_; refine tl_q (y_move rfl) rfl ?_; ((refine tl_gs rfl rfl (fun hc => ?_) (fun hc => ?_) <;> (try simp only [qn1, qn2, qn3, qn4, qn5, qn6, qn7, qn8] at hc) <;> (first | (exfalso; omega) | refine tl_qg rfl rfl (y_field rfl) rfl ?_)))
     all_goals (refine tl_qg rfl rfl (y_load1 rfl (by repeat constructor) (by rfl)) rfl ?_); refine tl_qg rfl rfl (y_len rfl) rfl ?_; refine tl_qg rfl rfl (y_gtr rfl rfl) rfl ?_; refine tl_q (y_pick_f rfl rfl) rfl ?_; refine tl_q (y_move rfl) rfl ?_; ((refine tl_gs rfl rfl (fun hc => ?_) (fun hc => ?_) <;> (try simp only [qn1, qn2, qn3, qn4, qn5, qn6, qn7, qn8] at hc) <;> (first | (exfalso; omega) | refine tl_qg rfl rfl (y_field rfl) rfl ?_)))
     all_goals (refine tl_qg rfl rfl (y_load1 rfl (by repeat constructor) (by rfl)) rfl ?_); refine tl_qg rfl rfl (y_len rfl) rfl ?_; refine tl_qg rfl rfl (y_gtr rfl rfl) rfl ?_; refine tl_q (y_pick_f rfl rfl) rfl ?_; refine tl_q (y_assign rfl) rfl ?_; refine tl_nil ?_; ((refine hK8 ?_; try (clear hK8; clear K8)))
     all_goals (
      refine tc_cond rfl (fun hc => ?_) (fun hc => ?_)
      · try simp only [qn1, qn2, qn3, qn4, qn5, qn6, qn7, qn8] at hc
        all_goals ((exfalso; omega))
      · try simp only [qn1, qn2, qn3, qn4, qn5, qn6, qn7, qn8] at hc
        all_goals refine tc_seq fun K10 hK10 => ?_; refine tc_region ?_; refine tl_q (y_field rfl) rfl ?_; refine tl_q (y_load1 rfl (by repeat constructor) (by rfl)) rfl ?_; refine tl_q (y_lss rfl rfl) rfl ?_; refine tl_q (y_move rfl) rfl ?_; ((refine tl_gs rfl rfl (fun hc => ?_) (fun hc => ?_) <;> (try simp only [qn1, qn2, qn3, qn4, qn5, qn6, qn7, qn8] at hc) <;> (first | (exfalso; omega) | refine tl_qg rfl rfl (y_field rfl) rfl ?_)))
        all_goals (refine tl_qg rfl rfl (y_load1 rfl (by repeat constructor) (by rfl)) rfl ?_); refine tl_qg rfl rfl (y_lss rfl rfl) rfl ?_; refine tl_q (y_pick_f rfl rfl) rfl ?_; refine tl_q (y_move rfl) rfl ?_; ((refine tl_gs rfl rfl (fun hc => ?_) (fun hc => ?_) <;> (try simp only [qn1, qn2, qn3, qn4, qn5, qn6, qn7, qn8] at hc) <;> (first | (exfalso; omega) | refine tl_qg rfl rfl (y_field rfl) rfl ?_)))
        all_goals (refine tl_qg rfl rfl (y_load1 rfl (by repeat constructor) (by rfl)) rfl ?_); refine tl_qg rfl rfl (y_move rfl) rfl ?_; refine tl_eg rfl rfl rfl (e_callV rfl (.cons rfl (.cons rfl .nil)) (fun w' hw' => c1 w' (hw'.fr (w0 := w) (S := []) MI.m))) (fun _ _ => ?_); refine tl_qg rfl rfl (y_not rfl) rfl ?_; refine tl_q (y_pick_f rfl rfl) rfl ?_; refine tl_q (y_move rfl) rfl ?_; refine tl_qg rfl rfl (y_field rfl) rfl ?_; refine tl_qg rfl rfl (y_load1 rfl (by repeat constructor) (by rfl)) rfl ?_; refine tl_qg rfl rfl (y_move rfl) rfl ?_; refine tl_eg rfl rfl rfl (e_callV rfl (.cons rfl (.cons rfl .nil)) (fun w' hw' => c2 w' (hw'.fr (w0 := w) (S := []) MI.m))) (fun _ _ => ?_); refine tl_qg rfl rfl (y_not rfl) rfl ?_; refine tl_q (y_pick_f rfl rfl) rfl ?_; refine tl_q (y_assign rfl) rfl ?_; refine tl_nil ?_; ((refine hK10 ?_; try (clear hK10; clear K10)))
        all_goals (
         refine tc_cond rfl (fun hc => ?_) (fun hc => ?_)
         · try simp only [qn1, qn2, qn3, qn4, qn5, qn6, qn7, qn8] at hc
           all_goals ((exfalso; with_reducible exact btf hc))
         · try simp only [qn1, qn2, qn3, qn4, qn5, qn6, qn7, qn8] at hc
           all_goals refine tc_skip ?_; ((refine hK7 ?_; try (clear hK7; clear K7)))
           all_goals refine tc_seq fun K12 hK12 => ?_; refine tc_region ?_; refine tl_q (y_assign rfl) rfl ?_; refine tl_nil ?_; ((refine hK12 ?_; try (clear hK12; clear K12)))
           all_goals refine tc_ret ?_; (repeat (first | refine tk_then_ret ?_))
           all_goals (refine tk_ret rfl rfl (.cons (.tmp rfl) .nil) ?_)
           all_goals (
            exact fun w' hw' => ⟨rfl, hw'.fr (w0 := w) (S := []) MI.m⟩))))
abbrev wkP (d : Dsp) (wv mv vv lv fv : Value) (bm : Nat) : Obj := .cells #[wv, mv, vv, vi d.S, vi d.P, lv, fv, .map (some bm)] 126 (0, 0)
theorem dwork_c (d : Dsp) (wv mv vv lv fv : Value) (h1 : wv.oneCell' = true) (h2 : mv.oneCell' = true) (h3 : vv.oneCell' = true) (h4 : lv.oneCell' = true) (h5 : fv.oneCell' = true) (w : World) :
    CnX Tryz.prog 31 #[dpV d wv mv vv lv fv] w [] (fun x : Nat × Nat => ptr x.1)
      (fun x w' => True ∧ (∀ q ∈ [(x.1, wkP d wv mv vv lv fv x.2), (x.2, .map #[] 0)], w.heap.size ≤ q.1 ∧ w'.heap[q.1]? = some q.2) ∧ (([(x.1, wkP d wv mv vv lv fv x.2), (x.2, .map #[] 0)] : List (Nat × Obj)).map Prod.fst).Nodup) := by
  refine cnx0 (vs := [_]) Tryz.func31 rfl rfl ?_
  all_goals refine tc_seq fun K1 hK1 => ?_; refine tc_region ?_; refine tl_e (e_box rfl rfl rfl) rfl (fun b1 _ => ?_); refine tl_q (y_assign rfl) rfl ?_; refine tl_nil ?_; ((refine hK1 ?_; try (clear hK1; clear K1)))
  all_goals refine tc_seq fun K2 hK2 => ?_; refine tc_region ?_; refine tl_q (y_loadW rfl (by repeat constructor) (by rfl)) rfl ?_; refine tl_e (e_makeMap rfl) rfl (fun bm _ => ?_); refine tl_q (y_build_g (by repeat constructor)) rfl ?_; refine tl_e (e_box rfl rfl rfl) rfl (fun bw _ => ?_); refine tl_q (y_assign rfl) rfl ?_; refine tl_nil ?_; ((refine hK2 ?_; try (clear hK2; clear K2)))
  all_goals refine tc_ret ?_; (repeat (first | refine tk_then_ret ?_))
  all_goals (refine tk_ret rfl rfl (.cons (.tmp rfl) .nil) ?_)
  all_goals (
   refine fun w' hw' => ⟨(bw, bm), rfl, hw'.fr (w0 := w) (S := []) MI.m, trivial, fun q hq => ?_, ?_⟩
   · rcases List.mem_cons.1 hq with rfl | hq
     · exact ⟨(hw'.own _ (HM.mem (b := bw) (by repeat constructor)) (w, []) (by simp)).resolve_left (by simp), hw'.heap _ (HM.mem (b := bw) (by repeat constructor))⟩
     · obtain rfl := List.mem_singleton.1 hq
       exact ⟨(hw'.own _ (HM.mem (b := bm) (by repeat constructor)) (w, []) (by simp)).resolve_left (by simp), hw'.heap _ (HM.mem (b := bm) (by repeat constructor))⟩
   · have := hw'.nodup
     exact this.sublist SB.s)
def fcL (f : Fct) : List Int := [f.p, f.s, f.wl, f.wh, f.ml, f.mh]
def ofL (k : List Int) : Fct := ⟨k.getD 0 0, k.getD 1 0, k.getD 2 0, k.getD 3 0, k.getD 4 0, k.getD 5 0⟩
noncomputable def mnM (t : Tab) (k : List Int) : List Int := [(meanD t (ofL k)).1, (meanD t (ofL k)).2]
section
variable {P : Program} {F : List (Nat × Value)} {bs : List (World × List Nat)} {H : List (Nat × Obj)} {N : NN}
  {d : Option Tmp} {ty : TypeId} {pos : String} {after : Array Edge} {g : Option (Nat × Bool)}
theorem y_lookupF_hit {t key elem : TypeId} {n m : Nat} {zs : List Int} (h : TyMapF P t key elem n m zs) (M : List Int → List Int) {x y : Operand} (k : List Int) {r : Nat} {es : Array MapEntry} {ck : Nat} (hh : hasF es k = true) (hk : k.length = n)
    (hx : evalO F x = some (.map (some r))) (hy : evalO F y = some (.agg (isV k))) (hm : HM r (.map es ck) H) (hg : GoodM n M es) :
    OpY P ⟨d, .lookup t x y true, ty, pos, after, g⟩ F bs H (.tuple #[.agg (isV (M k)), .bool true]) := by
  have := y_lookupF (P := P) (F := F) (bs := bs) (H := H) (d := d) (ty := ty) (pos := pos) (after := after) (g := g) h M hk hx hy hm hg
  rw [hh, if_pos rfl] at this
  exact this
theorem y_lookupF_miss {t key elem : TypeId} {n m : Nat} {zs : List Int} (h : TyMapF P t key elem n m zs) (M : List Int → List Int) {x y : Operand} (k : List Int) {r : Nat} {es : Array MapEntry} {ck : Nat} (hh : hasF es k = false) (hk : k.length = n)
    (hx : evalO F x = some (.map (some r))) (hy : evalO F y = some (.agg (isV k))) (hm : HM r (.map es ck) H) (hg : GoodM n M es) :
    OpY P ⟨d, .lookup t x y true, ty, pos, after, g⟩ F bs H (.tuple #[.agg (isV zs), .bool false]) := by
  have := y_lookupF (P := P) (F := F) (bs := bs) (H := H) (d := d) (ty := ty) (pos := pos) (after := after) (g := g) h M hk hx hy hm hg
  rw [hh, if_neg Bool.false_ne_true] at this
  exact this
end
theorem RdLL.frM {α : Type} {k : Nat} {enc : α → List Value} {w w' : World} {v : Value} {xss : List (List α)} {S : List Nat} (h : RdLL k enc w v xss) (f : Fr S w w') (hS : ∀ x ∈ S, ∃ es ck, w.heap[x]? = some (.map es ck)) : RdLL k enc w' v xss := by
  obtain ⟨us, h1, h2, h3⟩ := h
  exact ⟨us, h1.frM f hS, h2, fun j hj => (h3 j hj).frM f hS⟩
theorem RdTb.frM {w w' : World} {t : Tab} {wv mv vv : Value} {S : List Nat} (h : RdTb w t wv mv vv) (f : Fr S w w') (hS : ∀ x ∈ S, ∃ es ck, w.heap[x]? = some (.map es ck)) : RdTb w' t wv mv vv :=
  ⟨(h.ws.toS.frM f hS).toI, (h.ms.toS.frM f hS).toI, h.vs.frM f hS⟩
theorem RdD.frM {w w' : World} {d : Dsp} {wv mv vv lv fv : Value} {S : List Nat} (h : RdD w d wv mv vv lv fv) (f : Fr S w w') (hS : ∀ x ∈ S, ∃ es ck, w.heap[x]? = some (.map es ck)) : RdD w' d wv mv vv lv fv :=
  ⟨h.tb.frM f hS, h.ls.frM f hS, h.fs.frM f hS⟩
theorem isV_oneD (l : List Int) : ∀ v ∈ (isV l).toList, v.oneCell' = true := fun v hv => by
  obtain ⟨n, _, rfl⟩ := List.mem_map.1 (by simpa [isV] using hv)
  rfl
set_option maxHeartbeats 2000000 in
theorem dmean_c (d : Dsp) (hv : VTab d.t) (f : Fct) (hf : FcOk d.t d.S d.P f) (wv mv vv lv fv : Value) (h4 : lv.oneCell' = true) (h5 : fv.oneCell' = true) (w : World) (hr : RdTb w d.t wv mv vv) (bw bm : Nat) (es : Array MapEntry) (ck : Nat)
    (hbw : w.heap[bw]? = some (wkP d wv mv vv lv fv bm)) (hbm : w.heap[bm]? = some (.map es ck)) (hg : GoodM 6 (mnM d.t) es) :
    CnX Tryz.prog 50 #[ptr bw, fcV f] w [bm] (fun _ : Array MapEntry × Nat => rV (meanD d.t f)) (fun x w' => GoodM 6 (mnM d.t) x.1 ∧ w'.heap[bm]? = some (.map x.1 x.2)) := by
  have hne : bw ≠ bm := by rintro rfl; rw [hbw] at hbm; simp at hbm
  have o1 := hr.ws.one
  have o2 := hr.ms.one
  have o3 := hr.vs.one
  have hfw := hf.w
  have hfm := hf.m
  obtain ⟨fp, fs, wl, wh, ml, mh⟩ := f
  dsimp only at hfw hfm
  obtain rfl : wl = wh := hfw.2.1
  have hbo := tBoundsP_c d.t hv wl ml mh ⟨hfw.1, hfw.2.2⟩ hfm
  have hrM : ∀ w', Fr [bw, bm] w w' → w'.heap[bw]? = some (wkP d wv mv vv lv fv bm) → RdTb w' d.t wv mv vv := fun w' f hb => by
    refine hr.frM (S := [bm]) (Fr.but f (by rw [hb, hbw])) (fun x hx => ?_)
    obtain rfl : x = bm := by simpa using hx
    exact ⟨es, ck, hbm⟩
  cases hh : hasF es (fcL ⟨fp, fs, wl, wl, ml, mh⟩)
  all_goals refine cnxS (vs := [_, _]) (S := [bw, bm]) [(bw, wkP d wv mv vv lv fv bm), (bm, .map es ck)] Tryz.func50 rfl rfl ⟨by simp [hbw, hbm], by simp [hne], by simp⟩ ?_; refine tc_seq fun K1 hK1 => ?_; refine tc_region ?_; refine tl_e (e_box rfl rfl rfl) rfl (fun _ _ => ?_); refine tl_e (e_allocN rfl) rfl (fun _ _ => ?_); refine tl_nil ?_; ((refine hK1 ?_; try (clear hK1; clear K1)))
  all_goals refine tc_seq fun K2 hK2 => ?_; refine tc_draw (by kernel_rfl) ?_; refine tx_p 0 rfl (by kernel_rfl) (y_move rfl) rfl (fun _ _ _ h => h) (fun _ h => h) ?_; refine tx_p 1 rfl (by kernel_rfl) (y_nil rfl) rfl (fun _ _ _ h => h) (fun _ h => h) ?_; refine tx_p 2 rfl (by kernel_rfl) (y_field rfl) rfl (fun _ _ _ h => h) (fun _ h => h) ?_; refine tx_q 3 rfl (by kernel_rfl) (y_load1 rfl (by repeat constructor) (by rfl)) rfl (fun _ _ _ h => h) (fun _ h => h) ?_; refine tx_q 4 rfl (by kernel_rfl) (y_loadW rfl (by repeat constructor) (by rfl)) rfl (fun _ _ _ h => h) (fun _ h => h) ?_; (first | refine tx_q 5 rfl (by kernel_rfl) (y_lookupF_hit tyMapF124 (mnM d.t) (fcL ⟨fp, fs, wl, wl, ml, mh⟩) hh rfl rfl rfl (by repeat constructor) hg) rfl (fun _ _ _ h => h) (fun _ h => h) ?_ | refine tx_q 5 rfl (by kernel_rfl) (y_lookupF_miss tyMapF124 (mnM d.t) (fcL ⟨fp, fs, wl, wl, ml, mh⟩) hh rfl rfl rfl (by repeat constructor) hg) rfl (fun _ _ _ h => h) (fun _ h => h) ?_); refine tx_p 6 rfl (by kernel_rfl) (y_move rfl) rfl (fun _ _ _ h => h) (fun _ h => h) ?_; refine tx_p 7 rfl (by kernel_rfl) (y_extract rfl rfl) rfl (fun _ _ _ h => h) (fun _ h => h) ?_; refine tx_p 8 rfl (by kernel_rfl) (y_extract rfl rfl) rfl (fun _ _ _ h => h) (fun _ h => h) ?_; refine tx_e 9 rfl (by kernel_rfl) rfl (e_allocN rfl) (.inr qq1) (fun _ _ => ?_); refine tx_e 10 rfl (by kernel_rfl) rfl (e_storeW rfl rfl (by repeat constructor) (by rfl) (by rfl) (isV_oneD _)) (.inl (by kernel_rfl)) (fun _ _ => ?_); refine tx_p 11 rfl (by kernel_rfl) (y_assign rfl) rfl (fun _ _ _ h => h) (fun _ h => h) ?_; refine tx_done (by kernel_rfl) ?_; ((refine hK2 ?_; try (clear hK2; clear K2)))
  all_goals refine tc_seq fun K3 hK3 => ?_; refine tc_seq fun K4 hK4 => ?_; refine tc_region ?_; refine tl_q (y_move rfl) rfl ?_; refine tl_nil ?_; ((refine hK4 ?_; try (clear hK4; clear K4)))
  all_goals (
   refine tc_cond rfl (fun hc => ?_) (fun hc => ?_)
   · try simp only [qn1, qn2, qn3, qn4, qn5, qn6, qn7, qn8] at hc
     all_goals ((first | (exfalso; with_reducible exact bft hc) | skip))
     all_goals refine tc_seq fun K5 hK5 => ?_; refine tc_region ?_; refine tl_q (y_loadW rfl (by repeat constructor) (by rfl)) rfl ?_; refine tl_e (e_storeW rfl rfl (by repeat constructor) (by rfl) (by rfl) (isV_oneD _)) rfl (fun _ _ => ?_); refine tl_nil ?_; ((refine hK5 ?_; try (clear hK5; clear K5)))
     all_goals refine tc_ret ?_; (repeat (refine tk_then_ret ?_))
     all_goals (refine tk_ret rfl rfl (.cons (.agg inferInstance rfl (by repeat constructor) (by rfl)) .nil) ?_)
     all_goals (
      refine fun w' hw' => ?_
      have hb2 := hw'.heap (bw, wkP d wv mv vv lv fv bm) (HM.mem (by repeat constructor))
      have hb1 := hw'.heap _ (HM.mem (b := bm) (by repeat constructor))
      first
      | exact ⟨(es, ck), rfl, Fr.but (hw'.fr (S := [bw, bm]) (w0 := w) MI.m) (by rw [hb2, hbw]), hg, hb1⟩
      | exact ⟨q5, rfl, Fr.but (hw'.fr (S := [bw, bm]) (w0 := w) MI.m) (by rw [hb2, hbw]), hq5, hb1⟩)
   · try simp only [qn1, qn2, qn3, qn4, qn5, qn6, qn7, qn8] at hc
     all_goals ((first | (exfalso; with_reducible exact btf hc) | skip))
     all_goals refine tc_skip ?_; ((refine hK3 ?_; try (clear hK3; clear K3)))
     all_goals refine tc_seq fun K6 hK6 => ?_; refine tc_draw (by kernel_rfl) ?_; refine tx_p 0 rfl (by kernel_rfl) (y_move rfl) rfl (fun _ _ _ h => h) (fun _ h => h.subl SB.s SB.s) ?_; refine tx_p 1 rfl (by kernel_rfl) (y_nil rfl) rfl (fun _ _ _ h => h) (fun _ h => h.subl SB.s SB.s) ?_; refine tx_p 2 rfl (by kernel_rfl) (y_field rfl) rfl (fun _ _ _ h => h) (fun _ h => h.subl SB.s SB.s) ?_; refine tx_p 3 rfl (by kernel_rfl) (y_field rfl) rfl (fun _ _ _ h => h) (fun _ h => h.subl SB.s SB.s) ?_; ((refine tx_qS 4 rfl (by kernel_rfl) (y_loadN rfl (by repeat constructor) (by (repeat (first | exact .nil | apply CA.cons rfl)); done)) rfl (fun _ _ _ h => h) (fun _ h => h.subl SB.s SB.s) ?_))
     all_goals refine tx_p 5 rfl (by kernel_rfl) (y_field rfl) rfl (fun _ _ _ h => h) (fun _ h => h.subl SB.s SB.s) ?_; ((refine tx_qS 6 rfl (by kernel_rfl) (y_loadN rfl (by repeat constructor) (by (repeat (first | exact .nil | apply CA.cons rfl)); done)) rfl (fun _ _ _ h => h) (fun _ h => h.subl SB.s SB.s) ?_))
     all_goals refine tx_p 7 rfl (by kernel_rfl) (y_field rfl) rfl (fun _ _ _ h => h) (fun _ h => h.subl SB.s SB.s) ?_; ((refine tx_qS 8 rfl (by kernel_rfl) (y_loadN rfl (by repeat constructor) (by (repeat (first | exact .nil | apply CA.cons rfl)); done)) rfl (fun _ _ _ h => h) (fun _ h => h.subl SB.s SB.s) ?_))
     all_goals (
      refine tx_pair 9 13 (by kernel_rfl) ?_ ?_
      rotate_left
      focus (
       (refine to_e rfl rfl (e_allocN rfl) (.inr ⟨fun _ _ h => h.subl SB.s SB.s, fun _ h => h⟩) (fun _ _ => ?_))
       all_goals refine tx_single 9 (by kernel_rfl) (to_e rfl rfl (e_callV rfl (.cons rfl (.cons rfl (.cons rfl .nil))) (fun w' hw' => hbo _ _ _ w' (hrM w' (hw'.fr (w0 := w) (S := [bw, bm]) MI.m) (hw'.at (by repeat constructor))))) (.inr ⟨fun _ _ h => h.subl SB.s SB.s, fun _ h => h⟩) (fun _ _ => ?_)); refine tx_p 10 rfl (by kernel_rfl) (y_move rfl) rfl (fun _ _ _ h => h) (fun _ h => h.subl SB.s SB.s) ?_; refine tx_p 11 rfl (by kernel_rfl) (y_extract rfl rfl) rfl (fun _ _ _ h => h) (fun _ h => h.subl SB.s SB.s) ?_; refine tx_p 12 rfl (by kernel_rfl) (y_extract rfl rfl) rfl (fun _ _ _ h => h) (fun _ h => h.subl SB.s SB.s) ?_; refine tx_single 14 (by kernel_rfl) (to_e (S' := HG [] []) rfl rfl (e_storeW rfl rfl (by repeat constructor) (by rfl) (by rfl) (by simp [Value.oneCell'])) (.inl (by kernel_rfl)) (fun _ _ => ?_)); refine tx_p 15 rfl (by kernel_rfl) (y_assign rfl) rfl (fun _ _ _ h => h) (fun _ h => h.subl SB.s SB.s) ?_
       all_goals refine tx_done (by kernel_rfl) ?_)
      rotate_right
      focus (
       (refine to_e rfl rfl (e_callV rfl (.cons rfl (.cons rfl (.cons rfl .nil))) (fun w' hw' => hbo _ _ _ w' (hrM w' (hw'.fr (w0 := w) (S := [bw, bm]) MI.m) (hw'.at (by repeat constructor))))) (.inr ⟨fun _ _ h => h.subl SB.s SB.s, fun _ h => h⟩) (fun _ _ => ?_))
       all_goals refine tx_p 10 rfl (by kernel_rfl) (y_move rfl) rfl (fun _ _ _ h => h) (fun _ h => h.subl SB.s SB.s) ?_; refine tx_p 11 rfl (by kernel_rfl) (y_extract rfl rfl) rfl (fun _ _ _ h => h) (fun _ h => h.subl SB.s SB.s) ?_; refine tx_p 12 rfl (by kernel_rfl) (y_extract rfl rfl) rfl (fun _ _ _ h => h) (fun _ h => h.subl SB.s SB.s) ?_; refine tx_single 13 (by kernel_rfl) (to_e rfl rfl (e_allocN rfl) (.inr ⟨fun _ _ h => h.subl SB.s SB.s, fun _ h => h⟩) (fun _ _ => ?_)); refine tx_single 14 (by kernel_rfl) (to_e (S' := HG [] []) rfl rfl (e_storeW rfl rfl (by repeat constructor) (by rfl) (by rfl) (by simp [Value.oneCell'])) (.inl (by kernel_rfl)) (fun _ _ => ?_)); refine tx_p 15 rfl (by kernel_rfl) (y_assign rfl) rfl (fun _ _ _ h => h) (fun _ h => h.subl SB.s SB.s) ?_
       all_goals refine tx_done (by kernel_rfl) ?_))
     all_goals ((refine hK6 ?_; try (clear hK6; clear K6)))
     all_goals refine tc_seq fun K7 hK7 => ?_; refine tc_draw (by kernel_rfl) ?_; refine tx_p 0 rfl (by kernel_rfl) (y_move rfl) rfl (fun _ _ _ h => h) (fun _ h => h) ?_; refine tx_p 1 rfl (by kernel_rfl) (y_nil rfl) rfl (fun _ _ _ h => h) (fun _ h => h) ?_; refine tx_p 2 rfl (by kernel_rfl) (y_field rfl) rfl (fun _ _ _ h => h) (fun _ h => h) ?_; refine tx_q 3 rfl (by kernel_rfl) (y_load1 rfl (by repeat constructor) (by rfl)) rfl (fun _ _ _ h => h) (fun _ h => h) ?_; refine tx_q 4 rfl (by kernel_rfl) (y_loadW rfl (by repeat constructor) (by rfl)) rfl (fun _ _ _ h => h) (fun _ h => h) ?_; refine tx_q 5 rfl (by kernel_rfl) (y_loadW rfl (by repeat constructor) (by rfl)) rfl (fun _ _ _ h => h) (fun _ h => h) ?_; refine tx_e 6 rfl (by kernel_rfl) rfl (e_mapPushF tyMapF124 (mnM d.t) (k := fcL ⟨fp, fs, wl, wl, ml, mh⟩) rfl hh rfl rfl rfl hg (fun _ => (by repeat constructor))) (.inl (by kernel_rfl)) (fun q5 hq5 => ?_); refine tx_done (by kernel_rfl) ?_; ((refine hK7 ?_; try (clear hK7; clear K7)))
     all_goals refine tc_seq fun K8 hK8 => ?_; refine tc_region ?_; refine tl_q (y_loadW rfl (by repeat constructor) (by rfl)) rfl ?_; refine tl_e (e_storeW rfl rfl (by repeat constructor) (by rfl) (by rfl) (by simp [Value.oneCell'])) rfl (fun _ _ => ?_); refine tl_nil ?_; ((refine hK8 ?_; try (clear hK8; clear K8)))
     all_goals refine tc_ret ?_; (repeat (first | refine tk_then_ret ?_))
     all_goals (refine tk_ret rfl rfl (.cons (.agg inferInstance rfl (by repeat constructor) (by rfl)) .nil) ?_)
     all_goals (
      refine fun w' hw' => ?_
      have hb2 := hw'.heap (bw, wkP d wv mv vv lv fv bm) (HM.mem (by repeat constructor))
      have hb1 := hw'.heap _ (HM.mem (b := bm) (by repeat constructor))
      first
      | exact ⟨(es, ck), rfl, Fr.but (hw'.fr (S := [bw, bm]) (w0 := w) MI.m) (by rw [hb2, hbw]), hg, hb1⟩
      | exact ⟨q5, rfl, Fr.but (hw'.fr (S := [bw, bm]) (w0 := w) MI.m) (by rw [hb2, hbw]), hq5, hb1⟩))
end Go.Sp
/-
  Disputes, plainly: how small the numbers can become.
-/
namespace Go.Sp
open Go Go.Proofs
/-- All numbers are at least -B, and at most 2000. -/
def gGe (g : List Int) (B : Int) : Prop := ∀ u v, u < 4 → v < 4 → -B ≤ gAt g u v ∧ gAt g u v ≤ 2000
theorem gGe.up {g : List Int} {B C : Int} (h : gGe g B) (hC : B ≤ C) : gGe g C := fun u v hu hv => by have := h u v hu hv; omega
theorem gVia_at {g : List Int} (hg : g.length = 16) {x u v u' v' : Nat} (hu : u < 4) (hv : v < 4) (hu' : u' < 4) (hv' : v' < 4) : gAt (gVia g x u v) u' v' = if u' = u ∧ v' = v then min (gAt g u v) (gAt g u x + gAt g x v) else gAt g u' v' := gAt_lst hg _ hu hv hu' hv'
theorem gTo_other {g : List Int} (hg : g.length = 16) {x u : Nat} (hu : u < 4) : ∀ k, k ≤ 4 → ∀ r v, r < 4 → v < 4 → (r ≠ u ∨ k ≤ v) → gAt (gTo g x u k) r v = gAt g r v
  | 0, _, _, _, _, _, _ => rfl
  | k + 1, hk, r, v, hr, hv, h => by
    rw [gTo_succ, gVia_at (by rw [gTo_len, hg]) hu (by omega) hr hv, if_neg (by omega)]
    exact gTo_other hg hu k (by omega) r v hr hv (by omega)
theorem gTo_up {g : List Int} (hg : g.length = 16) {x u : Nat} (hu : u < 4) (h : ∀ u v, u < 4 → v < 4 → gAt g u v ≤ 2000) : ∀ k, k ≤ 4 → ∀ r v, r < 4 → v < 4 → gAt (gTo g x u k) r v ≤ 2000 := fun k hk r v hr hv => by
  have := gTo_le hg (x := x) hu 0 k (by omega) r v hr hv
  rw [Nat.zero_add] at this
  have e : gAt (gTo g x u 0) r v = gAt g r v := rfl
  have := h r v hr hv
  omega
/-- Another row: over the node x, whose row is at least -C. -/
theorem gTo_ne {g : List Int} (hg : g.length = 16) {x u : Nat} {B C : Int} (hx : x < 4) (hu : u < 4) (hne : u ≠ x) (hB : 0 ≤ B) (hC : 0 ≤ C) (h1 : ∀ v, v < 4 → -B ≤ gAt g u v) (h2 : ∀ v, v < 4 → -C ≤ gAt g x v) : ∀ k, k ≤ 4 → (∀ v, v < 4 → -(B + 2 * C) ≤ gAt (gTo g x u k) u v) ∧ -(B + C) ≤ gAt (gTo g x u k) u x
  | 0, _ => ⟨fun v hv => by have := h1 v hv; show _ ≤ gAt g u v; omega, by have := h1 x hx; show _ ≤ gAt g u x; omega⟩
  | k + 1, hk => by
    obtain ⟨i1, i2⟩ := gTo_ne hg hx hu hne hB hC h1 h2 k (by omega)
    have hl : (gTo g x u k).length = 16 := by rw [gTo_len, hg]
    have e1 := gTo_other hg (x := x) hu k (by omega) x k hx (by omega) (.inl (fun e => hne e.symm))
    have e2 := gTo_other hg (x := x) hu k (by omega) u k hu (by omega) (.inr (Nat.le_refl k))
    have a1 := h1 k (by omega)
    have a2 := h2 k (by omega)
    refine ⟨fun v hv => ?_, ?_⟩
    · rw [gTo_succ, gVia_at hl hu (by omega) hu hv]
      by_cases e : u = u ∧ v = k
      · rw [if_pos e]; omega
      · rw [if_neg e]; exact i1 v hv
    · rw [gTo_succ, gVia_at hl hu (by omega) hu hx]
      by_cases e : u = u ∧ x = k
      · rw [if_pos e]
        obtain ⟨_, rfl⟩ := e
        omega
      · rw [if_neg e]; exact i2
theorem gTo_eq {g : List Int} (hg : g.length = 16) {x : Nat} {B : Int} (hx : x < 4) (hB : 0 ≤ B) (h1 : ∀ v, v < 4 → -B ≤ gAt g x v) : ∀ k, k ≤ 4 → (∀ v, v < 4 → -(3 * B) ≤ gAt (gTo g x x k) x v) ∧ -(2 * B) ≤ gAt (gTo g x x k) x x
  | 0, _ => ⟨fun v hv => by have := h1 v hv; show _ ≤ gAt g x v; omega, by have := h1 x hx; show _ ≤ gAt g x x; omega⟩
  | k + 1, hk => by
    obtain ⟨i1, i2⟩ := gTo_eq hg hx hB h1 k (by omega)
    have hl : (gTo g x x k).length = 16 := by rw [gTo_len, hg]
    have e2 := gTo_other hg (x := x) hx k (by omega) x k hx (by omega) (.inr (Nat.le_refl k))
    have a1 := h1 k (by omega)
    refine ⟨fun v hv => ?_, ?_⟩
    · rw [gTo_succ, gVia_at hl hx (by omega) hx hv]
      by_cases e : x = x ∧ v = k
      · rw [if_pos e]; omega
      · rw [if_neg e]; exact i1 v hv
    · rw [gTo_succ, gVia_at hl hx (by omega) hx hx]
      by_cases e : x = x ∧ x = k
      · rw [if_pos e]
        obtain ⟨_, rfl⟩ := e
        omega
      · rw [if_neg e]; exact i2
/-- While the rows are gone through. -/
structure gFr (g : List Int) (x k : Nat) (B : Int) (h : List Int) : Prop where
  le : ∀ u v, u < 4 → v < 4 → gAt h u v ≤ 2000
  all : ∀ u v, u < 4 → v < 4 → -(7 * B) ≤ gAt h u v
  row : ∀ v, v < 4 → -(3 * B) ≤ gAt h x v
  old : ∀ u v, k ≤ u → u < 4 → v < 4 → -B ≤ gAt h u v
theorem gFrom_fr {g : List Int} (hg : g.length = 16) {x : Nat} {B : Int} (hx : x < 4) (hB : 0 ≤ B) (h : gGe g B) : ∀ k, k ≤ 4 → gFr g x k B (gFrom g x k)
  | 0, _ => ⟨fun u v hu hv => (h u v hu hv).2, fun u v hu hv => by have := h u v hu hv; show _ ≤ gAt g u v; omega, fun v hv => by have := h x v hx hv; show _ ≤ gAt g x v; omega, fun u v _ hu hv => (h u v hu hv).1⟩
  | k + 1, hk => by
    have ih := gFrom_fr hg hx hB h k (by omega)
    have hl : (gFrom g x k).length = 16 := by rw [gFrom_len, hg]
    rw [gFrom_succ]
    have ho : ∀ r v, r < 4 → v < 4 → r ≠ k → gAt (gTo (gFrom g x k) x k 4) r v = gAt (gFrom g x k) r v := fun r v hr hv hne => gTo_other hl (by omega) 4 (by omega) r v hr hv (.inl hne)
    have hk' : ∀ v, v < 4 → -(7 * B) ≤ gAt (gTo (gFrom g x k) x k 4) k v ∧ (k = x → -(3 * B) ≤ gAt (gTo (gFrom g x k) x k 4) k v) := by
      intro v hv
      by_cases e : k = x
      · subst e
        have := (gTo_eq hl hx hB (fun v hv => ih.old k v (Nat.le_refl k) hx hv) 4 (by omega)).1 v hv
        exact ⟨by omega, fun _ => this⟩
      · have := (gTo_ne hl (x := x) (u := k) (B := B) (C := 3 * B) hx (by omega) e hB (by omega) (fun v hv => ih.old k v (Nat.le_refl k) (by omega) hv) ih.row 4 (by omega)).1 v hv
        exact ⟨by omega, fun g => absurd g e⟩
    refine ⟨fun u v hu hv => gTo_up hl (by omega) ih.le 4 (by omega) u v hu hv, fun u v hu hv => ?_, fun v hv => ?_, fun u v hku hu hv => ?_⟩
    · by_cases e : u = k
      · subst e; exact (hk' v hv).1
      · rw [ho u v hu hv e]; exact ih.all u v hu hv
    · by_cases e : x = k
      · subst e; exact (hk' v hv).2 rfl
      · rw [ho x v hx hv e]; exact ih.row v hv
    · rw [ho u v hu hv (by omega)]; exact ih.old u v (by omega) hu hv
theorem gFrom_ge {g : List Int} (hg : g.length = 16) {x : Nat} {B : Int} (hx : x < 4) (hB : 0 ≤ B) (h : gGe g B) (k : Nat) (hk : k ≤ 4) : gGe (gFrom g x k) (7 * B) := fun u v hu hv => by
  have := gFrom_fr hg hx hB h k hk
  exact ⟨this.all u v hu hv, this.le u v hu hv⟩
/-- In the midst of a row. -/
theorem gTo_ge {g : List Int} (hg : g.length = 16) {x : Nat} {B : Int} (hx : x < 4) (hB : 0 ≤ B) (h : gGe g B) {k : Nat} (hk : k < 4) (j : Nat) (hj : j ≤ 4) : gGe (gTo (gFrom g x k) x k j) (7 * B) := by
  have ih := gFrom_fr hg hx hB h k (by omega)
  have hl : (gFrom g x k).length = 16 := by rw [gFrom_len, hg]
  intro u v hu hv
  refine ⟨?_, gTo_up hl hk ih.le j hj u v hu hv⟩
  by_cases e : u = k
  · subst e
    by_cases e : u = x
    · subst e
      have := (gTo_eq hl hx hB (fun v hv => ih.old u v (Nat.le_refl u) hx hv) j hj).1 v hv
      omega
    · have := (gTo_ne hl (x := x) (u := u) (B := B) (C := 3 * B) hx hu e hB (by omega) (fun v hv => ih.old u v (Nat.le_refl u) hu hv) ih.row j hj).1 v hv
      omega
  · rw [gTo_other hl hk j hj u v hu hv (.inl e)]; exact ih.all u v hu hv
theorem gRnd_ge {g : List Int} (hg : g.length = 16) {B : Int} (hB : 0 ≤ B) (h : gGe g B) : ∀ k, k ≤ 4 → gGe (gRnd g k) (7 ^ k * B)
  | 0, _ => by rw [show (7 : Int) ^ 0 * B = B by omega]; exact h
  | k + 1, hk => by
    have ih := gRnd_ge hg hB h k (by omega)
    rw [gRnd_succ, show (7 : Int) ^ (k + 1) * B = 7 * (7 ^ k * B) by rw [Int.pow_succ, Int.mul_comm (7 ^ k) 7, Int.mul_assoc]]
    exact gFrom_ge (by rw [gRnd_len, hg]) (by omega) (Int.mul_nonneg (Int.pow_nonneg (by decide)) hB) ih 4 (by omega)
theorem gCls_ge {g : List Int} (hg : g.length = 16) {B : Int} (hB : 0 ≤ B) (h : gGe g B) : ∀ k, gGe (gCls g k) (2401 ^ k * B)
  | 0 => by rw [show (2401 : Int) ^ 0 * B = B by omega]; exact h
  | k + 1 => by
    have ih := gCls_ge hg hB h k
    rw [gCls_succ, show (2401 : Int) ^ (k + 1) * B = 7 ^ 4 * (2401 ^ k * B) by rw [Int.pow_succ, Int.mul_comm (2401 ^ k) 2401, Int.mul_assoc, show (7 : Int) ^ 4 = 2401 from by decide]]
    exact gRnd_ge (by rw [gCls_len, hg]) (Int.mul_nonneg (Int.pow_nonneg (by decide)) hB) ih 4 (by omega)
/-- Not beyond a machine's numbers. -/
abbrev gMax : Int := 100000000000000000
theorem gAll_ge {g : List Int} (hg : g.length = 16) (h : gGe g 2000) {r x u j : Nat} (hr : r < 4) (hx : x < 4) (hu : u < 4) (hj : j ≤ 4) : gGe (gTo (gFrom (gRnd (gCls g r) x) x u) x u j) gMax := by
  have h1 := gCls_ge hg (by decide) h r
  have hl1 : (gCls g r).length = 16 := by rw [gCls_len, hg]
  have p1 : (0 : Int) ≤ 2401 ^ r * 2000 := Int.mul_nonneg (Int.pow_nonneg (by decide)) (by decide)
  have h2 := gRnd_ge hl1 p1 h1 x (by omega)
  have hl2 : (gRnd (gCls g r) x).length = 16 := by rw [gRnd_len, hl1]
  have p2 : (0 : Int) ≤ 7 ^ x * (2401 ^ r * 2000) := Int.mul_nonneg (Int.pow_nonneg (by decide)) p1
  refine (gTo_ge hl2 hx p2 h2 hu j hj).up ?_
  rcases (show r = 0 ∨ r = 1 ∨ r = 2 ∨ r = 3 by omega) with rfl | rfl | rfl | rfl <;> rcases (show x = 0 ∨ x = 1 ∨ x = 2 ∨ x = 3 by omega) with rfl | rfl | rfl | rfl <;> decide +kernel
theorem gClsAll_ge {g : List Int} (hg : g.length = 16) (h : gGe g 2000) {r : Nat} (hr : r ≤ 4) : gGe (gCls g r) gMax := by
  refine (gCls_ge hg (by decide) h r).up ?_
  rcases (show r = 0 ∨ r = 1 ∨ r = 2 ∨ r = 3 ∨ r = 4 by omega) with rfl | rfl | rfl | rfl | rfl <;> decide +kernel
end Go.Sp
/-
  Package sample: whether there is a way; in which hours the bottle can be open.
-/
namespace Go.Sp
open Go Go.Proofs
/-- A sample at work whose map is done. -/
structure Wd (w : World) (s : Smp) (tv pv gv : Value) (b : Int) (c : List Int) (bw r : Nat) (es : Array MapEntry) (ck : Nat) : Prop where
  wk : Wk w s tv pv gv b c bw r
  hm : w.heap[r]? = some (.map es ck)
  kb : KeyB es.toList
  fb : ∀ j x, findB es.toList j x = restM s b c (s.L + 1).toNat j x
theorem Wd.fr {w w' : World} {s : Smp} {tv pv gv : Value} {b : Int} {c : List Int} {bw r : Nat} {es : Array MapEntry} {ck : Nat} (h : Wd w s tv pv gv b c bw r es ck) (f : Fr [] w w') : Wd w' s tv pv gv b c bw r es ck := ⟨h.wk.fr f, f.keep h.hm, h.kb, h.fb⟩
theorem restM_at {s : Smp} {b : Int} {c : List Int} {h : Nat} (hh : (h : Int) ≤ s.L) (x : Bool) : restM s b c (s.L + 1).toNat ((h : Int) + 1) x = rstF s b c (s.L - h).toNat x := by
  unfold restM; rw [if_pos (by omega)]; congr 1; omega
theorem restM_ini {s : Smp} {b : Int} {c : List Int} (hh : 0 ≤ s.L) (x : Bool) : restM s b c (s.L + 1).toNat 0 x = rstF s b c (s.L + 1).toNat x := by
  unfold restM; rw [if_pos (by omega)]; congr 1; omega
theorem begin_c (bw : Nat) (w : World) : CnV Tryz.prog 63 #[ptr bw] w (.agg #[vi 0, .bool false]) := by
  refine cnv (vs := [_]) Tryz.func63 rfl rfl ?_
  all_goals refine tc_seq fun K1 hK1 => ?_; refine tc_region ?_; refine tl_e (e_allocN rfl) rfl (fun b2 _ => ?_); refine tl_nil ?_; ((refine hK1 ?_; try (clear hK1; clear K1)))
  all_goals refine tc_seq fun K2 hK2 => ?_; refine tc_region ?_; refine tl_q (y_build_0) rfl ?_; refine tl_e (e_storeW rfl rfl (by repeat constructor) (by rfl) (by rfl) (by simp [Value.oneCell'])) rfl (fun _ _ => ?_); refine tl_nil ?_; ((refine hK2 ?_; try (clear hK2; clear K2)))
  all_goals refine tc_ret ?_; (repeat (first | refine tk_then_ret ?_))
  all_goals (refine tk_ret rfl rfl (.cons (.agg inferInstance rfl (by repeat constructor) (by rfl)) .nil) ?_)
  all_goals (
   exact fun w' hw' => ⟨rfl, hw'.fr (by simp)⟩)
def canF (s : Smp) (b : Int) (c : List Int) : Bool := (rstF s b c (s.L + 1).toNat false).isSome
theorem can_c (s : Smp) (hl : 0 ≤ s.L) (b : Int) (c : List Int) (hcl : c.length = 10) (tv pv gv : Value) (bw r : Nat) (es : Array MapEntry) (ck : Nat) (w : World) (hT : Wd w s tv pv gv b c bw r es ck) : CnV Tryz.prog 61 #[ptr bw] w (.bool (canF s b c)) := by
  refine cnv (vs := [_]) Tryz.func61 rfl rfl ?_
  all_goals refine tc_seq fun K1 hK1 => ?_; refine tc_region ?_; refine tl_q (y_assign rfl) rfl ?_; refine tl_nil ?_; ((refine hK1 ?_; try (clear hK1; clear K1)))
  all_goals refine tc_seq fun K2 hK2 => ?_; refine tc_draw (by kernel_rfl) ?_; refine tx_p 0 rfl (by kernel_rfl) (y_move rfl) rfl (fun _ _ _ h => h) (fun _ h => h) ?_; refine tx_p 1 rfl (by kernel_rfl) (y_nil rfl) rfl (fun _ _ _ h => h) (fun _ h => h) ?_; refine tx_p 2 rfl (by kernel_rfl) (y_field rfl) rfl (fun _ _ _ h => h) (fun _ h => h) ?_; refine tx_q 3 rfl (by kernel_rfl) (y_load1o (v := .map (some r)) rfl (fun w' hw' => wk_map ((hT.fr (hw'.fr (w0 := w) (S := []) MI.m)).wk.hw) hcl)) rfl (fun _ _ _ h => h) (fun _ h => h) ?_; refine tx_p 4 rfl (by kernel_rfl) (y_move rfl) rfl (fun _ _ _ h => h) (fun _ h => h) ?_; refine tx_e 5 rfl (by kernel_rfl) rfl (e_callV rfl (.cons rfl .nil) (fun w' _ => begin_c bw w')) (.inr fun _ _ h => h) (fun _ _ => ?_); refine tx_q 6 rfl (by kernel_rfl) (y_lookupBo rfl rfl (fun w' hw' => (hT.fr (hw'.fr (w0 := w) (S := []) MI.m)).hm) hT.kb ((hT.fb _ _).trans (restM_ini hl false))) rfl (fun _ _ _ h => h) (fun _ h => h) ?_; refine tx_p 7 rfl (by kernel_rfl) (y_move rfl) rfl (fun _ _ _ h => h) (fun _ h => h) ?_; refine tx_p 8 rfl (by kernel_rfl) (y_extract rfl rfl) rfl (fun _ _ _ h => h) (fun _ h => h) ?_; refine tx_p 9 rfl (by kernel_rfl) (y_extract rfl rfl) rfl (fun _ _ _ h => h) (fun _ h => h) ?_; refine tx_p 10 rfl (by kernel_rfl) (y_assign rfl) rfl (fun _ _ _ h => h) (fun _ h => h) ?_; refine tx_p 11 rfl (by kernel_rfl) (y_assign rfl) rfl (fun _ _ _ h => h) (fun _ h => h) ?_; refine tx_done (by kernel_rfl) ?_; ((refine hK2 ?_; try (clear hK2; clear K2)))
  all_goals refine tc_seq fun K3 hK3 => ?_; refine tc_region ?_; refine tl_q (y_move rfl) rfl ?_; refine tl_q (y_assign rfl) rfl ?_; refine tl_nil ?_; ((refine hK3 ?_; try (clear hK3; clear K3)))
  all_goals refine tc_ret ?_; (repeat (first | refine tk_then_ret ?_))
  all_goals (refine tk_ret rfl rfl (.cons (.tmp rfl) .nil) ?_)
  all_goals (
   exact fun w' hw' => ⟨rfl, hw'.fr (by simp)⟩)
def spE (h : Int) (x : Bool) : List Value := [vi h, .bool x]
theorem spE_len (h : Int) (x : Bool) : (spE h x).length = 2 := rfl
theorem spE_one (h : Int) (x : Bool) : one' (spE h x) := fun u hu => by simp only [spE, List.mem_cons, List.not_mem_nil, or_false] at hu; rcases hu with rfl | rfl <;> rfl
theorem RdS.at {α : Type} {k : Nat} {enc : α → List Value} {w : World} {ad : Option Addr} {cap b o : Nat} {xs : List α} (h : RdS k enc w (.slice ad xs.length cap) xs) (had : ad = some ⟨b, o, none⟩) (hk : ∀ x, (enc x).length = k) (d : α) {i : Nat} (hi : i < xs.length) : CA (fun n => w.cell? ⟨b, n, none⟩) (o + i * k) k (enc (xs.getD i d)) := by
  obtain ⟨ad2, cp2, b2, o2, e1, e2, e3⟩ := h.open hk d
  cases e1
  have e4 := e2 (by omega)
  rw [had] at e4
  cases e4
  exact e3 w [] (Fr.refl _ _) (by simp) i hi
theorem okE_pos {α : Type} {k : Nat} {xs : List α} {oo : OwnB} (h : okE k xs oo) (hp : 0 < xs.length) : ∃ b, (ouA oo).1 = some ⟨b, 0, none⟩ := by
  rcases oo with _ | ⟨b, cap, junk⟩
  · have : xs = [] := h
    rw [this] at hp; simp at hp
  · exact ⟨b, rfl⟩
theorem NewS.sep {w : World} {v : Value} {bs : List (World × List Nat)} {H : List (Nat × Obj)} (h : NewS w v) (hw : HG bs H w) : sepS v (H.map Prod.fst) := fun p m c e hm => by
  obtain ⟨q, hq, e2⟩ := List.mem_map.1 hm
  have := hw.lt hq
  have := h p m c e
  omega
theorem indexSp_c (h : Int) (x : Bool) (xs : List Bool) (hx : (xs.length : Int) ≤ 9000000000000000000) (sl : Value) (w : World) (hr : RdS 2 (spE h) w sl xs) : CnV Tryz.prog 113 #[sl, .agg #[vi h, .bool x]] w (vi (idxG xs (fun y => decide (x = y)))) := by
  obtain ⟨ad, cp, b0, o, rfl, had, hcell⟩ := hr.open (spE_len h) false
  refine cnv (vs := [_, _]) Tryz.func113 rfl rfl ?_
  all_goals refine tc_seq fun K1 hK1 => ?_; refine tc_region ?_; refine tl_e (e_box rfl rfl rfl) rfl (fun b3 _ => ?_); refine tl_q (y_assign rfl) rfl ?_; refine tl_nil ?_; ((refine hK1 ?_; try (clear hK1; clear K1)))
  all_goals refine tc_seq fun K2 hK2 => ?_; refine tc_seq fun K3 hK3 => ?_; refine tc_region ?_; refine tl_q (y_move rfl) rfl ?_; refine tl_q (y_len rfl) rfl ?_; refine tl_q (y_move rfl) rfl ?_; refine tl_nil ?_; ((refine hK3 ?_; try (clear hK3; clear K3)))
  all_goals refine tc_block ?_
  all_goals (
   refine tc_loop (fun k : Nat => k ≤ xs.length ∧ ∀ j, j < k → decide (x = xs.getD j false) = false) (fun k => [(0, .slice ad xs.length cp), (3, ptr b3), (7, vi xs.length), (8, vi k)]) (fun _ => [(w, [])]) (fun _ => [(b3, .cells #[vi h, .bool x] 152 (0, 0))]) (fun k => xs.length - k) ?_ ?_
   · exact tk_start 0 ⟨Nat.zero_le _, fun j hj => absurd hj (Nat.not_lt_zero j)⟩ (.cons rfl (.cons rfl (.cons rfl (.cons rfl .nil)))) (fun _ h => h.subl SB.s SB.s)
   · rintro k ⟨hk, hj⟩
     all_goals refine tc_seq fun K4 hK4 => ?_; refine tc_region ?_; refine tl_q (y_lss rfl rfl) rfl ?_; refine tl_nil ?_; ((refine hK4 ?_; try (clear hK4; clear K4)))
     all_goals refine tc_seq fun K5 hK5 => ?_
     all_goals (
      refine tc_cond rfl (fun hc => ?_) (fun hc => ?_)
      · try simp only [true_and, decide_eq_true_eq, decide_eq_false_iff_not, Int.not_lt, Int.not_le] at hc
        all_goals refine tc_skip ?_; ((refine hK5 ?_; try (clear hK5; clear K5)))
        all_goals refine tc_seq fun K6 hK6 => ?_; refine tc_block ?_; refine tc_seq fun K7 hK7 => ?_; refine tc_region ?_; refine tl_q (y_move rfl) rfl ?_; refine tl_q (y_assign rfl) rfl ?_; refine tl_nil ?_; ((refine hK7 ?_; try (clear hK7; clear K7)))
        all_goals refine tc_seq fun K8 hK8 => ?_
        have had' := had (by omega)
        all_goals refine tc_draw (by kernel_rfl) ?_; refine tx_q 0 rfl (by kernel_rfl) (y_loadW rfl (by repeat constructor) (by rfl)) rfl (fun _ _ _ h => h) (fun _ h => h) ?_; refine tx_p 1 rfl (by kernel_rfl) (y_move rfl) rfl (fun _ _ _ h => h) (fun _ h => h) ?_; refine tx_p 2 rfl (by kernel_rfl) (y_move rfl) rfl (fun _ _ _ h => h) (fun _ h => h) ?_; refine tx_p 3 rfl (by kernel_rfl) (y_index rfl rfl (by omega) had') rfl (fun _ _ _ h => h) (fun _ h => h) ?_; ((refine tx_q 4 rfl (by kernel_rfl) (y_loadNo (n := 2) (vs := [vi h, .bool (xs.getD k false)]) rfl (fun w' hw' => by rw [show Int.toNat (k : Int) * 2 = k * 2 from by omega]; exact hcell w' [] (hw'.fr (w0 := w) (S := []) MI.m) (by simp) k (by omega))) rfl (fun _ _ _ h => h) (fun _ h => h) ?_))
        all_goals (refine tx_p 5 rfl (by kernel_rfl) (y_eqlIB rfl rfl) rfl (fun _ _ _ h => h) (fun _ h => h) ?_); refine tx_done (by kernel_rfl) ?_; ((refine hK8 ?_; try (clear hK8; clear K8)))
        all_goals (
         refine tc_cond rfl (fun hc => ?_) (fun hc => ?_)
         · try simp only [true_and, decide_eq_true_eq, decide_eq_false_iff_not, Int.not_lt, Int.not_le] at hc
           all_goals refine tc_seq fun K9 hK9 => ?_; refine tc_region ?_; refine tl_q (y_move rfl) rfl ?_; refine tl_q (y_assign rfl) rfl ?_; refine tl_nil ?_; ((refine hK9 ?_; try (clear hK9; clear K9)))
           all_goals refine tc_ret ?_; (repeat (first | refine tk_then_ret ?_ | refine tk_block_ret ?_))
           all_goals (refine tk_ret rfl rfl (.cons (.tmp rfl) .nil) ?_)
           all_goals (
            first | exact fun w' hw' => ⟨by rw [idxG_hit (k := k) (d := false) (by omega) (decide_eq_true hc) hj]; rfl, hw'.fr (by simp)⟩ | exact fun w' hw' => ⟨by rw [idxG_miss (d := false) (fun j hjj => hj j (by omega))]; rfl, hw'.fr (by simp)⟩)
         · try simp only [true_and, decide_eq_true_eq, decide_eq_false_iff_not, Int.not_lt, Int.not_le] at hc
           all_goals refine tc_skip ?_; ((refine hK6 ?_; try (clear hK6; clear K6)))
           all_goals refine tc_region ?_; refine tl_q (y_add rfl rfl (by omega)) rfl ?_; refine tl_q (y_move rfl) rfl ?_; refine tl_nil ?_
           all_goals (
            exact tk_round (k + 1) ⟨by omega, fun j hj' => by rcases Nat.lt_succ_iff_lt_or_eq.1 hj' with h | rfl; exact hj j h; exact decide_eq_false hc⟩ (by omega) (.cons rfl (.cons rfl (.cons rfl (.cons rfl .nil)))) (fun _ h => h.subl SB.s SB.s)))
      · try simp only [true_and, decide_eq_true_eq, decide_eq_false_iff_not, Int.not_lt, Int.not_le] at hc
        all_goals refine tc_exit ?_; ((refine hK2 ?_; try (clear hK2; clear K2)))
        all_goals refine tc_seq fun K10 hK10 => ?_; refine tc_region ?_; refine tl_q (y_assign rfl) rfl ?_; refine tl_nil ?_; ((refine hK10 ?_; try (clear hK10; clear K10)))
        all_goals refine tc_ret ?_; (repeat (first | refine tk_then_ret ?_))
        all_goals (refine tk_ret rfl rfl (.cons (.tmp rfl) .nil) ?_)
        all_goals (
         first | exact fun w' hw' => ⟨by rw [idxG_hit (k := k) (d := false) (by omega) (decide_eq_true hc) hj]; rfl, hw'.fr (by simp)⟩ | exact fun w' hw' => ⟨by rw [idxG_miss (d := false) (fun j hjj => hj j (by omega))]; rfl, hw'.fr (by simp)⟩)))
theorem containsSp_c (h : Int) (x : Bool) (xs : List Bool) (hx : (xs.length : Int) ≤ 9000000000000000000) (sl : Value) (w : World) (hr : RdS 2 (spE h) w sl xs) : CnV Tryz.prog 92 #[sl, .agg #[vi h, .bool x]] w (.bool (xs.any fun y => decide (x = y))) := by
  refine cnv (vs := [_, _]) Tryz.func92 rfl rfl ?_
  all_goals refine tc_seq fun K1 hK1 => ?_; refine tc_region ?_; refine tl_e (e_box rfl rfl rfl) rfl (fun b3 _ => ?_); refine tl_q (y_assign rfl) rfl ?_; refine tl_nil ?_; ((refine hK1 ?_; try (clear hK1; clear K1)))
  all_goals refine tc_seq fun K2 hK2 => ?_; refine tc_region ?_; refine tl_q (y_move rfl) rfl ?_; refine tl_q (y_loadW rfl (by repeat constructor) (by rfl)) rfl ?_; refine tl_e (e_callV rfl (.cons rfl (.cons rfl .nil)) (fun w' hw' => indexSp_c h x xs hx _ w' (hr.fr (hw'.fr (by simp))))) rfl (fun _ _ => ?_); refine tl_q (y_geq rfl rfl) rfl ?_; refine tl_q (y_assign rfl) rfl ?_; refine tl_nil ?_; ((refine hK2 ?_; try (clear hK2; clear K2)))
  all_goals refine tc_ret ?_; (repeat (first | refine tk_then_ret ?_))
  all_goals (refine tk_ret rfl rfl (.cons (.tmp rfl) .nil) ?_)
  all_goals (
   exact fun w' hw' => ⟨by rw [← idxG_any]; rfl, hw'.fr (by simp)⟩)
def ddB (l : List Bool) : List Bool := l.foldl (fun acc x => if (acc.any fun y => decide (x = y)) = true then acc else acc ++ [x]) []
theorem ddB_snoc (l : List Bool) (x : Bool) : ddB (l ++ [x]) = if ((ddB l).any fun y => decide (x = y)) = true then ddB l else ddB l ++ [x] := by simp [ddB]
/-- Steps from which one can go on. -/
def onL (s : Smp) (b : Int) (c : List Int) (h : Nat) (x : Bool) (n : Nat) : List (Bool × Int) := ((stepL s b h (stB s c h) x).take n).filter fun y => (rstF s b c (s.L - h).toNat y.1).isSome
def cndN (s : Smp) (b : Int) (c : List Int) (h : Nat) (now : List Bool) (i j : Nat) : List (Bool × Int) :=
  ((now.take i).flatMap fun x => onL s b c h x (stepL s b h (stB s c h) x).length) ++ onL s b c h (now.getD i false) j
abbrev cnd (s : Smp) (b : Int) (c : List Int) (h : Nat) (now : List Bool) : List (Bool × Int) := (now.flatMap fun x => onL s b c h x (stepL s b h (stB s c h) x).length)
def latN (s : Smp) (b : Int) (c : List Int) (h : Nat) (now : List Bool) (i j : Nat) : List Bool := ddB ((cndN s b c h now i j).map Prod.fst)
def anyN (s : Smp) (b : Int) (c : List Int) (h : Nat) (now : List Bool) (i j : Nat) : Bool := (cndN s b c h now i j).any fun y => decide (y.2 = 1)
def nowN (s : Smp) (b : Int) (c : List Int) : Nat → List Bool
  | 0 => [false]
  | h + 1 => ddB ((cnd s b c h (nowN s b c h)).map Prod.fst)
def opnH (s : Smp) (b : Int) (c : List Int) (h : Nat) : Bool := (cnd s b c h (nowN s b c h)).any fun y => decide (y.2 = 1)
def outN (s : Smp) (b : Int) (c : List Int) (h : Nat) (v : Bool) : List Bool := (List.range 10).map fun i => if i < h then opnH s b c i else if i = h then v else false
abbrev opnL (s : Smp) (b : Int) (c : List Int) : List Bool := outN s b c (s.L + 1).toNat false
theorem outN_len (s : Smp) (b : Int) (c : List Int) (h : Nat) (v : Bool) : (outN s b c h v).length = 10 := by simp [outN]
theorem outN_get {s : Smp} {b : Int} {c : List Int} {h : Nat} {v : Bool} {i : Nat} (hi : i < 10) : (outN s b c h v).getD i false = if i < h then opnH s b c i else if i = h then v else false := by
  rw [List.getD_eq_getElem?_getD, outN, List.getElem?_map, List.getElem?_range hi]; rfl
theorem outN_set {s : Smp} {b : Int} {c : List Int} {h : Nat} {v v' : Bool} (hh : h < 10) : (outN s b c h v).set h v' = outN s b c h v' := by
  apply List.ext_getElem?
  intro i
  unfold outN
  rw [List.getElem?_set, List.getElem?_map, List.getElem?_map]
  by_cases hi : i < 10
  · rw [List.getElem?_range hi]
    by_cases he : h = i
    · subst he; simp [hi]
    · rw [if_neg he]; simp only [Option.map_some]
      have : ¬ i = h := fun g => he g.symm
      simp [this]
  · rw [List.getElem?_eq_none (by simp; omega)]
    split
    · rename_i he; omega
    · rfl
theorem outN_up {s : Smp} {b : Int} {c : List Int} {h : Nat} : outN s b c h (opnH s b c h) = outN s b c (h + 1) false := by
  unfold outN
  refine List.map_congr_left fun i _ => ?_
  by_cases h1 : i < h
  · rw [if_pos h1, if_pos (by omega)]
  · rw [if_neg h1]
    by_cases h2 : i = h
    · subst h2; rw [if_pos rfl, if_pos (by omega)]
    · rw [if_neg h2, if_neg (by omega)]; split <;> rfl
theorem onL_no {s : Smp} {b : Int} {c : List Int} {h : Nat} {x : Bool} {j : Nat} (hj : j < (stepL s b h (stB s c h) x).length) (hn : (rstF s b c (s.L - h).toNat ((stepL s b h (stB s c h) x).getD j (false, 0)).1).isSome = false) : onL s b c h x (j + 1) = onL s b c h x j := by
  unfold onL
  rw [takeG_succ (d := (false, 0)) hj, List.filter_append, List.filter_cons, if_neg (by rw [hn]; simp)]; simp
theorem onL_yes {s : Smp} {b : Int} {c : List Int} {h : Nat} {x : Bool} {j : Nat} (hj : j < (stepL s b h (stB s c h) x).length) (hn : (rstF s b c (s.L - h).toNat ((stepL s b h (stB s c h) x).getD j (false, 0)).1).isSome = true) : onL s b c h x (j + 1) = onL s b c h x j ++ [(stepL s b h (stB s c h) x).getD j (false, 0)] := by
  unfold onL
  rw [takeG_succ (d := (false, 0)) hj, List.filter_append, List.filter_cons, if_pos hn]; simp
theorem cndN_no {s : Smp} {b : Int} {c : List Int} {h : Nat} {now : List Bool} {i j : Nat} (hj : j < (stepL s b h (stB s c h) (now.getD i false)).length) (hn : (rstF s b c (s.L - h).toNat ((stepL s b h (stB s c h) (now.getD i false)).getD j (false, 0)).1).isSome = false) : cndN s b c h now i (j + 1) = cndN s b c h now i j := by
  unfold cndN; rw [onL_no hj hn]
theorem cndN_yes {s : Smp} {b : Int} {c : List Int} {h : Nat} {now : List Bool} {i j : Nat} (hj : j < (stepL s b h (stB s c h) (now.getD i false)).length) (hn : (rstF s b c (s.L - h).toNat ((stepL s b h (stB s c h) (now.getD i false)).getD j (false, 0)).1).isSome = true) : cndN s b c h now i (j + 1) = cndN s b c h now i j ++ [(stepL s b h (stB s c h) (now.getD i false)).getD j (false, 0)] := by
  unfold cndN; rw [onL_yes hj hn, List.append_assoc]
theorem cndN_up {s : Smp} {b : Int} {c : List Int} {h : Nat} {now : List Bool} {i : Nat} (hi : i < now.length) : cndN s b c h now i (stepL s b h (stB s c h) (now.getD i false)).length = cndN s b c h now (i + 1) 0 := by
  unfold cndN
  rw [takeG_succ (d := false) hi, List.flatMap_append]
  simp [onL]
theorem cndN_0 {s : Smp} {b : Int} {c : List Int} {h : Nat} {now : List Bool} : cndN s b c h now 0 0 = [] := by simp [cndN, onL]
theorem cndN_end {s : Smp} {b : Int} {c : List Int} {h : Nat} {now : List Bool} : cndN s b c h now now.length 0 = cnd s b c h now := by
  have : onL s b c h (now.getD now.length false) 0 = [] := by simp [onL]
  unfold cndN; rw [List.take_length, this, List.append_nil]
theorem ddB_len (l : List Bool) : (ddB l).length ≤ 2 := by
  have h0 : ∀ (l acc : List Bool), acc.Nodup → (l.foldl (fun acc x => if (acc.any fun y => decide (x = y)) = true then acc else acc ++ [x]) acc).Nodup := fun l => by
    induction l with
    | nil => intro acc h; exact h
    | cons x l ih =>
      intro acc h
      rw [List.foldl_cons]
      refine ih _ ?_
      split
      · exact h
      · rename_i hx
        rw [List.nodup_append]
        refine ⟨h, by simp, fun a ha y hy e => hx ?_⟩
        obtain rfl := List.mem_singleton.1 hy
        exact List.any_eq_true.2 ⟨a, ha, decide_eq_true e.symm⟩
  have h : ∀ l : List Bool, (ddB l).Nodup := fun l => h0 l [] List.nodup_nil
  have h2 := h l
  generalize ddB l = d at h2
  match d, h2 with
  | [], _ => simp
  | [_], _ => simp
  | [_, _], _ => simp
  | x :: y :: z :: t, h2 =>
    simp only [List.nodup_cons, List.mem_cons, not_or] at h2
    cases x <;> cases y <;> cases z <;> simp_all
theorem nowN_len (s : Smp) (b : Int) (c : List Int) (h : Nat) : (nowN s b c h).length ≤ 2 := by
  cases h with
  | zero => simp [nowN]
  | succ h => exact ddB_len _
theorem cellAt_bs {l : List Bool} {e : TypeId} {f : Nat × Nat} {o : Nat} (h : o < l.length) : cellAt (.cells (bsV l) e f) o = some (.bool (l.getD o false)) := by
  unfold bsV
  simp only [cellAt, lget_eq]
  rw [List.getElem?_map, List.getD_eq_getElem?_getD, List.getElem?_eq_getElem h]; rfl
theorem RdS.adr {α : Type} {k : Nat} {enc : α → List Value} {w : World} {ad : Option Addr} {n cap : Nat} {xs : List α} (h : RdS k enc w (.slice ad n cap) xs) (hp : 0 < xs.length) : ∃ b o, ad = some ⟨b, o, none⟩ := by
  obtain ⟨_, ad2, cp2, e1, e2⟩ := h
  cases e1
  obtain ⟨b, o, e, _⟩ := e2 (by omega)
  exact ⟨b, o, e⟩
theorem out_at {s : Smp} {b : Int} {c : List Int} {h : Nat} {v : Bool} (hh : h < 10) : (outN s b c h v).getD (0 + Int.toNat (h : Int) * 1) false = v := by
  rw [show 0 + Int.toNat (h : Int) * 1 = h from by omega, outN_get hh, if_neg (by omega), if_pos rfl]
theorem set_t {s : Smp} {b : Int} {c : List Int} {h : Nat} {now : List Bool} {i j : Nat} {y : Bool × Int} (hh : h < 10) (hcn : cndN s b c h now i (j + 1) = cndN s b c h now i j ++ [y]) (hv : (outN s b c h (anyN s b c h now i j)).getD (0 + Int.toNat (h : Int) * 1) false = true) :
    (outN s b c h (anyN s b c h now i j)).set (0 + Int.toNat (h : Int) * 1) true = outN s b c h (anyN s b c h now i (j + 1)) := by
  rw [out_at hh] at hv
  rw [show 0 + Int.toNat (h : Int) * 1 = h from by omega, outN_set hh]
  congr 1
  unfold anyN at hv ⊢
  rw [hcn, List.any_append, hv]; rfl
theorem set_f {s : Smp} {b : Int} {c : List Int} {h : Nat} {now : List Bool} {i j : Nat} {y : Bool × Int} (hh : h < 10) (hcn : cndN s b c h now i (j + 1) = cndN s b c h now i j ++ [y]) (hv : (outN s b c h (anyN s b c h now i j)).getD (0 + Int.toNat (h : Int) * 1) false = false) :
    (outN s b c h (anyN s b c h now i j)).set (0 + Int.toNat (h : Int) * 1) (decide (y.2 = 1)) = outN s b c h (anyN s b c h now i (j + 1)) := by
  rw [out_at hh] at hv
  rw [show 0 + Int.toNat (h : Int) * 1 = h from by omega, outN_set hh]
  congr 1
  unfold anyN at hv ⊢
  rw [hcn, List.any_append, hv]; simp
theorem lat_in {s : Smp} {b : Int} {c : List Int} {h : Nat} {now : List Bool} {i j : Nat} {y : Bool × Int} (hcn : cndN s b c h now i (j + 1) = cndN s b c h now i j ++ [y]) (hv : ((latN s b c h now i j).any fun z => decide (y.1 = z)) = true) : latN s b c h now i (j + 1) = latN s b c h now i j := by
  unfold latN at hv ⊢
  rw [hcn, List.map_append]
  show ddB (_ ++ [y.1]) = _
  rw [ddB_snoc, if_pos hv]
theorem lat_new {s : Smp} {b : Int} {c : List Int} {h : Nat} {now : List Bool} {i j : Nat} {y : Bool × Int} (hcn : cndN s b c h now i (j + 1) = cndN s b c h now i j ++ [y]) (hv : ((latN s b c h now i j).any fun z => decide (y.1 = z)) = false) : latN s b c h now i (j + 1) = latN s b c h now i j ++ [y.1] := by
  unfold latN at hv ⊢
  rw [hcn, List.map_append]
  show ddB (_ ++ [y.1]) = _
  rw [ddB_snoc, if_neg (by rw [hv]; exact Bool.false_ne_true)]
theorem lat_len (s : Smp) (b : Int) (c : List Int) (h : Nat) (now : List Bool) (i j : Nat) : (latN s b c h now i j).length ≤ 2 := ddB_len _
set_option maxHeartbeats 4000000 in
theorem open_c (s : Smp) (hf : Few s) (hv : VSm s) (b : Int) (c : List Int) (hco : ChOk s c) (tv pv gv : Value) (bw r : Nat) (es : Array MapEntry) (ck : Nat) (w : World) (hT : Wd w s tv pv gv b c bw r es ck) : CnV Tryz.prog 62 #[ptr bw] w (.agg (bsV (opnL s b c))) := by
  have hl0 := hv.l0
  have hl9 := hv.l9
  have hcl := hco.len
  have hTf : ∀ w', Fr [] w w' → Wd w' s tv pv gv b c bw r es ck := fun w' f => hT.fr f
  refine cnv (vs := [_]) Tryz.func62 rfl rfl ?_
  all_goals refine tc_seq fun K1 hK1 => ?_; refine tc_region ?_; refine tl_e (e_allocN rfl) rfl (fun b2 _ => ?_); refine tl_nil ?_; ((refine hK1 ?_; try (clear hK1; clear K1)))
  all_goals refine tc_seq fun K2 hK2 => ?_; refine tc_region ?_; refine tl_q (y_move rfl) rfl ?_; refine tl_e (e_callV rfl (.cons rfl .nil) (fun w' _ => begin_c bw w')) rfl (fun _ _ => ?_); refine tl_e (e_bsliceG rfl (.agg rfl rfl .nil) rfl rfl) rfl (fun b14 _ => ?_); refine tl_q (y_assign rfl) rfl ?_; refine tl_nil ?_; ((refine hK2 ?_; try (clear hK2; clear K2)))
  all_goals refine tc_seq fun K3 hK3 => ?_; refine tc_seq fun K4 hK4 => ?_; refine tc_region ?_; refine tl_q (y_move rfl) rfl ?_; refine tl_q (y_nil rfl) rfl ?_; refine tl_q (y_field rfl) rfl ?_; refine tl_q (y_field rfl) rfl ?_; refine tl_q (y_load1o (v := vi s.L) rfl (fun w' hw' => wk_at (n := 2) (hTf w' (hw'.fr (w0 := w) (S := []) MI.m)).wk.hw rfl)) rfl ?_; refine tl_q (y_add rfl rfl (by omega)) rfl ?_; refine tl_q (y_move rfl) rfl ?_; refine tl_nil ?_; ((refine hK4 ?_; try (clear hK4; clear K4)))
  all_goals refine tc_block ?_
  all_goals (
   refine tc_loop (fun p : Nat × OwnB => (p.1 : Int) ≤ s.L + 1 ∧ okE 2 (nowN s b c p.1) p.2) (fun p => [(0, ptr bw), (2, ptr b2), (3, ouV (nowN s b c p.1).length p.2), (20, vi (s.L + 1)), (21, vi p.1)]) (fun _ => [(w, [])]) (fun p => (b2, .cells (bsV (outN s b c p.1 false)) 146 (0, 0)) :: slE 152 (spE p.1) (nowN s b c p.1) p.2) (fun p => (s.L + 1).toNat - p.1) ?_ ?_
   · exact tk_start (0, some (b14, 1, [])) ⟨by dsimp only; omega, Nat.le_refl _, rfl⟩ (.cons rfl (.cons rfl (.cons rfl (.cons rfl (.cons rfl .nil))))) (fun _ h => by rw [slE_some]; exact (h.subl SB.s SB.s).sw)
   · rintro ⟨h, oo⟩ ⟨hh, hok⟩
     dsimp only at hh hok ⊢
     have hnl := nowN_len s b c h
     all_goals refine tc_seq fun K5 hK5 => ?_; refine tc_region ?_; refine tl_q (y_lss rfl rfl) rfl ?_; refine tl_nil ?_; ((refine hK5 ?_; try (clear hK5; clear K5)))
     all_goals refine tc_seq fun K6 hK6 => ?_
     all_goals (
      refine tc_cond rfl (fun hc => ?_) (fun hc => ?_)
      · try simp only [qn1, qn2, qn3, qn4, qn5, qn6, qn7, qn8] at hc
        all_goals refine tc_skip ?_; ((refine hK6 ?_; try (clear hK6; clear K6)))
        all_goals refine tc_seq fun K7 hK7 => ?_; refine tc_block ?_; refine tc_seq fun K8 hK8 => ?_; refine tc_region ?_; refine tl_q (y_move rfl) rfl ?_; refine tl_q (y_assign rfl) rfl ?_; refine tl_nil ?_; ((refine hK8 ?_; try (clear hK8; clear K8)))
        all_goals refine tc_seq fun K9 hK9 => ?_; refine tc_region ?_; refine tl_q (y_assign rfl) rfl ?_; refine tl_nil ?_; ((refine hK9 ?_; try (clear hK9; clear K9)))
        all_goals refine tc_seq fun K10 hK10 => ?_; refine tc_seq fun K11 hK11 => ?_; refine tc_region ?_; refine tl_q (y_move rfl) rfl ?_; refine tl_q (y_len rfl) rfl ?_; refine tl_q (y_move rfl) rfl ?_; refine tl_nil ?_; ((refine hK11 ?_; try (clear hK11; clear K11)))
        all_goals refine tc_block ?_
        all_goals (
         refine tc_loop (fun p : Nat × OwnB => p.1 ≤ (nowN s b c h).length ∧ okE 2 (latN s b c h (nowN s b c h) p.1 0) p.2) (fun p => [(0, ptr bw), (2, ptr b2), (4, vi h), (5, ouV (latN s b c h (nowN s b c h) p.1 0).length p.2), (20, vi (s.L + 1)), (21, vi h), (24, ouV (nowN s b c h).length oo), (25, vi (nowN s b c h).length), (26, vi p.1)]) (fun _ => [(w, [])]) (fun p => (b2, .cells (bsV (outN s b c h (anyN s b c h (nowN s b c h) p.1 0))) 146 (0, 0)) :: (slE 152 (spE ((h : Int) + 1)) (latN s b c h (nowN s b c h) p.1 0) p.2 ++ slE 152 (spE h) (nowN s b c h) oo)) (fun p => (nowN s b c h).length - p.1) ?_ ?_
         · have e0 : latN s b c h (nowN s b c h) 0 0 = [] := by unfold latN; rw [cndN_0]; rfl
           have e1 : anyN s b c h (nowN s b c h) 0 0 = false := by unfold anyN; rw [cndN_0]; rfl
           exact tk_start (0, none) ⟨Nat.zero_le _, by dsimp only; rw [e0]; rfl⟩ (.cons rfl (.cons rfl (.cons rfl (.cons (by dsimp only; rw [e0]; rfl) (.cons rfl (.cons rfl (.cons rfl (.cons rfl (.cons rfl .nil))))))))) (fun _ h => by dsimp only; rw [slE_none, e1, List.nil_append]; exact h.subl SB.s SB.s)
         · rintro ⟨i, oo1⟩ ⟨hi, hok1⟩
           dsimp only at hi hok1 ⊢
           all_goals refine tc_seq fun K12 hK12 => ?_; refine tc_region ?_; refine tl_q (y_lss rfl rfl) rfl ?_; refine tl_nil ?_; ((refine hK12 ?_; try (clear hK12; clear K12)))
           all_goals refine tc_seq fun K13 hK13 => ?_
           all_goals (
            refine tc_cond rfl (fun hc => ?_) (fun hc => ?_)
            · try simp only [qn1, qn2, qn3, qn4, qn5, qn6, qn7, qn8] at hc
              all_goals refine tc_skip ?_; ((refine hK13 ?_; try (clear hK13; clear K13)))
              all_goals refine tc_seq fun K14 hK14 => ?_; refine tc_block ?_; refine tc_seq fun K15 hK15 => ?_; (obtain ⟨bn, had⟩ := okE_pos hok (by omega))
              all_goals refine tc_region ?_; refine tl_q (y_index rfl rfl (by omega) had) rfl ?_; ((refine tl_q (y_loadNo (n := 2) (vs := [vi h, .bool ((nowN s b c h).getD i false)]) rfl (fun w' hw' => by rw [show 0 + Int.toNat (i : Int) * 2 = 0 + i * 2 from by omega]; exact (RdS.ofO (spE_len h) hok hw' (by repeat constructor)).at had (spE_len h) false (by omega))) rfl ?_))
              all_goals refine tl_e (e_allocN rfl) rfl (fun b7 _ => ?_); refine tl_e (e_storeW rfl rfl (by repeat constructor) (by rfl) (by rfl) (by simp [Value.oneCell'])) rfl (fun _ _ => ?_); refine tl_nil ?_; ((refine hK15 ?_; try (clear hK15; clear K15)))
              all_goals refine tc_seq fun K16 hK16 => ?_; (obtain ⟨S9, hS9⟩ : ∃ S9, S9 = b7 :: b2 :: List.map Prod.fst (slE 152 (spE ((h : Int) + 1)) (latN s b c h (nowN s b c h) i 0) oo1 ++ slE 152 (spE h) (nowN s b c h) oo) := ⟨_, rfl⟩)
              all_goals refine tc_region ?_; refine tl_q (y_move rfl) rfl ?_; refine tl_q (y_loadW rfl (by repeat constructor) (by rfl)) rfl ?_; (refine tl_e (e_callX rfl (.cons rfl (.cons rfl .nil)) (fun w' hw' => (steps_c s hf hv b c hco h (by omega) ((nowN s b c h).getD i false) tv pv gv bw r w' (hTf w' (hw'.fr (w0 := w) (S := []) MI.m)).wk).imp (p' := fun y w2 => RdS 3 (stE h) w2 (slV (stepL s b h (stB s c h) ((nowN s b c h).getD i false)).length y) (stepL s b h (stB s c h) ((nowN s b c h).getD i false)) ∧ sepS (slV (stepL s b h (stB s c h) ((nowN s b c h).getD i false)).length y) S9) id (fun _ => rfl) (fun _ h => h) (fun _ _ _ hp => ⟨hp.1, by rw [hS9]; exact hp.2.sep hw'⟩))) rfl (fun y hy => ?_))
              all_goals refine tl_q (y_len rfl) rfl ?_; refine tl_q (y_move rfl) rfl ?_; refine tl_nil ?_; ((refine hK16 ?_; try (clear hK16; clear K16)))
              all_goals refine tc_block ?_
              all_goals (
               obtain ⟨hyr, hyw⟩ := hy
               refine tc_loop (fun p : Nat × OwnB => p.1 ≤ (stepL s b h (stB s c h) ((nowN s b c h).getD i false)).length ∧ okE 2 (latN s b c h (nowN s b c h) i p.1) p.2) (fun p => [(0, ptr bw), (2, ptr b2), (4, vi h), (5, ouV (latN s b c h (nowN s b c h) i p.1).length p.2), (20, vi (s.L + 1)), (21, vi h), (24, ouV (nowN s b c h).length oo), (25, vi (nowN s b c h).length), (26, vi i), (32, slV (stepL s b h (stB s c h) ((nowN s b c h).getD i false)).length y.1), (33, vi (stepL s b h (stB s c h) ((nowN s b c h).getD i false)).length), (34, vi p.1)]) (fun _ => [(y.2, S9), (w, [])]) (fun p => (b2, .cells (bsV (outN s b c h (anyN s b c h (nowN s b c h) i p.1))) 146 (0, 0)) :: (slE 152 (spE ((h : Int) + 1)) (latN s b c h (nowN s b c h) i p.1) p.2 ++ slE 152 (spE h) (nowN s b c h) oo)) (fun p => (stepL s b h (stB s c h) ((nowN s b c h).getD i false)).length - p.1) ?_ ?_
               · subst hS9
                 exact tk_start (0, oo1) ⟨Nat.zero_le _, hok1⟩ (.cons rfl (.cons rfl (.cons rfl (.cons rfl (.cons rfl (.cons rfl (.cons rfl (.cons rfl (.cons rfl (.cons rfl (.cons rfl (.cons rfl .nil)))))))))))) (fun _ h => h.subl SB.s SB.s)
               · rintro ⟨j, oo2⟩ ⟨hj, hok2⟩
                 dsimp only at hj hok2 ⊢
                 have hsl4 : (stepL s b h (stB s c h) ((nowN s b c h).getD i false)).length ≤ 4 := stepN_len s b h (stB s c h) ((nowN s b c h).getD i false) 4
                 have hll := lat_len s b c h (nowN s b c h) i j
                 all_goals refine tc_seq fun K17 hK17 => ?_; refine tc_region ?_; refine tl_q (y_lss rfl rfl) rfl ?_; refine tl_nil ?_; ((refine hK17 ?_; try (clear hK17; clear K17)))
                 all_goals refine tc_seq fun K18 hK18 => ?_
                 all_goals (
                  refine tc_cond rfl (fun hc => ?_) (fun hc => ?_)
                  · try simp only [qn1, qn2, qn3, qn4, qn5, qn6, qn7, qn8] at hc
                    all_goals refine tc_skip ?_; ((refine hK18 ?_; try (clear hK18; clear K18)))
                    all_goals refine tc_seq fun K19 hK19 => ?_; refine tc_block ?_; refine tc_seq fun K20 hK20 => ?_; (obtain ⟨bY, oY, hady⟩ := hyr.1.adr (by omega))
                    all_goals refine tc_region ?_; refine tl_q (y_index rfl rfl (by omega) hady) rfl ?_; ((refine tl_q (y_loadNo (n := 3) (vs := [vi ((h : Int) + 1), .bool ((stepL s b h (stB s c h) ((nowN s b c h).getD i false)).getD j (false, 0)).1, vi ((stepL s b h (stB s c h) ((nowN s b c h).getD i false)).getD j (false, 0)).2]) rfl (fun w' hw' => by rw [show Int.toNat (j : Int) * 3 = j * 3 from by omega]; exact (hyr.1.frS (hw'.fr (w0 := y.2) (S := S9) MI.m) hyr.2).at hady (stE_len h) (false, 0) (by omega))) rfl ?_))
                    all_goals refine tl_e (e_allocN rfl) rfl (fun b9 _ => ?_); refine tl_e (e_storeW rfl rfl (by repeat constructor) (by rfl) (by rfl) (by simp [Value.oneCell'])) rfl (fun _ _ => ?_); refine tl_nil ?_; ((refine hK20 ?_; try (clear hK20; clear K20)))
                    all_goals refine tc_seq fun K21 hK21 => ?_; refine tc_seq fun K22 hK22 => ?_; refine tc_draw (by kernel_rfl) ?_; refine tx_p 0 rfl (by kernel_rfl) (y_move rfl) rfl (fun _ _ _ h => h) (fun _ h => h) ?_; refine tx_p 1 rfl (by kernel_rfl) (y_nil rfl) rfl (fun _ _ _ h => h) (fun _ h => h) ?_; refine tx_p 2 rfl (by kernel_rfl) (y_field rfl) rfl (fun _ _ _ h => h) (fun _ h => h) ?_; refine tx_q 3 rfl (by kernel_rfl) (y_load1o (v := .map (some r)) rfl (fun w' hw' => wk_map (hTf w' (hw'.fr (w0 := w) (S := []) MI.m)).wk.hw hcl)) rfl (fun _ _ _ h => h) (fun _ h => h) ?_; refine tx_p 4 rfl (by kernel_rfl) (y_field rfl) rfl (fun _ _ _ h => h) (fun _ h => h) ?_; ((refine tx_q 5 rfl (by kernel_rfl) (y_loadN rfl (by repeat constructor) (by (repeat (first | exact .nil | apply CA.cons rfl)); done)) rfl (fun _ _ _ h => h) (fun _ h => h) ?_))
                    all_goals refine tx_q 6 rfl (by kernel_rfl) (y_lookupBo rfl rfl (fun w' hw' => (hTf w' (hw'.fr (w0 := w) (S := []) MI.m)).hm) hT.kb ((hT.fb _ _).trans (restM_at (by omega) _))) rfl (fun _ _ _ h => h) (fun _ h => h) ?_; refine tx_p 7 rfl (by kernel_rfl) (y_move rfl) rfl (fun _ _ _ h => h) (fun _ h => h) ?_; refine tx_p 8 rfl (by kernel_rfl) (y_extract rfl rfl) rfl (fun _ _ _ h => h) (fun _ h => h) ?_; refine tx_p 9 rfl (by kernel_rfl) (y_extract rfl rfl) rfl (fun _ _ _ h => h) (fun _ h => h) ?_; refine tx_p 10 rfl (by kernel_rfl) (y_assign rfl) rfl (fun _ _ _ h => h) (fun _ h => h) ?_; refine tx_p 11 rfl (by kernel_rfl) (y_assign rfl) rfl (fun _ _ _ h => h) (fun _ h => h) ?_; refine tx_done (by kernel_rfl) ?_; ((refine hK22 ?_; try (clear hK22; clear K22)))
                    all_goals refine tc_seq fun K23 hK23 => ?_; refine tc_region ?_; refine tl_q (y_move rfl) rfl ?_; refine tl_q (y_not rfl) rfl ?_; refine tl_nil ?_; ((refine hK23 ?_; try (clear hK23; clear K23)))
                    all_goals (
                     refine tc_cond rfl (fun hc => ?_) (fun hc => ?_)
                     · try simp only [qn1, qn2, qn3, qn4, qn5, qn6, qn7, qn8] at hc
                       all_goals refine tc_exit ?_; ((refine hK19 ?_; try (clear hK19; clear K19)))
                       all_goals refine tc_region ?_; refine tl_q (y_add rfl rfl (by omega)) rfl ?_; refine tl_q (y_move rfl) rfl ?_; refine tl_nil ?_
                       all_goals (
                        first
                        | (have hcn := cndN_no (now := nowN s b c h) (i := i) (j := j) (by omega) hc
                           exact tk_round (j + 1, oo2) ⟨by dsimp only; omega, by dsimp only; unfold latN at hok2 ⊢; rw [hcn]; exact hok2⟩ (by dsimp only; omega) (.cons rfl (.cons rfl (.cons rfl (.cons (by dsimp only; unfold latN; rw [hcn]; rfl) (.cons rfl (.cons rfl (.cons rfl (.cons rfl (.cons rfl (.cons rfl (.cons rfl (.cons rfl .nil)))))))))))) (fun _ h => by dsimp only; unfold latN anyN at h ⊢; rw [hcn]; exact h.subl SB.s SB.s))
                        | (have hcn := cndN_yes (now := nowN s b c h) (i := i) (j := j) hjl hon
                           first
                           | have hset := set_t (by omega) hcn hcv
                           | have hset := set_f (by omega) hcn hcv
                           first
                           | (have hlat := lat_in hcn hc
                              exact tk_round (j + 1, oo2) ⟨by dsimp only; omega, by dsimp only; rw [hlat]; exact hok2⟩ (by dsimp only; omega) (.cons rfl (.cons rfl (.cons rfl (.cons (by dsimp only; rw [hlat]; rfl) (.cons rfl (.cons rfl (.cons rfl (.cons rfl (.cons rfl (.cons rfl (.cons rfl (.cons rfl .nil)))))))))))) (fun _ h => by dsimp only; rw [hlat, ← hset]; exact h.subl SB.s SB.s))
                           | (have hlat := lat_new hcn hc
                              exact tk_round (j + 1, oo') ⟨by dsimp only; omega, by dsimp only; rw [hlat]; exact hok'⟩ (by dsimp only; omega) (.cons rfl (.cons rfl (.cons rfl (.cons (by dsimp only; rw [hlat]; rfl) (.cons rfl (.cons rfl (.cons rfl (.cons rfl (.cons rfl (.cons rfl (.cons rfl (.cons rfl .nil)))))))))))) (fun _ h => by dsimp only; rw [hlat, ← hset]; exact h.subl SB.s SB.s))))
                     · try simp only [qn1, qn2, qn3, qn4, qn5, qn6, qn7, qn8] at hc
                       all_goals refine tc_skip ?_; ((refine hK21 ?_; try (clear hK21; clear K21)))
                       all_goals refine tc_seq fun K24 hK24 => ?_; ((have hon := hc; have hjl : j < (stepL s b h (stB s c h) ((nowN s b c h).getD i false)).length := by omega))
                       all_goals refine tc_region ?_; refine tl_q (y_move rfl) rfl ?_; refine tl_q (y_move rfl) rfl ?_; refine tl_q (y_indexA rfl rfl (by omega)) rfl ?_; ((refine tl_q (y_load1 (v := .bool ((outN s b c h (anyN s b c h (nowN s b c h) i j)).getD (0 + Int.toNat (h : Int) * 1) false)) rfl (by repeat constructor) (cellAt_bs (by rw [outN_len]; omega))) rfl ?_))
                       all_goals refine tl_q (y_move rfl) rfl ?_; ((refine tl_gs rfl rfl (fun hc => ?_) (fun hc => ?_) <;> (try simp only [qn1, qn2, qn3, qn4, qn5, qn6, qn7, qn8] at hc) <;> (first | refine tl_sk rfl rfl rfl rfl ?_ | refine tl_qg rfl rfl (y_field rfl) rfl ?_)))
                       all_goals (first | refine tl_sk rfl rfl rfl rfl ?_ | refine tl_qg rfl rfl (y_load1 rfl (by repeat constructor) (by rfl)) rfl ?_); (first | refine tl_sk rfl rfl rfl rfl ?_ | refine tl_qg rfl rfl (y_eql rfl rfl) rfl ?_); (first | refine tl_q (y_pick_t rfl rfl) rfl ?_ | refine tl_q (y_pick_f rfl rfl) rfl ?_); refine tl_q (y_indexA rfl rfl (by omega)) rfl ?_; ((refine tl_e (e_storeB (l := outN s b c h (anyN s b c h (nowN s b c h) i j)) rfl rfl (by rw [outN_len]; omega) (by repeat constructor)) rfl (fun _ _ => ?_)))
                       all_goals refine tl_nil ?_; have hcv := hc
                       all_goals ((refine hK24 ?_; try (clear hK24; clear K24)))
                       all_goals refine tc_seq fun K25 hK25 => ?_; refine tc_region ?_; refine tl_q (y_move rfl) rfl ?_; refine tl_q (y_field rfl) rfl ?_; ((refine tl_q (y_loadN rfl (by repeat constructor) (by (repeat (first | exact .nil | apply CA.cons rfl)); done)) rfl ?_))
                       all_goals refine tl_e (e_callV rfl (.cons rfl (.cons rfl .nil)) (fun w' hw' => containsSp_c ((h : Int) + 1) ((stepL s b h (stB s c h) ((nowN s b c h).getD i false)).getD j (false, 0)).1 (latN s b c h (nowN s b c h) i j) (by omega) _ w' (RdS.ofO (spE_len _) hok2 hw' (by repeat constructor)))) rfl (fun _ _ => ?_); refine tl_q (y_not rfl) rfl ?_; refine tl_nil ?_; ((refine hK25 ?_; try (clear hK25; clear K25)))
                       all_goals (
                        refine tc_cond rfl (fun hc => ?_) (fun hc => ?_)
                        · try simp only [qn1, qn2, qn3, qn4, qn5, qn6, qn7, qn8] at hc
                          all_goals refine tc_region ?_; refine tl_q (y_move rfl) rfl ?_; refine tl_q (y_field rfl) rfl ?_; ((refine tl_q (y_loadN rfl (by repeat constructor) (by (repeat (first | exact .nil | apply CA.cons rfl)); done)) rfl ?_))
                          all_goals refine tl_e (e_bsliceG rfl (.agg rfl rfl .nil) rfl rfl) rfl (fun _ _ => ?_); (refine tl_e (e_appendE (enc := spE ((h : Int) + 1)) (xs := latN s b c h (nowN s b c h) i j) (ys := [((stepL s b h (stB s c h) ((nowN s b c h).getD i false)).getD j (false, 0)).1]) (spE_len _) (spE_one _) rfl rfl rfl hok2 (fun _ => by repeat constructor) (fun w' hw' => RdS.own0 (spE_len _) hw' (by repeat constructor)) (by simp only [List.length_cons, List.length_nil]; omega) rfl) rfl (fun oo' hok' => ?_))
                          all_goals refine tl_q (y_assign rfl) rfl ?_; refine tl_nil ?_; ((refine hK19 ?_; try (clear hK19; clear K19)))
                          all_goals refine tc_region ?_; refine tl_q (y_add rfl rfl (by omega)) rfl ?_; refine tl_q (y_move rfl) rfl ?_; refine tl_nil ?_
                          all_goals (
                           first
                           | (have hcn := cndN_no (now := nowN s b c h) (i := i) (j := j) (by omega) hc
                              exact tk_round (j + 1, oo2) ⟨by dsimp only; omega, by dsimp only; unfold latN at hok2 ⊢; rw [hcn]; exact hok2⟩ (by dsimp only; omega) (.cons rfl (.cons rfl (.cons rfl (.cons (by dsimp only; unfold latN; rw [hcn]; rfl) (.cons rfl (.cons rfl (.cons rfl (.cons rfl (.cons rfl (.cons rfl (.cons rfl (.cons rfl .nil)))))))))))) (fun _ h => by dsimp only; unfold latN anyN at h ⊢; rw [hcn]; exact h.subl SB.s SB.s))
                           | (have hcn := cndN_yes (now := nowN s b c h) (i := i) (j := j) hjl hon
                              first
                              | have hset := set_t (by omega) hcn hcv
                              | have hset := set_f (by omega) hcn hcv
                              first
                              | (have hlat := lat_in hcn hc
                                 exact tk_round (j + 1, oo2) ⟨by dsimp only; omega, by dsimp only; rw [hlat]; exact hok2⟩ (by dsimp only; omega) (.cons rfl (.cons rfl (.cons rfl (.cons (by dsimp only; rw [hlat]; rfl) (.cons rfl (.cons rfl (.cons rfl (.cons rfl (.cons rfl (.cons rfl (.cons rfl (.cons rfl .nil)))))))))))) (fun _ h => by dsimp only; rw [hlat, ← hset]; exact h.subl SB.s SB.s))
                              | (have hlat := lat_new hcn hc
                                 exact tk_round (j + 1, oo') ⟨by dsimp only; omega, by dsimp only; rw [hlat]; exact hok'⟩ (by dsimp only; omega) (.cons rfl (.cons rfl (.cons rfl (.cons (by dsimp only; rw [hlat]; rfl) (.cons rfl (.cons rfl (.cons rfl (.cons rfl (.cons rfl (.cons rfl (.cons rfl (.cons rfl .nil)))))))))))) (fun _ h => by dsimp only; rw [hlat, ← hset]; exact h.subl SB.s SB.s))))
                        · try simp only [qn1, qn2, qn3, qn4, qn5, qn6, qn7, qn8] at hc
                          all_goals refine tc_skip ?_; ((refine hK19 ?_; try (clear hK19; clear K19)))
                          all_goals refine tc_region ?_; refine tl_q (y_add rfl rfl (by omega)) rfl ?_; refine tl_q (y_move rfl) rfl ?_; refine tl_nil ?_
                          all_goals (
                           first
                           | (have hcn := cndN_no (now := nowN s b c h) (i := i) (j := j) (by omega) hc
                              exact tk_round (j + 1, oo2) ⟨by dsimp only; omega, by dsimp only; unfold latN at hok2 ⊢; rw [hcn]; exact hok2⟩ (by dsimp only; omega) (.cons rfl (.cons rfl (.cons rfl (.cons (by dsimp only; unfold latN; rw [hcn]; rfl) (.cons rfl (.cons rfl (.cons rfl (.cons rfl (.cons rfl (.cons rfl (.cons rfl (.cons rfl .nil)))))))))))) (fun _ h => by dsimp only; unfold latN anyN at h ⊢; rw [hcn]; exact h.subl SB.s SB.s))
                           | (have hcn := cndN_yes (now := nowN s b c h) (i := i) (j := j) hjl hon
                              first
                              | have hset := set_t (by omega) hcn hcv
                              | have hset := set_f (by omega) hcn hcv
                              first
                              | (have hlat := lat_in hcn hc
                                 exact tk_round (j + 1, oo2) ⟨by dsimp only; omega, by dsimp only; rw [hlat]; exact hok2⟩ (by dsimp only; omega) (.cons rfl (.cons rfl (.cons rfl (.cons (by dsimp only; rw [hlat]; rfl) (.cons rfl (.cons rfl (.cons rfl (.cons rfl (.cons rfl (.cons rfl (.cons rfl (.cons rfl .nil)))))))))))) (fun _ h => by dsimp only; rw [hlat, ← hset]; exact h.subl SB.s SB.s))
                              | (have hlat := lat_new hcn hc
                                 exact tk_round (j + 1, oo') ⟨by dsimp only; omega, by dsimp only; rw [hlat]; exact hok'⟩ (by dsimp only; omega) (.cons rfl (.cons rfl (.cons rfl (.cons (by dsimp only; rw [hlat]; rfl) (.cons rfl (.cons rfl (.cons rfl (.cons rfl (.cons rfl (.cons rfl (.cons rfl (.cons rfl .nil)))))))))))) (fun _ h => by dsimp only; rw [hlat, ← hset]; exact h.subl SB.s SB.s))))))
                  · try simp only [qn1, qn2, qn3, qn4, qn5, qn6, qn7, qn8] at hc
                    all_goals refine tc_exit ?_; ((refine hK14 ?_; try (clear hK14; clear K14)))
                    all_goals refine tc_region ?_; refine tl_q (y_add rfl rfl (by omega)) rfl ?_; refine tl_q (y_move rfl) rfl ?_; refine tl_nil ?_
                    all_goals (
                     obtain rfl : j = (stepL s b h (stB s c h) ((nowN s b c h).getD i false)).length := by omega
                     have hcu := cndN_up (s := s) (b := b) (c := c) (h := h) (now := nowN s b c h) (i := i) (by omega)
                     have hlu : latN s b c h (nowN s b c h) i (stepL s b h (stB s c h) ((nowN s b c h).getD i false)).length = latN s b c h (nowN s b c h) (i + 1) 0 := by unfold latN; rw [hcu]
                     have hau : anyN s b c h (nowN s b c h) i (stepL s b h (stB s c h) ((nowN s b c h).getD i false)).length = anyN s b c h (nowN s b c h) (i + 1) 0 := by unfold anyN; rw [hcu]
                     exact tk_round (i + 1, oo2) ⟨by dsimp only; omega, by dsimp only; rw [← hlu]; exact hok2⟩ (by dsimp only; omega) (.cons rfl (.cons rfl (.cons rfl (.cons (by dsimp only; rw [← hlu]; rfl) (.cons rfl (.cons rfl (.cons rfl (.cons rfl (.cons rfl .nil))))))))) (fun _ h => by dsimp only; rw [← hlu, ← hau]; exact h.subl SB.s SB.s))))
            · try simp only [qn1, qn2, qn3, qn4, qn5, qn6, qn7, qn8] at hc
              all_goals refine tc_exit ?_; ((refine hK10 ?_; try (clear hK10; clear K10)))
              all_goals refine tc_region ?_; refine tl_q (y_move rfl) rfl ?_; refine tl_q (y_assign rfl) rfl ?_; refine tl_nil ?_; ((refine hK7 ?_; try (clear hK7; clear K7)))
              all_goals refine tc_region ?_; refine tl_q (y_add rfl rfl (by omega)) rfl ?_; refine tl_q (y_move rfl) rfl ?_; refine tl_nil ?_
              all_goals (
               obtain rfl : i = (nowN s b c h).length := by omega
               have hlu : latN s b c h (nowN s b c h) (nowN s b c h).length 0 = nowN s b c (h + 1) := by unfold latN; rw [cndN_end]; rfl
               have hau : anyN s b c h (nowN s b c h) (nowN s b c h).length 0 = opnH s b c h := by unfold anyN; rw [cndN_end]; rfl
               exact tk_round (h + 1, oo1) ⟨by dsimp only; omega, by dsimp only; rw [← hlu]; exact hok1⟩ (by dsimp only; omega) (.cons rfl (.cons rfl (.cons (by dsimp only; rw [← hlu]; rfl) (.cons rfl (.cons rfl .nil))))) (fun _ h => by dsimp only; rw [← hlu, ← outN_up, ← hau]; exact h.sub (fun _ h => h) ((List.sublist_append_left _ _).cons_cons _)))))
      · try simp only [qn1, qn2, qn3, qn4, qn5, qn6, qn7, qn8] at hc
        all_goals refine tc_exit ?_; ((refine hK3 ?_; try (clear hK3; clear K3)))
        all_goals refine tc_seq fun K26 hK26 => ?_; refine tc_region ?_; refine tl_q (y_loadW rfl (by repeat constructor) (by rfl)) rfl ?_; refine tl_e (e_storeW rfl rfl (by repeat constructor) (by rw [bsV_size, outN_len]) (by rw [bsV_size, outN_len]) (bsV_one _)) rfl (fun _ _ => ?_); refine tl_nil ?_; ((refine hK26 ?_; try (clear hK26; clear K26)))
        all_goals refine tc_ret ?_; (repeat (first | refine tk_then_ret ?_))
        all_goals (refine tk_ret rfl rfl (.cons (.agg inferInstance rfl (by repeat constructor) (by rfl)) .nil) ?_)
        all_goals (
         obtain rfl : h = (s.L + 1).toNat := by omega
         exact fun w' hw' => ⟨rfl, hw'.fr (w0 := w) (S := []) MI.m⟩)))
end Go.Sp
/-
  Package sample: who has a bottle, hour by hour.
-/
namespace Go.Sp
open Go Go.Proofs
theorem isV_one (l : List Int) : ∀ v ∈ (isV l).toList, v.oneCell' = true := fun v hv => by
  simp only [isV, List.mem_map] at hv
  obtain ⟨_, _, rfl⟩ := hv; rfl
theorem e_storeI {P : Program} {N : NN} {F : List (Nat × Value)} {bs : List (World × List Nat)} {H : List (Nat × Obj)} {ty : TypeId} {pos : String} {after : Array Edge} {g : Option (Nat × Bool)} {t : TypeId} {z : Value} [h : TyOne P t z] {x y : Operand} {b o : Nat} {v : Int} {l : List Int} {e : TypeId} {H' : List (Nat × Obj)}
    (hx : evalO F x = some (.pointer (some ⟨b, o, none⟩))) (hy : evalO F y = some (.int .i64 v)) (hlt : o < l.length)
    (hu : HU b (.cells (isV l) e (0, 0)) (.cells (isV (l.set o v)) e (0, 0)) H H') :
    OpE P ⟨none, .store t x y, ty, pos, after, g⟩ N F bs H (fun _ : Unit => True) (fun _ => F) (fun _ => bs) (fun _ => H') :=
  e_store1g hx hy rfl rfl (by rw [isV_size]; exact hlt) (by rw [isV_set]; exact hu)
theorem cellAt_is {l : List Int} {e : TypeId} {f : Nat × Nat} {o : Nat} (h : o < l.length) : cellAt (.cells (isV l) e f) o = some (vi (l.getD o 0)) := by
  unfold isV
  simp only [cellAt, lget_eq]
  rw [List.getElem?_map, List.getD_eq_getElem?_getD, List.getElem?_eq_getElem h]; rfl
def pasN (s : Smp) (b : Int) (ts : List Int) (h : Int) (a0 : Int) : Nat → Option Int
  | 0 => some a0
  | n + 1 => match pasN s b ts h a0 n with
    | none => none
    | some a => if (s.ps.getD n pas0).b = b ∧ ts.getD n 0 = h then (if (s.ps.getD n pas0).fr = a then some (s.ps.getD n pas0).to else none) else some a
def chN (s : Smp) (b : Int) (ts : List Int) : Nat → Option (List Int × Int)
  | 0 => some ([], s.F)
  | h + 1 => match chN s b ts h with
    | none => none
    | some (c, a) => match pasN s b ts h a s.ps.length with
      | none => none
      | some a' => some (c ++ [a'], a')
def padC (c : List Int) : List Int := c ++ List.replicate (10 - c.length) 0
def chF (s : Smp) (b : Int) (ts : List Int) : Option (List Int) := (chN s b ts (s.L + 1).toNat).map fun q => padC q.1
theorem pasN_none {s : Smp} {b : Int} {ts : List Int} {h a0 : Int} {n : Nat} (hn : pasN s b ts h a0 n = none) : ∀ m, n ≤ m → pasN s b ts h a0 m = none := by
  intro m hm
  obtain ⟨d, rfl⟩ : ∃ d, m = n + d := ⟨m - n, by omega⟩
  clear hm
  induction d with
  | zero => exact hn
  | succ d ih => rw [← Nat.add_assoc, pasN, ih]
theorem chN_none {s : Smp} {b : Int} {ts : List Int} {n : Nat} (hn : chN s b ts n = none) : ∀ m, n ≤ m → chN s b ts m = none := by
  intro m hm
  obtain ⟨d, rfl⟩ : ∃ d, m = n + d := ⟨m - n, by omega⟩
  clear hm
  induction d with
  | zero => exact hn
  | succ d ih => rw [← Nat.add_assoc, chN, ih]
theorem chN_len {s : Smp} {b : Int} {ts : List Int} : ∀ {h : Nat} {q : List Int × Int}, chN s b ts h = some q → q.1.length = h
  | 0, q, e => by cases e; rfl
  | h + 1, q, e => by
    rw [chN] at e
    split at e
    · cases e
    · rename_i c a h1
      split at e
      · cases e
      · cases e
        rw [List.length_append, chN_len h1]; rfl
theorem pasN_ok {s : Smp} (hv : VSm s) {b : Int} {ts : List Int} {h a0 : Int} (h0 : 0 ≤ a0 ∧ a0 < s.P) : ∀ {n : Nat} {a : Int}, n ≤ s.ps.length → pasN s b ts h a0 n = some a → 0 ≤ a ∧ a < s.P
  | 0, a, _, e => by cases e; exact h0
  | n + 1, a, hn, e => by
    rw [pasN] at e
    split at e
    · cases e
    · rename_i a1 h1
      have ih := pasN_ok hv h0 (by omega) h1
      split at e
      · split at e
        · cases e; exact (hv.ps _ (getD_memG (n := n) (d := pas0) (by omega))).2.2.1
        · cases e
      · cases e; exact ih
theorem chN_ok {s : Smp} (hv : VSm s) {b : Int} {ts : List Int} : ∀ {h : Nat} {q : List Int × Int}, chN s b ts h = some q → (0 ≤ q.2 ∧ q.2 < s.P) ∧ ∀ x ∈ q.1, 0 ≤ x ∧ x < s.P
  | 0, q, e => by cases e; exact ⟨⟨hv.f0, hv.f1⟩, fun x hx => by cases hx⟩
  | h + 1, q, e => by
    rw [chN] at e
    split at e
    · cases e
    · rename_i c a h1
      have ih := chN_ok hv h1
      split at e
      · cases e
      · rename_i a' h2
        cases e
        have h3 := pasN_ok hv ih.1 (Nat.le_refl _) h2
        refine ⟨h3, fun x hx => ?_⟩
        rcases List.mem_append.1 hx with hx | hx
        · exact ih.2 x hx
        · obtain rfl := List.mem_singleton.1 hx; exact h3
theorem padC_len {c : List Int} (h : c.length ≤ 10) : (padC c).length = 10 := by unfold padC; simp; omega
theorem chF_ok {s : Smp} (hv : VSm s) {b : Int} {ts c : List Int} (h : chF s b ts = some c) : ChOk s c := by
  unfold chF at h
  obtain ⟨q, h1, rfl⟩ := Option.map_eq_some_iff.1 h
  have hl := chN_len h1
  have hl0 := hv.l0
  have hl9 := hv.l9
  refine ⟨padC_len (by omega), fun n hn => ?_⟩
  have hlt : n < q.1.length := by omega
  have := (chN_ok hv h1).2 _ (getD_memG (n := n) (d := 0) hlt)
  unfold padC
  rw [List.getD_eq_getElem?_getD, List.getElem?_append_left hlt, ← List.getD_eq_getElem?_getD]
  exact this
theorem padC_set {c : List Int} {a : Int} {h : Nat} (hl : c.length = h) (hh : h < 10) : (padC c).set h a = padC (c ++ [a]) := by
  unfold padC
  rw [List.set_append_right _ _ (by omega), hl, Nat.sub_self, List.length_append, List.length_singleton, hl]
  obtain ⟨m, hm⟩ : ∃ m, 10 - h = m + 1 := ⟨10 - h - 1, by omega⟩
  rw [hm, List.replicate_succ, List.set_cons_zero, show 10 - (h + 1) = m from by omega, List.append_assoc]; rfl
set_option maxHeartbeats 1000000 in
theorem chained_c (s : Smp) (hf : Few s) (hv : VSm s) (b : Int) (ts : List Int) (hts : ts.length = s.ps.length) (tv pv gv hv' : Value) (w : World) (hr : RdSm w s tv pv gv) (hh : RdI w hv' ts) :
    CnX Tryz.prog 89 #[smV s tv pv gv, vi b, hv'] w [] (fun y : List Int => .tuple #[.agg (isV y), .bool (chF s b ts).isSome]) (fun y _ => y.length = 10 ∧ ∀ c, chF s b ts = some c → y = c) := by
  have hl0 := hv.l0
  have hl9 := hv.l9
  have hn6 := hv.n6
  obtain ⟨adp, cpp, bp, op, rfl, hadp, hcp⟩ := hr.ps.open psE_len pas0
  obtain ⟨adh, cph, bh, oh, rfl, hadh, hch⟩ := hh.open
  refine cnx0 (vs := [_, _, _]) Tryz.func89 rfl rfl ?_
  all_goals refine tc_seq fun K1 hK1 => ?_; refine tc_region ?_; refine tl_e (e_box rfl rfl rfl) rfl (fun b3 _ => ?_); refine tl_e (e_allocN rfl) rfl (fun b6 _ => ?_); refine tl_q (y_assign rfl) rfl ?_; refine tl_nil ?_; ((refine hK1 ?_; try (clear hK1; clear K1)))
  all_goals refine tc_seq fun K2 hK2 => ?_; refine tc_region ?_; refine tl_q (y_field rfl) rfl ?_; refine tl_q (y_load1 rfl (by repeat constructor) (by rfl)) rfl ?_; refine tl_q (y_assign rfl) rfl ?_; refine tl_nil ?_; ((refine hK2 ?_; try (clear hK2; clear K2)))
  all_goals refine tc_seq fun K3 hK3 => ?_; refine tc_seq fun K4 hK4 => ?_; refine tc_region ?_; refine tl_q (y_field rfl) rfl ?_; refine tl_q (y_load1 rfl (by repeat constructor) (by rfl)) rfl ?_; refine tl_q (y_add rfl rfl (by omega)) rfl ?_; refine tl_q (y_move rfl) rfl ?_; refine tl_nil ?_; ((refine hK4 ?_; try (clear hK4; clear K4)))
  all_goals refine tc_block ?_
  all_goals (
   refine tc_loop (fun p : Nat × List Int × Int => (p.1 : Int) ≤ s.L + 1 ∧ chN s b ts p.1 = some p.2) (fun p => [(1, vi b), (2, .slice adh ts.length cph), (3, ptr b3), (6, ptr b6), (8, vi p.2.2), (16, vi (s.L + 1)), (17, vi p.1)]) (fun _ => [(w, [])]) (fun p => [(b6, .cells (isV (padC p.2.1)) 143 (0, 0)), (b3, .cells #[vi s.B, vi s.P, vi s.L, vi s.F, tv, .slice adp s.ps.length cpp, gv] 42 (0, 0))]) (fun p => (s.L + 1).toNat - p.1) ?_ ?_
   · exact tk_start (0, [], s.F) ⟨by dsimp only; omega, rfl⟩ (.cons rfl (.cons rfl (.cons rfl (.cons rfl (.cons rfl (.cons rfl (.cons rfl .nil))))))) (fun _ h => h.subl SB.s SB.s)
   · rintro ⟨h, c, a⟩ ⟨hh2, hcn⟩
     dsimp only at hh2 hcn ⊢
     have hcl := chN_len hcn
     dsimp only at hcl
     all_goals refine tc_seq fun K5 hK5 => ?_; refine tc_region ?_; refine tl_q (y_lss rfl rfl) rfl ?_; refine tl_nil ?_; ((refine hK5 ?_; try (clear hK5; clear K5)))
     all_goals refine tc_seq fun K6 hK6 => ?_
     all_goals (
      refine tc_cond rfl (fun hc => ?_) (fun hc => ?_)
      · try simp only [qn1, qn2, qn3, qn4, qn5, qn6, qn7, qn8] at hc
        all_goals refine tc_skip ?_; ((refine hK6 ?_; try (clear hK6; clear K6)))
        all_goals refine tc_seq fun K7 hK7 => ?_; refine tc_block ?_; refine tc_seq fun K8 hK8 => ?_; refine tc_region ?_; refine tl_q (y_move rfl) rfl ?_; refine tl_q (y_assign rfl) rfl ?_; refine tl_nil ?_; ((refine hK8 ?_; try (clear hK8; clear K8)))
        all_goals refine tc_seq fun K9 hK9 => ?_; refine tc_seq fun K10 hK10 => ?_; refine tc_region ?_; refine tl_q (y_field rfl) rfl ?_; refine tl_q (y_load1 rfl (by repeat constructor) (by rfl)) rfl ?_; refine tl_q (y_len rfl) rfl ?_; refine tl_q (y_move rfl) rfl ?_; refine tl_nil ?_; ((refine hK10 ?_; try (clear hK10; clear K10)))
        all_goals refine tc_block ?_
        all_goals (
         refine tc_loop (fun p : Nat × Int => p.1 ≤ s.ps.length ∧ pasN s b ts h a p.1 = some p.2) (fun p => [(1, vi b), (2, .slice adh ts.length cph), (3, ptr b3), (6, ptr b6), (8, vi p.2), (9, vi h), (16, vi (s.L + 1)), (17, vi h), (21, .slice adp s.ps.length cpp), (22, vi s.ps.length), (23, vi p.1)]) (fun _ => [(w, [])]) (fun p => [(b6, .cells (isV (padC c)) 143 (0, 0)), (b3, .cells #[vi s.B, vi s.P, vi s.L, vi s.F, tv, .slice adp s.ps.length cpp, gv] 42 (0, 0))]) (fun p => s.ps.length - p.1) ?_ ?_
         · exact tk_start (0, a) ⟨Nat.zero_le _, rfl⟩ (.cons rfl (.cons rfl (.cons rfl (.cons rfl (.cons rfl (.cons rfl (.cons rfl (.cons rfl (.cons rfl (.cons rfl (.cons rfl .nil))))))))))) (fun _ h => h.subl SB.s SB.s)
         · rintro ⟨n, a1⟩ ⟨hn, hpn⟩
           dsimp only at hn hpn ⊢
           all_goals refine tc_seq fun K11 hK11 => ?_; refine tc_region ?_; refine tl_q (y_lss rfl rfl) rfl ?_; refine tl_nil ?_; ((refine hK11 ?_; try (clear hK11; clear K11)))
           all_goals refine tc_seq fun K12 hK12 => ?_
           all_goals (
            refine tc_cond rfl (fun hc => ?_) (fun hc => ?_)
            · try simp only [qn1, qn2, qn3, qn4, qn5, qn6, qn7, qn8] at hc
              all_goals refine tc_skip ?_; ((refine hK12 ?_; try (clear hK12; clear K12)))
              all_goals refine tc_seq fun K13 hK13 => ?_; refine tc_block ?_; refine tc_seq fun K14 hK14 => ?_; refine tc_region ?_; refine tl_q (y_move rfl) rfl ?_; refine tl_q (y_index rfl rfl (by omega) (hadp (by omega))) rfl ?_; ((refine tl_q (y_loadNo (n := 5) (vs := [vi (s.ps.getD n pas0).b, vi (s.ps.getD n pas0).fr, vi (s.ps.getD n pas0).to, vi (s.ps.getD n pas0).lo, vi (s.ps.getD n pas0).hi]) rfl (fun w' hw' => by rw [show Int.toNat (n : Int) * 5 = n * 5 from by omega]; exact hcp w' [] (hw'.fr (w0 := w) (S := []) MI.m) (by simp) n (by omega))) rfl ?_))
              all_goals refine tl_e (e_allocN rfl) rfl (fun b11 _ => ?_); refine tl_q (y_assign rfl) rfl ?_; refine tl_e (e_storeW rfl rfl (by repeat constructor) (by rfl) (by rfl) (by simp [Value.oneCell'])) rfl (fun _ _ => ?_); refine tl_nil ?_; ((refine hK14 ?_; try (clear hK14; clear K14)))
              all_goals refine tc_seq fun K15 hK15 => ?_; refine tc_seq fun K16 hK16 => ?_; refine tc_region ?_; refine tl_q (y_field rfl) rfl ?_; refine tl_q (y_load1 rfl (by repeat constructor) (by rfl)) rfl ?_; refine tl_q (y_move rfl) rfl ?_; refine tl_q (y_neq rfl rfl) rfl ?_; refine tl_q (y_move rfl) rfl ?_; ((refine tl_gs rfl rfl (fun hc => ?_) (fun hc => ?_) <;> (try simp only [qn1, qn2, qn3, qn4, qn5, qn6, qn7, qn8] at hc) <;> (first | refine tl_sk rfl rfl rfl rfl ?_ | refine tl_qg rfl rfl (y_move rfl) rfl ?_)))
              all_goals (first | refine tl_sk rfl rfl rfl rfl ?_ | refine tl_qg rfl rfl (y_move rfl) rfl ?_); (first | refine tl_sk rfl rfl rfl rfl ?_ | refine tl_qg rfl rfl (y_index rfl rfl (by omega) (hadh (by omega))) rfl ?_); ((first | refine tl_sk rfl rfl rfl rfl ?_ | refine tl_qg rfl rfl (y_load1o (v := vi (ts.getD n 0)) rfl (fun w' hw' => by rw [show Int.toNat (n : Int) * 1 = n from by omega]; exact hch w' (hw'.fr (w0 := w) (S := []) MI.m) n (by omega))) rfl ?_))
              all_goals (first | refine tl_sk rfl rfl rfl rfl ?_ | refine tl_qg rfl rfl (y_move rfl) rfl ?_); (first | refine tl_sk rfl rfl rfl rfl ?_ | refine tl_qg rfl rfl (y_neq rfl rfl) rfl ?_); (first | refine tl_q (y_pick_t rfl rfl) rfl ?_ | refine tl_q (y_pick_f rfl rfl) rfl ?_); refine tl_nil ?_; ((refine hK16 ?_; try (clear hK16; clear K16)))
              all_goals (
               refine tc_cond rfl (fun hc => ?_) (fun hc => ?_)
               · try simp only [qn1, qn2, qn3, qn4, qn5, qn6, qn7, qn8] at hc
                 all_goals refine tc_exit ?_; ((refine hK13 ?_; try (clear hK13; clear K13)))
                 all_goals refine tc_region ?_; refine tl_q (y_add rfl rfl (by omega)) rfl ?_; refine tl_q (y_move rfl) rfl ?_; refine tl_nil ?_
                 all_goals (
                  first
                  | (have hs : pasN s b ts h a (n + 1) = some (s.ps.getD n pas0).to := by rw [pasN, hpn]; simp only; rw [if_pos (by omega), if_pos (by omega)]
                     exact tk_round (n + 1, (s.ps.getD n pas0).to) ⟨by dsimp only; omega, hs⟩ (by dsimp only; omega) (.cons rfl (.cons rfl (.cons rfl (.cons rfl (.cons rfl (.cons rfl (.cons rfl (.cons rfl (.cons rfl (.cons rfl (.cons rfl .nil))))))))))) (fun _ h => h.subl SB.s SB.s))
                  | (have hs : pasN s b ts h a (n + 1) = some a1 := by rw [pasN, hpn]; simp only; rw [if_neg (by omega)]
                     exact tk_round (n + 1, a1) ⟨by dsimp only; omega, hs⟩ (by dsimp only; omega) (.cons rfl (.cons rfl (.cons rfl (.cons rfl (.cons rfl (.cons rfl (.cons rfl (.cons rfl (.cons rfl (.cons rfl (.cons rfl .nil))))))))))) (fun _ h => h.subl SB.s SB.s)))
               · try simp only [qn1, qn2, qn3, qn4, qn5, qn6, qn7, qn8] at hc
                 all_goals ((first | (exfalso; with_reducible exact btf hc) | skip))
                 all_goals refine tc_skip ?_; ((refine hK15 ?_; try (clear hK15; clear K15)))
                 all_goals refine tc_seq fun K17 hK17 => ?_; refine tc_seq fun K18 hK18 => ?_; refine tc_region ?_; refine tl_q (y_field rfl) rfl ?_; refine tl_q (y_load1 rfl (by repeat constructor) (by rfl)) rfl ?_; refine tl_q (y_move rfl) rfl ?_; refine tl_q (y_neq rfl rfl) rfl ?_; refine tl_nil ?_; ((refine hK18 ?_; try (clear hK18; clear K18)))
                 all_goals (
                  refine tc_cond rfl (fun hc => ?_) (fun hc => ?_)
                  · try simp only [qn1, qn2, qn3, qn4, qn5, qn6, qn7, qn8] at hc
                    all_goals refine tc_seq fun K19 hK19 => ?_; refine tc_region ?_; refine tl_q (y_loadW rfl (by repeat constructor) (by rw [isV_size, padC_len (by omega)])) rfl ?_; refine tl_e (e_storeW rfl rfl (by repeat constructor) (by rw [isV_size, padC_len (by omega)]) (by rw [isV_size, padC_len (by omega)]) (isV_one _)) rfl (fun _ _ => ?_); refine tl_q (y_assign rfl) rfl ?_; refine tl_nil ?_; ((refine hK19 ?_; try (clear hK19; clear K19)))
                    all_goals refine tc_ret ?_; (repeat (first | refine tk_then_ret ?_ | refine tk_block_ret ?_))
                    all_goals (refine tk_ret rfl rfl (.cons (.agg inferInstance rfl (by repeat constructor) (by rw [isV_size, padC_len (by omega)])) (.cons (.tmp rfl) .nil)) ?_)
                    all_goals (
                     first
                     | (have hs : pasN s b ts h a (n + 1) = none := by rw [pasN, hpn]; simp only; rw [if_pos (by omega), if_neg (by omega)]
                        have hs2 : chN s b ts (h + 1) = none := by rw [chN, hcn]; simp only; rw [pasN_none hs _ (by omega)]
                        have hs3 : chF s b ts = none := by unfold chF; rw [chN_none hs2 _ (by omega)]; rfl
                        exact fun w' hw' => ⟨padC c, by rw [hs3]; rfl, hw'.fr (w0 := w) (S := []) MI.m, padC_len (by omega), fun c2 hc2 => by rw [hs3] at hc2; cases hc2⟩)
                     | (obtain rfl : h = (s.L + 1).toNat := by omega
                        have hs3 : chF s b ts = some (padC c) := by unfold chF; rw [hcn]; rfl
                        exact fun w' hw' => ⟨padC c, by rw [hs3]; rfl, hw'.fr (w0 := w) (S := []) MI.m, padC_len (by omega), fun c2 hc2 => by rw [hs3] at hc2; exact Option.some.inj hc2⟩))
                  · try simp only [qn1, qn2, qn3, qn4, qn5, qn6, qn7, qn8] at hc
                    all_goals refine tc_skip ?_; ((refine hK17 ?_; try (clear hK17; clear K17)))
                    all_goals refine tc_region ?_; refine tl_q (y_field rfl) rfl ?_; refine tl_q (y_load1 rfl (by repeat constructor) (by rfl)) rfl ?_; refine tl_q (y_assign rfl) rfl ?_; refine tl_nil ?_; ((refine hK13 ?_; try (clear hK13; clear K13)))
                    all_goals refine tc_region ?_; refine tl_q (y_add rfl rfl (by omega)) rfl ?_; refine tl_q (y_move rfl) rfl ?_; refine tl_nil ?_
                    all_goals (
                     first
                     | (have hs : pasN s b ts h a (n + 1) = some (s.ps.getD n pas0).to := by rw [pasN, hpn]; simp only; rw [if_pos (by omega), if_pos (by omega)]
                        exact tk_round (n + 1, (s.ps.getD n pas0).to) ⟨by dsimp only; omega, hs⟩ (by dsimp only; omega) (.cons rfl (.cons rfl (.cons rfl (.cons rfl (.cons rfl (.cons rfl (.cons rfl (.cons rfl (.cons rfl (.cons rfl (.cons rfl .nil))))))))))) (fun _ h => h.subl SB.s SB.s))
                     | (have hs : pasN s b ts h a (n + 1) = some a1 := by rw [pasN, hpn]; simp only; rw [if_neg (by omega)]
                        exact tk_round (n + 1, a1) ⟨by dsimp only; omega, hs⟩ (by dsimp only; omega) (.cons rfl (.cons rfl (.cons rfl (.cons rfl (.cons rfl (.cons rfl (.cons rfl (.cons rfl (.cons rfl (.cons rfl (.cons rfl .nil))))))))))) (fun _ h => h.subl SB.s SB.s)))))
            · try simp only [qn1, qn2, qn3, qn4, qn5, qn6, qn7, qn8] at hc
              all_goals refine tc_exit ?_; ((refine hK9 ?_; try (clear hK9; clear K9)))
              all_goals refine tc_region ?_; refine tl_q (y_move rfl) rfl ?_; refine tl_q (y_move rfl) rfl ?_; refine tl_q (y_indexA rfl rfl (by omega)) rfl ?_; ((refine tl_e (e_storeI (l := padC c) rfl rfl (by rw [padC_len (by omega)]; omega) (by repeat constructor)) rfl (fun _ _ => ?_)))
              all_goals refine tl_nil ?_; ((refine hK7 ?_; try (clear hK7; clear K7)))
              all_goals refine tc_region ?_; refine tl_q (y_add rfl rfl (by omega)) rfl ?_; refine tl_q (y_move rfl) rfl ?_; refine tl_nil ?_
              all_goals (
               obtain rfl : n = s.ps.length := by omega
               have hs : chN s b ts (h + 1) = some (c ++ [a1], a1) := by rw [chN, hcn]; simp only; rw [hpn]
               exact tk_round (h + 1, c ++ [a1], a1) ⟨by dsimp only; omega, hs⟩ (by dsimp only; omega) (.cons rfl (.cons rfl (.cons rfl (.cons rfl (.cons rfl (.cons rfl (.cons rfl .nil))))))) (fun _ hg => by dsimp only; rw [← padC_set hcl (by omega)]; rw [show 0 + Int.toNat (h : Int) * 1 = h from by omega] at hg; exact hg.subl SB.s SB.s))))
      · try simp only [qn1, qn2, qn3, qn4, qn5, qn6, qn7, qn8] at hc
        all_goals refine tc_exit ?_; ((refine hK3 ?_; try (clear hK3; clear K3)))
        all_goals refine tc_seq fun K20 hK20 => ?_; refine tc_region ?_; refine tl_q (y_loadW rfl (by repeat constructor) (by rw [isV_size, padC_len (by omega)])) rfl ?_; refine tl_e (e_storeW rfl rfl (by repeat constructor) (by rw [isV_size, padC_len (by omega)]) (by rw [isV_size, padC_len (by omega)]) (isV_one _)) rfl (fun _ _ => ?_); refine tl_q (y_assign rfl) rfl ?_; refine tl_nil ?_; ((refine hK20 ?_; try (clear hK20; clear K20)))
        all_goals refine tc_ret ?_; (repeat (first | refine tk_then_ret ?_))
        all_goals (refine tk_ret rfl rfl (.cons (.agg inferInstance rfl (by repeat constructor) (by rw [isV_size, padC_len (by omega)])) (.cons (.tmp rfl) .nil)) ?_)
        all_goals (
         first
         | (have hs : pasN s b ts h a (n + 1) = none := by rw [pasN, hpn]; simp only; rw [if_pos (by omega), if_neg (by omega)]
            have hs2 : chN s b ts (h + 1) = none := by rw [chN, hcn]; simp only; rw [pasN_none hs _ (by omega)]
            have hs3 : chF s b ts = none := by unfold chF; rw [chN_none hs2 _ (by omega)]; rfl
            exact fun w' hw' => ⟨padC c, by rw [hs3]; rfl, hw'.fr (w0 := w) (S := []) MI.m, padC_len (by omega), fun c2 hc2 => by rw [hs3] at hc2; cases hc2⟩)
         | (obtain rfl : h = (s.L + 1).toNat := by omega
            have hs3 : chF s b ts = some (padC c) := by unfold chF; rw [hcn]; rfl
            exact fun w' hw' => ⟨padC c, by rw [hs3]; rfl, hw'.fr (w0 := w) (S := []) MI.m, padC_len (by omega), fun c2 hc2 => by rw [hs3] at hc2; exact Option.some.inj hc2⟩))))
end Go.Sp
/-
  Package sample: the hours of all passes of a bottle, in all ways.
-/
namespace Go.Sp
open Go Go.Proofs
theorem e_mkS {P : Program} {N : NN} {F : List (Nat × Value)} {bs : List (World × List Nat)} {H : List (Nat × Obj)} {ty : TypeId} {pos : String} {after : Array Edge} {g : Option (Nat × Bool)} {dd : Tmp} {t e : TypeId} {sz by_ : Nat} {x y : Operand} {z : Value} {n : Nat} {out : List Value} [hs : TySlice P t e sz] (hi : (P.info? e).map (fun i => (i.zero, i.size, i.bytes)) = some (some z, sz, by_)) (hd : Nat.blt dd N.n = true)
    (hx : evalO F x = some (.int .i64 n)) (hy : evalO F y = some (.int .i64 n)) (hb : by_ * n ≤ 1000000) (hn : n * sz ≤ 1000000) (hn2 : n ≤ 1000000) (hout : madeCells z.cells (n * sz) = out.toArray) :
    OpE P ⟨some dd, .makeSlice t x y, ty, pos, after, g⟩ N F bs H (fun _ : Nat => True) (fun b => (dd, .slice (some ⟨b, 0, none⟩) n n) :: F) (fun _ => bs) (fun b => (b, .cells out.toArray e (0, 0)) :: H) := by
  unfold OpE
  intro a w ht hw K Q hK
  obtain ⟨i, h1, h2⟩ := Option.map_eq_some_iff.1 hi
  simp only [Prod.mk.injEq] at h2
  have hbb : (i.bytes : Int) * (n : Int) ≤ 281474976710656 := by
    have : ((i.bytes * n : Nat) : Int) ≤ 1000000 := by rw [h2.2.2]; omega
    rw [Int.natCast_mul] at this; omega
  have hrun := run_makeSlice (P := P) w t e i z hs.ty h1 h2.1 .i64 .i64 n n (by omega) (Int.le_refl _) (by rw [h2.2.1, Int.toNat_natCast]; omega) hbb (by omega)
  simp only [Int.toNat_natCast, h2.2.1, hout] at hrun
  unfold Oper.wp
  simp only [execOp, Sem.run_bind, ht.eval hx, ht.eval hy, hrun, Result.andThen, Sem.run_pure, Oper.upon]
  exact hK w.heap.size _ _ trivial (ht.put hd _) (hw.alloc _)
theorem e_y {P : Program} {N : NN} {F : List (Nat × Value)} {bs : List (World × List Nat)} {H : List (Nat × Obj)} {d : Tmp} {op : Op} {ty : TypeId} {pos : String} {after : Array Edge} {g : Option (Nat × Bool)} {v : Value} (hd : Nat.blt d N.n = true) (hy : OpY P ⟨some d, op, ty, pos, after, g⟩ F bs H v) :
    OpE P ⟨some d, op, ty, pos, after, g⟩ N F bs H (fun _ : Unit => True) (fun _ => (d, v) :: F) (fun _ => bs) (fun _ => H) := by
  unfold OpE
  unfold OpY at hy
  intro a w ht hw K Q hK
  unfold Oper.wp
  rw [hy N a w ht hw]
  simp only [Oper.upon]
  exact hK () _ _ trivial (ht.put hd _) hw
/-- Yield is called: what it does is said. -/
theorem e_yieldG {P : Program} {N : NN} {F : List (Nat × Value)} {bs : List (World × List Nat)} {H : List (Nat × Obj)} {d : Tmp} {ty : TypeId} {pos : String} {after : Array Edge} {g : Option (Nat × Bool)} {α : Type} {x : Operand} {xo : List Operand} {tys : Array TypeId} {vs : List Value} {l : Nat} {Hx : List (Nat × Obj)} {Hn : α → List (Nat × Obj)} {R : Bool → α → Prop} (H2 : List (Nat × Obj))
    (hd : Nat.blt d N.n = true) (hx : evalO F x = some (.func (.yield l) #[] #[])) (hxs : EA F xo vs) (hH : H = H2 ++ Hx) (hc : ∀ w, HG bs (H2 ++ Hx) w → YieldC P (.func (.yield l) #[] #[]) vs w (fun b w3 => Fr (Hx.map Prod.fst) w w3 ∧ ∃ s', KnS (Hn s') (Hx.map Prod.fst) w w3 ∧ R b s')) :
    OpR P ⟨some d, .call ⟨.value x, xo.toArray, tys⟩, ty, pos, after, g⟩ N F bs H (fun q : Bool × α => R q.1 q.2) (fun q => (d, .bool q.1) :: F) (fun _ => bs) (fun q => H2 ++ Hn q.2) := by
  unfold OpR
  intro r a w ht hw K Q hK
  subst hH
  obtain ⟨l', f, tmps, assign, body, h1, h2, h3⟩ := hc w hw
  cases h1
  have he : (execOp a.eval ⟨some d, .call ⟨.value x, xo.toArray, tys⟩, ty, pos, after, g⟩).run P w = .ok (.round l f tmps assign body) w := by
    simp only [execOp, resolve, Sem.run_bind, ht.eval hx, Deferred.ofValue, Sem.run_pure, Result.andThen, invoke, hxs.map ht]
    simpa using h2
  refine ⟨fun _ _ => trivial, ?_⟩
  rw [Oper.semAt_eq _ _ _ (by simp), he]
  refine ⟨fun h => (by cases h), RoundIn.mono (F := FW r) h3 fun e w' hq => ?_⟩
  obtain ⟨b, rfl, hf, s', hk', hor⟩ := hq
  exact hK (b, s') _ _ hor (ht.put hd _) (((hw.perm List.perm_append_comm).callS hf hk').perm List.perm_append_comm)
/-- A function value is called; all blocks of H1 are turned. -/
theorem e_callQ2 {P : Program} {N : NN} {F : List (Nat × Value)} {bs : List (World × List Nat)} {H : List (Nat × Obj)} {d : Tmp} {ty : TypeId} {pos : String} {after : Array Edge} {g : Option (Nat × Bool)} {f : FuncId} [GoFn P f] {x : Operand} {xs : List Operand} {tys : Array TypeId} {vs : List Value} {first cap : Array Value} {α : Type} {val : α → Value} {p : α → Prop} {H1 : List (Nat × Obj)} {Hn : α → List (Nat × Obj)} (H2 : List (Nat × Obj))
    (hd : Nat.blt d N.n = true) (hx : evalO F x = some (.func (.func f) first cap)) (hxs : EA F xs vs) (hH : H = H2 ++ H1) (hc : ∀ w, HG bs (H2 ++ H1) w → CnX P f (first ++ vs.toArray ++ cap) w (H1.map Prod.fst) val (fun x w' => p x ∧ KnS (Hn x) (H1.map Prod.fst) w w')) :
    OpE P ⟨some d, .call ⟨.value x, xs.toArray, tys⟩, ty, pos, after, g⟩ N F bs H p (fun y => (d, val y) :: F) (fun _ => bs) (fun y => H2 ++ Hn y) := by
  have h := e_callQf (P := P) (N := N) (F := F) (bs := bs) (H := H1 ++ H2) (H1 := H1) (H2 := H2) (ty := ty) (pos := pos) (after := after) (g := g) (tys := tys) (d := d) (x := x) (xs := xs) hd hx hxs rfl (fun w hw => hc w (hw.perm List.perm_append_comm))
  unfold OpE at h ⊢
  subst hH
  exact fun a w ht hw K Q hK => h a w ht (hw.perm List.perm_append_comm) K Q (fun q a' w' hp h1 h2 => hK q a' w' hp h1 (h2.perm List.perm_append_comm))
def genT (b : Int) : List Pas → List Int → List (List Int)
  | [], pre => [pre]
  | p :: ps, pre => if p.b = b then (List.range (p.hi - p.lo + 1).toNat).flatMap fun (j : Nat) => genT b ps (pre ++ [p.lo + (j : Int)]) else genT b ps (pre ++ [-1])
def timesL (s : Smp) (b : Int) : List (List Int) := genT b s.ps []
def genR (b : Int) (p : Pas) (ps : List Pas) (pre : List Int) (n : Nat) : List (List Int) := (List.range n).flatMap fun (j : Nat) => genT b ps (pre ++ [p.lo + (j : Int)])
theorem genR_succ (b : Int) (p : Pas) (ps : List Pas) (pre : List Int) (n : Nat) : genR b p ps pre (n + 1) = genR b p ps pre n ++ genT b ps (pre ++ [p.lo + (n : Int)]) := by simp [genR, List.range_succ]
theorem genR_pre (b : Int) (p : Pas) (ps : List Pas) (pre : List Int) {n m : Nat} (h : n ≤ m) : ∃ t, genR b p ps pre m = genR b p ps pre n ++ t := by
  obtain ⟨d, rfl⟩ : ∃ d, m = n + d := ⟨m - n, by omega⟩
  clear h
  induction d with
  | zero => exact ⟨[], by simp⟩
  | succ d ih => obtain ⟨t, ht⟩ := ih; exact ⟨t ++ _, by rw [← Nat.add_assoc, genR_succ, ht, List.append_assoc]⟩
theorem drop_at {s : Smp} {i : Nat} (hi : i < s.ps.length) : s.ps.drop i = s.ps.getD i pas0 :: s.ps.drop (i + 1) := by
  rw [List.drop_eq_getElem_cons hi, List.getD_eq_getElem?_getD, List.getElem?_eq_getElem hi]; rfl
abbrev chooseV (bH bY b1 b2 bC : Nat) : Value := .func (.func 109) #[] #[ptr bH, ptr bY, ptr b1, ptr b2, ptr bC]
structure EnvT (n : Nat) (s : Smp) (b : Int) (tv pv gv : Value) (l bH bY b1 b2 bC bh : Nat) (S : List Nat) (w : World) : Prop where
  hH : w.heap[bH]? = some (.cells #[.slice (some ⟨bh, 0, none⟩) n n] 27 (0, 0))
  hY : w.heap[bY]? = some (.cells #[.func (.yield l) #[] #[]] 156 (0, 0))
  h1 : w.heap[b1]? = some (.cells #[vi s.B, vi s.P, vi s.L, vi s.F, tv, pv, gv] 42 (0, 0))
  h2 : w.heap[b2]? = some (.cells #[vi b] 3 (0, 0))
  hC : w.heap[bC]? = some (.cells #[chooseV bH bY b1 b2 bC] 136 (0, 0))
  nn : ∀ x ∈ [bH, bY, b1, b2, bC], x ∉ S
  rd : ∀ w', Fr S w w' → RdS 5 psE w' pv s.ps
theorem lt_of {w : World} {b : Nat} {o : Obj} (h : w.heap[b]? = some o) : b < w.heap.size := (Array.getElem?_eq_some_iff.1 h).1
theorem EnvT.step {n : Nat} {s : Smp} {b : Int} {tv pv gv : Value} {l bH bY b1 b2 bC bh : Nat} {S S' : List Nat} {w w' : World} (h : EnvT n s b tv pv gv l bH bY b1 b2 bC bh S w) (f : Fr S w w') (hS : ∀ x ∈ S', x ∈ S ∨ w.heap.size ≤ x) : EnvT n s b tv pv gv l bH bY b1 b2 bC bh S' w' := by
  have m1 := h.nn bH (by simp)
  have m2 := h.nn bY (by simp)
  have m3 := h.nn b1 (by simp)
  have m4 := h.nn b2 (by simp)
  have m5 := h.nn bC (by simp)
  refine ⟨f.keepS m1 h.hH, f.keepS m2 h.hY, f.keepS m3 h.h1, f.keepS m4 h.h2, f.keepS m5 h.hC, fun x hx hx' => ?_, fun w2 f2 => h.rd w2 (f.trans f2 hS)⟩
  have hlt : x < w.heap.size := by
    simp only [List.mem_cons, List.not_mem_nil, or_false] at hx
    rcases hx with rfl | rfl | rfl | rfl | rfl
    · exact lt_of h.hH
    · exact lt_of h.hY
    · exact lt_of h.h1
    · exact lt_of h.h2
    · exact lt_of h.hC
  rcases hS x hx' with g | g
  · exact h.nn x hx g
  · omega
/-- The hours at hand lie in block bh. -/
abbrev hrsO (x : List Int) : Obj := .cells (isV x) 3 (0, 0)
def preT (x : List Int) (y : Nat) (S : List Nat) (w : World) : Prop := w.heap[y]? = some (hrsO x) ∧ y ∉ S
abbrev encT (n : Nat) (y : Nat) : List Value := [.slice (some ⟨y, 0, none⟩) n n]
abbrev HqT {σ : Type} (Hx : σ → List (Nat × Obj)) (bh : Nat) (q : σ × List Int) : List (Nat × Obj) := (bh, hrsO q.2) :: Hx q.1
set_option maxHeartbeats 4000000 in
theorem choose_c {σ : Type} (s : Smp) (hv : VSm s) (b : Int) (tv pv gv : Value) (l bH bY b1 b2 bC bh : Nat) (Hx : σ → List (Nat × Obj)) (I : Nat → σ → Prop) (J : σ → Prop) (xs : List (List Int)) (S1 : List Nat) (w1 : World)
    (hYd : YdQ Tryz.prog (.func (.yield l) #[] #[]) (encT s.ps.length) preT xs S1 Hx I J w1) :
    ∀ (m i : Nat) (arr : List Int) (k : Nat) (st : σ) (w : World), i + m = s.ps.length → arr.length = s.ps.length → I k st → EnvT s.ps.length s b tv pv gv l bH bY b1 b2 bC bh ((HqT Hx bh (st, arr)).map Prod.fst) w → Fr S1 w1 w → KnS (HqT Hx bh (st, arr)) S1 w1 w →
      (∀ (j : Nat) (x : List Int), (genT b (s.ps.drop i) (arr.take i))[j]? = some x → xs[k + j]? = some x) →
      CnX Tryz.prog 109 #[vi i, ptr bH, ptr bY, ptr b1, ptr b2, ptr bC] w ((HqT Hx bh (st, arr)).map Prod.fst) (fun q : Bool × σ × List Int => .bool q.1)
        (fun q w' => (q.2.2.length = s.ps.length ∧ q.2.2.take i = arr.take i ∧ (q.1 = true ∧ I (k + (genT b (s.ps.drop i) (arr.take i)).length) q.2.1 ∨ q.1 = false ∧ J q.2.1)) ∧ KnS (HqT Hx bh q.2) ((HqT Hx bh (st, arr)).map Prod.fst) w w') := by
  have hn6 := hv.n6
  intro m
  induction m with
  | zero =>
    intro i arr k st w him hal hI hE hf1 hk1 hxs
    obtain rfl : i = s.ps.length := by omega
    have htk : arr.take s.ps.length = arr := List.take_of_length_le (by omega)
    rw [htk, List.drop_length] at hxs ⊢
    have hxk : xs[k]? = some arr := hxs 0 arr rfl
    obtain ⟨adp, cpp, bp, op, hpv, hadp, hcp⟩ := (hE.rd w (Fr.refl _ _)).open psE_len pas0
    refine cnxS (vs := [_, _, _, _, _, _]) (S := (HqT Hx bh (st, arr)).map Prod.fst) (HqT Hx bh (st, arr)) Tryz.func109 rfl rfl ⟨hk1.kn, hk1.nd, fun p hp => List.mem_map.2 ⟨p, hp, rfl⟩⟩ ?_
    have hEf : ∀ w', Fr ((HqT Hx bh (st, arr)).map Prod.fst) w w' → EnvT s.ps.length s b tv pv gv l bH bY b1 b2 bC bh ((HqT Hx bh (st, arr)).map Prod.fst) w' := fun w' f => hE.step f (fun x hx => .inl hx)
    have hyc : ∀ w', HG [(w, (HqT Hx bh (st, arr)).map Prod.fst)] ([(bh, hrsO arr)] ++ Hx st) w' → YieldC Tryz.prog (.func (.yield l) #[] #[]) [.slice (some ⟨bh, 0, none⟩) s.ps.length s.ps.length] w' (fun b' w3 => Fr ((Hx st).map Prod.fst) w' w3 ∧ ∃ s', KnS (Hx s') ((Hx st).map Prod.fst) w' w3 ∧ (b' = true ∧ I (k + 1) s' ∨ b' = false ∧ J s')) := fun w' hw' =>
      hYd k st arr bh w' hxk hI (hf1.trans (hw'.fr (w0 := w) (S := (HqT Hx bh (st, arr)).map Prod.fst) MI.m) hk1.own) ⟨fun q hq => hw'.heap q (List.mem_append_right _ hq), (List.nodup_cons.1 hk1.nd).2, fun x hx => hk1.own x (List.mem_cons_of_mem _ hx)⟩ ⟨hw'.heap (bh, hrsO arr) List.mem_cons_self, (List.nodup_cons.1 hk1.nd).1⟩
    all_goals refine tc_seq fun K1 hK1 => ?_; refine tc_region ?_; refine tl_q (y_assign rfl) rfl ?_; refine tl_nil ?_; ((refine hK1 ?_; try (clear hK1; clear K1)))
    all_goals refine tc_seq fun K2 hK2 => ?_; refine tc_seq fun K3 hK3 => ?_; refine tc_region ?_; refine tl_q (y_move rfl) rfl ?_; refine tl_q (y_load1o (v := .slice (some ⟨bh, 0, none⟩) s.ps.length s.ps.length) rfl (fun w' hw' => cell0 (hEf w' (hw'.fr (w0 := w) (S := (HqT Hx bh (st, arr)).map Prod.fst) MI.m)).hH rfl)) rfl ?_; refine tl_q (y_len rfl) rfl ?_; refine tl_q (y_eql rfl rfl) rfl ?_; refine tl_nil ?_; ((refine hK3 ?_; try (clear hK3; clear K3)))
    all_goals (
     refine tc_cond rfl (fun hc => ?_) (fun hc => ?_)
     · try simp only [qn1, qn2, qn3, qn4, qn5, qn6, qn7, qn8] at hc
       all_goals refine tc_seq fun K4 hK4 => ?_; refine tc_region ?_; refine tl_q (y_load1o (v := .func (.yield l) #[] #[]) rfl (fun w' hw' => cell0 (hEf w' (hw'.fr (w0 := w) (S := (HqT Hx bh (st, arr)).map Prod.fst) MI.m)).hY rfl)) rfl ?_; refine tl_q (y_load1o (v := .slice (some ⟨bh, 0, none⟩) s.ps.length s.ps.length) rfl (fun w' hw' => cell0 (hEf w' (hw'.fr (w0 := w) (S := (HqT Hx bh (st, arr)).map Prod.fst) MI.m)).hH rfl)) rfl ?_; refine tl_r (e_yieldG (α := σ) (l := l) (Hx := Hx st) (Hn := Hx) (R := fun b' s' => b' = true ∧ I (k + 1) s' ∨ b' = false ∧ J s') [(bh, hrsO arr)] rfl rfl (.cons rfl .nil) rfl hyc) rfl (fun q hq => ?_); refine tl_q (y_assign rfl) rfl ?_; refine tl_nil ?_; ((refine hK4 ?_; try (clear hK4; clear K4)))
       all_goals refine tc_ret ?_; (repeat (refine tk_then_ret ?_))
       all_goals (refine tk_ret rfl rfl (.cons (.tmp rfl) .nil) ?_)
       all_goals (
        exact fun w' hw' => ⟨(q.1, q.2, arr), rfl, hw'.fr (w0 := w) (S := (HqT Hx bh (st, arr)).map Prod.fst) MI.m, ⟨hal, htk, hq⟩, hw'.knS MI.m⟩)
     · try simp only [qn1, qn2, qn3, qn4, qn5, qn6, qn7, qn8] at hc
       all_goals (
        refine tc_cond rfl (fun hc => ?_) (fun hc => ?_)
        · skip
        · skip
          all_goals skip))
  | succ m ih =>
    intro i arr k st w him hal hI hE hf1 hk1 hxs
    have hi : i < s.ps.length := by omega
    rw [drop_at hi] at hxs ⊢
    obtain ⟨p, hp⟩ : ∃ p, s.ps.getD i pas0 = p := ⟨_, rfl⟩
    rw [hp] at hxs ⊢
    have hpm := hv.ps p (hp ▸ getD_memG hi)
    have hl9 := hv.l9
    obtain ⟨adp, cpp, bp, op, rfl, hadp, _⟩ := (hE.rd w (Fr.refl _ _)).open psE_len pas0
    have hEf : ∀ w', Fr ((HqT Hx bh (st, arr)).map Prod.fst) w w' → EnvT s.ps.length s b tv (.slice adp s.ps.length cpp) gv l bH bY b1 b2 bC bh ((HqT Hx bh (st, arr)).map Prod.fst) w' := fun w' f => hE.step f (fun x hx => .inl hx)
    have hcell : ∀ w', Fr ((HqT Hx bh (st, arr)).map Prod.fst) w w' → CA (fun n => w'.cell? ⟨bp, n, none⟩) (op + Int.toNat (i : Int) * 5) 5 [vi p.b, vi p.fr, vi p.to, vi p.lo, vi p.hi] := fun w' f => by
      have := (hE.rd w' f).at (hadp (by omega)) psE_len pas0 hi
      rw [hp] at this
      rw [show Int.toNat (i : Int) * 5 = i * 5 from by omega]; exact this
    have hih : ∀ (w' : World) (L : List (Nat × Obj)) (arr' : List Int) (k' : Nat) (st' : σ), HG [(w, (HqT Hx bh (st, arr)).map Prod.fst)] (L ++ HqT Hx bh (st', arr')) w' → arr'.length = s.ps.length → I k' st' → (∀ (j : Nat) (x : List Int), (genT b (s.ps.drop (i + 1)) (arr'.take (i + 1)))[j]? = some x → xs[k' + j]? = some x) →
        CnX Tryz.prog 109 (#[] ++ #[vi ((i : Int) + 1)] ++ #[ptr bH, ptr bY, ptr b1, ptr b2, ptr bC]) w' ((HqT Hx bh (st', arr')).map Prod.fst) (fun q : Bool × σ × List Int => .bool q.1)
          (fun q w2 => (q.2.2.length = s.ps.length ∧ q.2.2.take (i + 1) = arr'.take (i + 1) ∧ (q.1 = true ∧ I (k' + (genT b (s.ps.drop (i + 1)) (arr'.take (i + 1))).length) q.2.1 ∨ q.1 = false ∧ J q.2.1)) ∧ KnS (HqT Hx bh q.2) ((HqT Hx bh (st', arr')).map Prod.fst) w' w2) := fun w' L arr' k' st' hw' hl' hI' hx' => by
      rw [show (#[] ++ #[vi ((i : Int) + 1)] ++ #[ptr bH, ptr bY, ptr b1, ptr b2, ptr bC] : Array Value) = #[vi ((i : Int) + 1), ptr bH, ptr bY, ptr b1, ptr b2, ptr bC] from by simp]
      have f := hw'.fr (w0 := w) (S := (HqT Hx bh (st, arr)).map Prod.fst) MI.m
      have hown : ∀ x ∈ (HqT Hx bh (st', arr')).map Prod.fst, x ∈ (HqT Hx bh (st, arr)).map Prod.fst ∨ w.heap.size ≤ x := fun x hx => by
        obtain ⟨q, hq, rfl⟩ := List.mem_map.1 hx
        exact hw'.own q (List.mem_append_right _ hq) _ MI.m
      have hnd := hw'.nodup
      rw [List.map_append, List.nodup_append] at hnd
      exact ih (i + 1) arr' k' st' w' (by omega) hl' hI' (hE.step f hown) (hf1.trans f hk1.own) ⟨fun q hq => hw'.heap q (List.mem_append_right _ hq), hnd.2.1, fun x hx => (hown x hx).elim (hk1.own x) (fun g => .inr (Nat.le_trans hf1.size g))⟩ hx'
    have hgp : p.b = b → genT b (p :: s.ps.drop (i + 1)) (arr.take i) = genR b p (s.ps.drop (i + 1)) (arr.take i) (p.hi - p.lo + 1).toNat := fun h => by rw [genT, if_pos h]; rfl
    have hxj : p.b = b → ∀ (j : Nat) (a : List Int), j < (p.hi - p.lo + 1).toNat → a.take (i + 1) = arr.take i ++ [p.lo + (j : Int)] → ∀ (t : Nat) (x : List Int), (genT b (s.ps.drop (i + 1)) (a.take (i + 1)))[t]? = some x → xs[k + (genR b p (s.ps.drop (i + 1)) (arr.take i) j).length + t]? = some x := fun hpb j a hj ha t x ht => by
      rw [ha] at ht
      obtain ⟨tl, htl⟩ := genR_pre b p (s.ps.drop (i + 1)) (arr.take i) (n := j + 1) (m := (p.hi - p.lo + 1).toNat) (by omega)
      rw [Nat.add_assoc]
      refine hxs _ x ?_
      rw [hgp hpb, htl, genR_succ, List.append_assoc, List.getElem?_append_right (by omega), show (genR b p (s.ps.drop (i + 1)) (arr.take i) j).length + t - (genR b p (s.ps.drop (i + 1)) (arr.take i) j).length = t from by omega, List.getElem?_append_left (List.getElem?_eq_some_iff.1 ht).1]
      exact ht
    have hset : ∀ (a : List Int) (v : Int), a.length = s.ps.length → a.take i = arr.take i → (a.set (0 + Int.toNat (i : Int) * 1) v).length = s.ps.length ∧ (a.set (0 + Int.toNat (i : Int) * 1) v).take (i + 1) = arr.take i ++ [v] := fun a v ha hta => by
      rw [show 0 + Int.toNat (i : Int) * 1 = i from by omega]
      refine ⟨by simpa using ha, ?_⟩
      rw [List.take_succ, List.take_set_of_le (Nat.le_refl _), hta, List.getElem?_set_self (by omega)]; rfl
    have hdn : ∀ (a c : List Int) (v : Int), c.take (i + 1) = arr.take i ++ [v] → a.take (i + 1) = c.take (i + 1) → a.take i = arr.take i := fun a c v h1 h2 => by
      have h3 := congrArg (List.take i) (h2.trans h1)
      rw [List.take_take, Nat.min_eq_left (by omega), List.take_left' (by simp; omega)] at h3
      exact h3
    refine cnxS (vs := [_, _, _, _, _, _]) (S := (HqT Hx bh (st, arr)).map Prod.fst) (HqT Hx bh (st, arr)) Tryz.func109 rfl rfl ⟨hk1.kn, hk1.nd, fun p hp => List.mem_map.2 ⟨p, hp, rfl⟩⟩ ?_
    all_goals refine tc_seq fun K1 hK1 => ?_; refine tc_region ?_; refine tl_q (y_assign rfl) rfl ?_; refine tl_nil ?_; ((refine hK1 ?_; try (clear hK1; clear K1)))
    all_goals refine tc_seq fun K2 hK2 => ?_; refine tc_seq fun K3 hK3 => ?_; refine tc_region ?_; refine tl_q (y_move rfl) rfl ?_; refine tl_q (y_load1o (v := .slice (some ⟨bh, 0, none⟩) s.ps.length s.ps.length) rfl (fun w' hw' => cell0 (hEf w' (hw'.fr (w0 := w) (S := (HqT Hx bh (st, arr)).map Prod.fst) MI.m)).hH rfl)) rfl ?_; refine tl_q (y_len rfl) rfl ?_; refine tl_q (y_eql rfl rfl) rfl ?_; refine tl_nil ?_; ((refine hK3 ?_; try (clear hK3; clear K3)))
    all_goals (
     refine tc_cond rfl (fun hc => ?_) (fun hc => ?_)
     · try simp only [qn1, qn2, qn3, qn4, qn5, qn6, qn7, qn8] at hc
       all_goals ((exfalso; omega))
     · try simp only [qn1, qn2, qn3, qn4, qn5, qn6, qn7, qn8] at hc
       all_goals refine tc_skip ?_; ((refine hK2 ?_; try (clear hK2; clear K2)))
       all_goals refine tc_seq fun K5 hK5 => ?_; refine tc_region ?_; refine tl_q (y_field rfl) rfl ?_; refine tl_q (y_load1o (v := .slice adp s.ps.length cpp) rfl (fun w' hw' => cell0 (hEf w' (hw'.fr (w0 := w) (S := (HqT Hx bh (st, arr)).map Prod.fst) MI.m)).h1 rfl)) rfl ?_; refine tl_q (y_move rfl) rfl ?_; refine tl_q (y_index rfl rfl (by omega) (hadp (by omega))) rfl ?_; refine tl_q (y_loadNo (n := 5) (vs := [vi p.b, vi p.fr, vi p.to, vi p.lo, vi p.hi]) rfl (fun w' hw' => hcell w' (hw'.fr (w0 := w) (S := (HqT Hx bh (st, arr)).map Prod.fst) MI.m))) rfl ?_; refine tl_e (e_allocN rfl) rfl (fun b8 _ => ?_); refine tl_e (e_storeW rfl rfl (by repeat constructor) (by rfl) (by rfl) (by simp [Value.oneCell'])) rfl (fun _ _ => ?_); refine tl_nil ?_; ((refine hK5 ?_; try (clear hK5; clear K5)))
       all_goals refine tc_seq fun K6 hK6 => ?_; refine tc_seq fun K7 hK7 => ?_; refine tc_region ?_; refine tl_q (y_field rfl) rfl ?_; refine tl_q (y_load1 rfl (by repeat constructor) (by rfl)) rfl ?_; refine tl_q (y_load1o (v := vi b) rfl (fun w' hw' => cell0 (hEf w' (hw'.fr (w0 := w) (S := (HqT Hx bh (st, arr)).map Prod.fst) MI.m)).h2 rfl)) rfl ?_; refine tl_q (y_neq rfl rfl) rfl ?_; refine tl_nil ?_; ((refine hK7 ?_; try (clear hK7; clear K7)))
       all_goals (
        refine tc_cond rfl (fun hc => ?_) (fun hc => ?_)
        · try simp only [qn1, qn2, qn3, qn4, qn5, qn6, qn7, qn8] at hc
          all_goals refine tc_seq fun K8 hK8 => ?_; refine tc_region ?_; refine tl_q (y_load1o (v := .slice (some ⟨bh, 0, none⟩) s.ps.length s.ps.length) rfl (fun w' hw' => cell0 (hEf w' (hw'.fr (w0 := w) (S := (HqT Hx bh (st, arr)).map Prod.fst) MI.m)).hH rfl)) rfl ?_; refine tl_q (y_move rfl) rfl ?_; refine tl_q (y_index rfl rfl (by omega) rfl) rfl ?_; refine tl_e (e_storeI (l := arr) rfl rfl (by omega) (by repeat constructor)) rfl (fun _ _ => ?_); refine tl_nil ?_; ((refine hK8 ?_; try (clear hK8; clear K8)))
          all_goals refine tc_seq fun K9 hK9 => ?_; (have hst := hset arr (-1) hal rfl)
          all_goals (have hgn : genT b (p :: s.ps.drop (i + 1)) (arr.take i) = genT b (s.ps.drop (i + 1)) ((arr.set (0 + Int.toNat (i : Int) * 1) (-1)).take (i + 1)) := by rw [genT, if_neg hc, hst.2])
          all_goals refine tc_region ?_; refine tl_q (y_load1o (v := chooseV bH bY b1 b2 bC) rfl (fun w' hw' => cell0 (hEf w' (hw'.fr (w0 := w) (S := (HqT Hx bh (st, arr)).map Prod.fst) MI.m)).hC rfl)) rfl ?_; refine tl_q (y_move rfl) rfl ?_; refine tl_q (y_add rfl rfl (by omega)) rfl ?_; ((refine tl_e (e_callQ2 (H1 := HqT Hx bh (st, arr.set (0 + Int.toNat (i : Int) * 1) (-1))) (Hn := fun q : Bool × σ × List Int => HqT Hx bh q.2) [(b8, _)] rfl rfl (.cons rfl .nil) rfl (fun w' hw' => hih w' _ _ k st hw' hst.1 hI (fun j x hj => hxs j x (by rw [hgn]; exact hj)))) rfl (fun q hq => ?_)))
          all_goals refine tl_q (y_assign rfl) rfl ?_; refine tl_nil ?_; ((refine hK9 ?_; try (clear hK9; clear K9)))
          all_goals refine tc_ret ?_; (repeat (refine tk_then_ret ?_))
          all_goals (refine tk_ret rfl rfl (.cons (.tmp rfl) .nil) ?_)
          all_goals (
           first
           | (have hI4 : I (k + (genT b (p :: s.ps.drop (i + 1)) (arr.take i)).length) st2 := by
                obtain rfl : j = (p.hi - p.lo + 1).toNat := by omega
                rw [hgp (by omega)]; exact hI2
              exact fun w' hw' => ⟨(true, st2, arr2), rfl, hw'.fr (w0 := w) (S := (HqT Hx bh (st, arr)).map Prod.fst) MI.m, ⟨hal2, hta2, .inl ⟨rfl, hI4⟩⟩, (hw'.subl (bs' := [(w, (HqT Hx bh (st, arr)).map Prod.fst)]) (H' := HqT Hx bh (st2, arr2)) SB.s SB.s).knS MI.m⟩)
           | exact fun w' hw' => ⟨(false, q.2), rfl, hw'.fr (w0 := w) (S := (HqT Hx bh (st, arr)).map Prod.fst) MI.m, ⟨hq.1, hdn _ _ _ hst.2 hq.2.1, .inr ⟨rfl, (hq.2.2.resolve_left (fun h => by rw [h.1] at hc; cases hc)).2⟩⟩, (hw'.subl (bs' := [(w, (HqT Hx bh (st, arr)).map Prod.fst)]) (H' := HqT Hx bh q.2) SB.s SB.s).knS MI.m⟩
           | exact fun w' hw' => ⟨q, rfl, hw'.fr (w0 := w) (S := (HqT Hx bh (st, arr)).map Prod.fst) MI.m, ⟨hq.1, hdn _ _ _ hst.2 hq.2.1, by rw [hgn]; exact hq.2.2⟩, (hw'.subl (bs' := [(w, (HqT Hx bh (st, arr)).map Prod.fst)]) (H' := HqT Hx bh q.2) SB.s SB.s).knS MI.m⟩)
        · try simp only [qn1, qn2, qn3, qn4, qn5, qn6, qn7, qn8] at hc
          all_goals refine tc_skip ?_; ((refine hK6 ?_; try (clear hK6; clear K6)))
          all_goals refine tc_seq fun K10 hK10 => ?_; refine tc_seq fun K11 hK11 => ?_; refine tc_region ?_; refine tl_q (y_field rfl) rfl ?_; refine tl_q (y_field rfl) rfl ?_; refine tl_q (y_load1 rfl (by repeat constructor) (by rfl)) rfl ?_; refine tl_q (y_assign rfl) rfl ?_; refine tl_nil ?_; ((refine hK11 ?_; try (clear hK11; clear K11)))
          all_goals refine tc_block ?_
          all_goals (
           refine tc_loop (fun q : Nat × σ × List Int => q.1 ≤ (p.hi - p.lo + 1).toNat ∧ q.2.2.length = s.ps.length ∧ q.2.2.take i = arr.take i ∧ I (k + (genR b p (s.ps.drop (i + 1)) (arr.take i) q.1).length) q.2.1) (fun q => [(0, vi i), (1, ptr bH), (2, ptr bY), (3, ptr b1), (4, ptr b2), (5, ptr bC), (8, ptr b8), (9, vi (p.lo + q.1))]) (fun _ => [(w, (HqT Hx bh (st, arr)).map Prod.fst)]) (fun q => (b8, .cells #[vi p.b, vi p.fr, vi p.to, vi p.lo, vi p.hi] 93 (0, 0)) :: HqT Hx bh q.2) (fun q => (p.hi - p.lo + 1).toNat - q.1) ?_ ?_
           · exact tk_start (0, st, arr) ⟨Nat.zero_le _, hal, rfl, hI⟩ (.cons rfl (.cons rfl (.cons rfl (.cons rfl (.cons rfl (.cons rfl (.cons rfl (.cons (by dsimp only; rw [show p.lo + ((0 : Nat) : Int) = p.lo from by omega]; rfl) .nil)))))))) (fun _ h => h.subl SB.s SB.s)
           · rintro ⟨j, st2, arr2⟩ ⟨hj, hal2, hta2, hI2⟩
             dsimp only at hj hal2 hta2 hI2 ⊢
             all_goals refine tc_seq fun K12 hK12 => ?_; refine tc_seq fun K13 hK13 => ?_; refine tc_region ?_; refine tl_q (y_move rfl) rfl ?_; refine tl_q (y_field rfl) rfl ?_; refine tl_q (y_field rfl) rfl ?_; refine tl_q (y_load1 rfl (by repeat constructor) (by rfl)) rfl ?_; refine tl_q (y_leq rfl rfl) rfl ?_; refine tl_nil ?_; ((refine hK13 ?_; try (clear hK13; clear K13)))
             all_goals (
              refine tc_cond rfl (fun hc => ?_) (fun hc => ?_)
              · try simp only [qn1, qn2, qn3, qn4, qn5, qn6, qn7, qn8] at hc
                all_goals refine tc_skip ?_; ((refine hK12 ?_; try (clear hK12; clear K12)))
                all_goals refine tc_seq fun K14 hK14 => ?_; refine tc_block ?_; refine tc_seq fun K15 hK15 => ?_; refine tc_region ?_; refine tl_q (y_load1o (v := .slice (some ⟨bh, 0, none⟩) s.ps.length s.ps.length) rfl (fun w' hw' => cell0 (hEf w' (hw'.fr (w0 := w) (S := (HqT Hx bh (st, arr)).map Prod.fst) MI.m)).hH rfl)) rfl ?_; refine tl_q (y_move rfl) rfl ?_; refine tl_q (y_move rfl) rfl ?_; refine tl_q (y_index rfl rfl (by omega) rfl) rfl ?_; refine tl_e (e_storeI (l := arr2) rfl rfl (by omega) (by repeat constructor)) rfl (fun _ _ => ?_); refine tl_nil ?_; ((refine hK15 ?_; try (clear hK15; clear K15)))
                all_goals refine tc_seq fun K16 hK16 => ?_; (have hst := hset arr2 (p.lo + j) hal2 hta2)
                all_goals refine tc_region ?_; refine tl_q (y_load1o (v := chooseV bH bY b1 b2 bC) rfl (fun w' hw' => cell0 (hEf w' (hw'.fr (w0 := w) (S := (HqT Hx bh (st, arr)).map Prod.fst) MI.m)).hC rfl)) rfl ?_; refine tl_q (y_move rfl) rfl ?_; refine tl_q (y_add rfl rfl (by omega)) rfl ?_; refine tl_e (e_callQ2 (H1 := HqT Hx bh (st2, arr2.set (0 + Int.toNat (i : Int) * 1) (p.lo + j))) (Hn := fun q : Bool × σ × List Int => HqT Hx bh q.2) [(b8, _)] rfl rfl (.cons rfl .nil) rfl (fun w' hw' => hih w' _ _ (k + (genR b p (s.ps.drop (i + 1)) (arr.take i) j).length) st2 hw' hst.1 hI2 (hxj (by omega) j _ (by omega) hst.2))) rfl (fun q hq => ?_); refine tl_q (y_not rfl) rfl ?_; refine tl_nil ?_; ((refine hK16 ?_; try (clear hK16; clear K16)))
                all_goals (
                 refine tc_cond rfl (fun hc => ?_) (fun hc => ?_)
                 · try simp only [qn1, qn2, qn3, qn4, qn5, qn6, qn7, qn8] at hc
                   all_goals refine tc_seq fun K17 hK17 => ?_; refine tc_region ?_; refine tl_q (y_assign rfl) rfl ?_; refine tl_nil ?_; ((refine hK17 ?_; try (clear hK17; clear K17)))
                   all_goals refine tc_ret ?_; (repeat (first | refine tk_then_ret ?_ | refine tk_block_ret ?_))
                   all_goals (refine tk_ret rfl rfl (.cons (.tmp rfl) .nil) ?_)
                   all_goals (
                    first
                    | (have hI4 : I (k + (genT b (p :: s.ps.drop (i + 1)) (arr.take i)).length) st2 := by
                         obtain rfl : j = (p.hi - p.lo + 1).toNat := by omega
                         rw [hgp (by omega)]; exact hI2
                       exact fun w' hw' => ⟨(true, st2, arr2), rfl, hw'.fr (w0 := w) (S := (HqT Hx bh (st, arr)).map Prod.fst) MI.m, ⟨hal2, hta2, .inl ⟨rfl, hI4⟩⟩, (hw'.subl (bs' := [(w, (HqT Hx bh (st, arr)).map Prod.fst)]) (H' := HqT Hx bh (st2, arr2)) SB.s SB.s).knS MI.m⟩)
                    | exact fun w' hw' => ⟨(false, q.2), rfl, hw'.fr (w0 := w) (S := (HqT Hx bh (st, arr)).map Prod.fst) MI.m, ⟨hq.1, hdn _ _ _ hst.2 hq.2.1, .inr ⟨rfl, (hq.2.2.resolve_left (fun h => by rw [h.1] at hc; cases hc)).2⟩⟩, (hw'.subl (bs' := [(w, (HqT Hx bh (st, arr)).map Prod.fst)]) (H' := HqT Hx bh q.2) SB.s SB.s).knS MI.m⟩
                    | exact fun w' hw' => ⟨q, rfl, hw'.fr (w0 := w) (S := (HqT Hx bh (st, arr)).map Prod.fst) MI.m, ⟨hq.1, hdn _ _ _ hst.2 hq.2.1, by rw [hgn]; exact hq.2.2⟩, (hw'.subl (bs' := [(w, (HqT Hx bh (st, arr)).map Prod.fst)]) (H' := HqT Hx bh q.2) SB.s SB.s).knS MI.m⟩)
                 · try simp only [qn1, qn2, qn3, qn4, qn5, qn6, qn7, qn8] at hc
                   all_goals refine tc_skip ?_; ((refine hK14 ?_; try (clear hK14; clear K14)))
                   all_goals refine tc_region ?_; refine tl_q (y_move rfl) rfl ?_; refine tl_q (y_add rfl rfl (by omega)) rfl ?_; refine tl_q (y_assign rfl) rfl ?_; refine tl_nil ?_
                   all_goals (
                    have hI3 := (hq.2.2.resolve_right (fun h => by rw [h.1] at hc; cases hc)).2
                    rw [hst.2] at hI3
                    exact tk_round (j + 1, q.2) ⟨by dsimp only; omega, hq.1, hdn _ _ _ hst.2 hq.2.1, by dsimp only; rw [genR_succ, List.length_append, ← Nat.add_assoc]; exact hI3⟩ (by dsimp only; omega) (.cons rfl (.cons rfl (.cons rfl (.cons rfl (.cons rfl (.cons rfl (.cons rfl (.cons (by dsimp only; rw [show p.lo + ((j + 1 : Nat) : Int) = p.lo + j + 1 from by omega]; rfl) .nil)))))))) (fun _ h => h.subl SB.s SB.s)))
              · try simp only [qn1, qn2, qn3, qn4, qn5, qn6, qn7, qn8] at hc
                all_goals refine tc_exit ?_; ((refine hK10 ?_; try (clear hK10; clear K10)))
                all_goals refine tc_seq fun K18 hK18 => ?_; refine tc_region ?_; refine tl_q (y_assign rfl) rfl ?_; refine tl_nil ?_; ((refine hK18 ?_; try (clear hK18; clear K18)))
                all_goals refine tc_ret ?_; (repeat (first | refine tk_then_ret ?_))
                all_goals (refine tk_ret rfl rfl (.cons (.tmp rfl) .nil) ?_)
                all_goals (
                 first
                 | (have hI4 : I (k + (genT b (p :: s.ps.drop (i + 1)) (arr.take i)).length) st2 := by
                      obtain rfl : j = (p.hi - p.lo + 1).toNat := by omega
                      rw [hgp (by omega)]; exact hI2
                    exact fun w' hw' => ⟨(true, st2, arr2), rfl, hw'.fr (w0 := w) (S := (HqT Hx bh (st, arr)).map Prod.fst) MI.m, ⟨hal2, hta2, .inl ⟨rfl, hI4⟩⟩, (hw'.subl (bs' := [(w, (HqT Hx bh (st, arr)).map Prod.fst)]) (H' := HqT Hx bh (st2, arr2)) SB.s SB.s).knS MI.m⟩)
                 | exact fun w' hw' => ⟨(false, q.2), rfl, hw'.fr (w0 := w) (S := (HqT Hx bh (st, arr)).map Prod.fst) MI.m, ⟨hq.1, hdn _ _ _ hst.2 hq.2.1, .inr ⟨rfl, (hq.2.2.resolve_left (fun h => by rw [h.1] at hc; cases hc)).2⟩⟩, (hw'.subl (bs' := [(w, (HqT Hx bh (st, arr)).map Prod.fst)]) (H' := HqT Hx bh q.2) SB.s SB.s).knS MI.m⟩
                 | exact fun w' hw' => ⟨q, rfl, hw'.fr (w0 := w) (S := (HqT Hx bh (st, arr)).map Prod.fst) MI.m, ⟨hq.1, hdn _ _ _ hst.2 hq.2.1, by rw [hgn]; exact hq.2.2⟩, (hw'.subl (bs' := [(w, (HqT Hx bh (st, arr)).map Prod.fst)]) (H' := HqT Hx bh q.2) SB.s SB.s).knS MI.m⟩)))))
end Go.Sp
/-
  Package dispute: by how much nodes are apart; conclusions.
-/
namespace Go.Sp
open Go Go.Proofs
abbrev apO (g : List Int) : Obj := .cells (isV g) 106 (0, 0)
theorem cellG {g : List Int} (hg : g.length = 16) {u v : Int} (hu : 0 ≤ u ∧ u < 4) (hv : 0 ≤ v ∧ v < 4) {e : TypeId} {f : Nat × Nat} : cellAt (.cells (isV g) e f) (0 + Int.toNat u * 4 + Int.toNat v * 1) = some (vi (gAt g u.toNat v.toNat)) := by
  simp only [cellAt, lget_eq]
  unfold gAt isV
  rw [show 0 + Int.toNat u * 4 + Int.toNat v * 1 = u.toNat * 4 + v.toNat by omega, List.getElem?_map, List.getElem?_eq_getElem (by omega), List.getD_eq_getElem?_getD, List.getElem?_eq_getElem (by omega)]
  rfl
theorem e_storeG {P : Program} {N : NN} {F : List (Nat × Value)} {bs : List (World × List Nat)} {H : List (Nat × Obj)} {ty : TypeId} {pos : String} {after : Array Edge} {g : Option (Nat × Bool)} {t : TypeId} {z : Value} [h : TyOne P t z] {x y : Operand} {b o : Nat} (i : Nat) {v : Int} {l : List Int} {e : TypeId} {H' : List (Nat × Obj)}
    (hx : evalO F x = some (.pointer (some ⟨b, o, none⟩))) (hy : evalO F y = some (vi v)) (ho : o = i) (hlt : i < l.length)
    (hu : HU b (.cells (isV l) e (0, 0)) (.cells (isV (l.set i v)) e (0, 0)) H H') :
    OpE P ⟨none, .store t x y, ty, pos, after, g⟩ N F bs H (fun _ : Unit => True) (fun _ => F) (fun _ => bs) (fun _ => H') := by
  subst ho
  exact e_store1g hx hy rfl rfl (by rw [isV_size]; exact hlt) (by rw [isV_set]; exact hu)
theorem dleast_c (g : List Int) (hg : g.length = 16) (u v n : Int) (hu : 0 ≤ u ∧ u < 4) (hv : 0 ≤ v ∧ v < 4) (ba : Nat) (w : World) (hb : w.heap[ba]? = some (apO g)) :
    CnX Tryz.prog 78 #[ptr ba, vi u, vi v, vi n] w [ba] (fun _ : Unit => .tuple #[]) (fun _ w' => True ∧ w'.heap[ba]? = some (apO (gLst g u.toNat v.toNat n))) := by
  refine cnxS (vs := [_, _, _, _]) (S := [ba]) [(ba, apO g)] Tryz.func78 rfl rfl ⟨by simp [hb], by simp, by simp⟩ ?_
  all_goals refine tc_draw (by kernel_rfl) ?_; refine tx_p 0 rfl (by kernel_rfl) (y_move rfl) rfl (fun _ _ _ h => h) (fun _ h => h) ?_; refine tx_p 1 rfl (by kernel_rfl) (y_move rfl) rfl (fun _ _ _ h => h) (fun _ h => h) ?_; refine tx_p 2 rfl (by kernel_rfl) (y_move rfl) rfl (fun _ _ _ h => h) (fun _ h => h) ?_; refine tx_p 3 rfl (by kernel_rfl) (y_move rfl) rfl (fun _ _ _ h => h) (fun _ h => h) ?_; refine tx_p 4 rfl (by kernel_rfl) (y_move rfl) rfl (fun _ _ _ h => h) (fun _ h => h) ?_; refine tx_p 5 rfl (by kernel_rfl) (y_move rfl) rfl (fun _ _ _ h => h) (fun _ h => h) ?_; refine tx_p 6 rfl (by kernel_rfl) (y_nil rfl) rfl (fun _ _ _ h => h) (fun _ h => h) ?_; refine tx_p 7 rfl (by kernel_rfl) (y_indexA rfl rfl (by omega)) rfl (fun _ _ _ h => h) (fun _ h => h) ?_; refine tx_p 8 rfl (by kernel_rfl) (y_indexA rfl rfl (by omega)) rfl (fun _ _ _ h => h) (fun _ h => h) ?_; refine tx_q 9 rfl (by kernel_rfl) (y_load1 (v := vi (gAt g u.toNat v.toNat)) rfl (by repeat constructor) (cellG hg hu hv)) rfl (fun _ _ _ h => h) (fun _ h => h) ?_; refine tx_p 10 rfl (by kernel_rfl) (y_move rfl) rfl (fun _ _ _ h => h) (fun _ h => h) ?_; refine tx_p 13 rfl (by kernel_rfl) (y_nil rfl) rfl (fun _ _ _ h => h) (fun _ h => h) ?_; refine tx_p 14 rfl (by kernel_rfl) (y_indexA rfl rfl (by omega)) rfl (fun _ _ _ h => h) (fun _ h => h) ?_; (refine tx_e 11 rfl (by kernel_rfl) rfl (e_bslice rfl (by (repeat (first | exact .nil | apply PV.one rfl rfl)); done) rfl rfl) (.inr qq1) (fun _ _ => ?_))
  all_goals refine tx_e 12 rfl (by kernel_rfl) rfl (e_callV rfl (.cons rfl .nil) (fun w' hw' => dmin_c _ _ _ w' (RdI.own0 (xs := [_, _]) hw' (by repeat constructor)))) (.inr fun _ _ h => h) (fun _ _ => ?_); refine tx_p 15 rfl (by kernel_rfl) (y_indexA rfl rfl (by omega)) rfl (fun _ _ _ h => h) (fun _ h => h) ?_; refine tx_e 16 rfl (by kernel_rfl) rfl (e_storeG (l := g) (u.toNat * 4 + v.toNat) rfl rfl (by omega) (by omega) (by repeat constructor)) (.inl (by kernel_rfl)) (fun _ _ => ?_); refine tx_done (by kernel_rfl) ?_; refine tk_end rfl rfl .nil ?_
  all_goals (
   exact fun w' hw' => ⟨(), rfl, hw'.fr (w0 := w) (S := [ba]) MI.m, trivial, hw'.at (b := ba) (by repeat constructor)⟩)
theorem dbetween_c (g : List Int) (hg : g.length = 16) (u v lo hi : Int) (hu : 0 ≤ u ∧ u < 4) (hv : 0 ≤ v ∧ v < 4) (hlo : -100000 ≤ lo ∧ lo ≤ 100000) (ba : Nat) (w : World) (hb : w.heap[ba]? = some (apO g)) :
    CnX Tryz.prog 48 #[ptr ba, vi u, vi v, .agg #[vi lo, vi hi]] w [ba] (fun _ : Unit => .tuple #[]) (fun _ w' => True ∧ w'.heap[ba]? = some (apO (gBtw g u.toNat v.toNat lo hi))) := by
  refine cnxS (vs := [_, _, _, _]) (S := [ba]) [(ba, apO g)] Tryz.func48 rfl rfl ⟨by simp [hb], by simp, by simp⟩ ?_
  all_goals refine tc_seq fun K1 hK1 => ?_; refine tc_region ?_; refine tl_e (e_box rfl rfl rfl) rfl (fun b7 _ => ?_); refine tl_nil ?_; ((refine hK1 ?_; try (clear hK1; clear K1)))
  all_goals refine tc_seq fun K2 hK2 => ?_; refine tc_region ?_; refine tl_q (y_move rfl) rfl ?_; refine tl_q (y_move rfl) rfl ?_; refine tl_q (y_move rfl) rfl ?_; refine tl_q (y_field rfl) rfl ?_; refine tl_q (y_load1 rfl (by repeat constructor) (by rfl)) rfl ?_; refine tl_e (e_callU rfl (.cons rfl (.cons rfl (.cons rfl (.cons rfl .nil)))) (fun w' hw' => dleast_c g hg u v hi hu hv ba w' (hw'.at (b := ba) (by repeat constructor))) (fun _ => (by repeat constructor))) rfl (fun _ _ => ?_); refine tl_nil ?_; ((refine hK2 ?_; try (clear hK2; clear K2)))
  all_goals refine tc_region ?_; refine tl_q (y_move rfl) rfl ?_; refine tl_q (y_move rfl) rfl ?_; refine tl_q (y_move rfl) rfl ?_; refine tl_q (y_field rfl) rfl ?_; refine tl_q (y_load1 rfl (by repeat constructor) (by rfl)) rfl ?_; refine tl_q (y_neg rfl (by omega)) rfl ?_; refine tl_e (e_callU rfl (.cons rfl (.cons rfl (.cons rfl (.cons rfl .nil)))) (fun w' hw' => dleast_c (gLst g u.toNat v.toNat hi) (by rw [gLst_len, hg]) v u (-lo) hv hu ba w' (hw'.at (b := ba) (by repeat constructor))) (fun _ => (by repeat constructor))) rfl (fun _ _ => ?_); refine tl_nil ?_; refine tk_end rfl rfl .nil ?_
  all_goals (
   exact fun w' hw' => ⟨(), rfl, hw'.fr (w0 := w) (S := [ba]) MI.m, trivial, hw'.at (b := ba) (by repeat constructor)⟩)
theorem dbounds_c (g : List Int) (hg : g.length = 16) (hge : gGe g gMax) (s : Int) (hs : 0 ≤ s ∧ s ≤ 2) (ba : Nat) (w : World) (hb : w.heap[ba]? = some (apO g)) :
    CnV Tryz.prog 33 #[ptr ba, vi s] w (.agg #[vi (-(gAt g (s + 1).toNat 0)), vi (gAt g 0 (s + 1).toNat)]) := by
  have h1 := hge (s + 1).toNat 0 (by omega) (by omega)
  have h2 := hge 0 (s + 1).toNat (by omega) (by omega)
  unfold gMax at h1 h2
  refine cnv (vs := [_, _]) Tryz.func33 rfl rfl ?_
  all_goals refine tc_seq fun K1 hK1 => ?_; refine tc_region ?_; refine tl_e (e_allocN rfl) rfl (fun b4 _ => ?_); refine tl_nil ?_; ((refine hK1 ?_; try (clear hK1; clear K1)))
  all_goals refine tc_seq fun K2 hK2 => ?_; refine tc_draw (by kernel_rfl) ?_; refine tx_p 0 rfl (by kernel_rfl) (y_move rfl) rfl (fun _ _ _ h => h) (fun _ h => h) ?_; refine tx_p 1 rfl (by kernel_rfl) (y_move rfl) rfl (fun _ _ _ h => h) (fun _ h => h) ?_; refine tx_p 2 rfl (by kernel_rfl) (y_add rfl rfl (by omega)) rfl (fun _ _ _ h => h) (fun _ h => h) ?_; refine tx_p 3 rfl (by kernel_rfl) (y_nil rfl) rfl (fun _ _ _ h => h) (fun _ h => h) ?_; refine tx_p 4 rfl (by kernel_rfl) (y_indexA rfl rfl (by omega)) rfl (fun _ _ _ h => h) (fun _ h => h) ?_; refine tx_p 5 rfl (by kernel_rfl) (y_indexA rfl rfl (by omega)) rfl (fun _ _ _ h => h) (fun _ h => h) ?_; refine tx_q 6 rfl (by kernel_rfl) (y_load1o (v := vi (gAt g (s + 1).toNat 0)) rfl (fun w' hw' => cellAt_cell? ((hw'.fr (w0 := w) (S := []) MI.m).keep hb) (cellG (u := s + 1) (v := 0) hg (by omega) (by omega)))) rfl (fun _ _ _ h => h) (fun _ h => h) ?_; refine tx_p 7 rfl (by kernel_rfl) (y_neg rfl (by omega)) rfl (fun _ _ _ h => h) (fun _ h => h) ?_; refine tx_p 8 rfl (by kernel_rfl) (y_move rfl) rfl (fun _ _ _ h => h) (fun _ h => h) ?_; refine tx_p 9 rfl (by kernel_rfl) (y_move rfl) rfl (fun _ _ _ h => h) (fun _ h => h) ?_; refine tx_p 10 rfl (by kernel_rfl) (y_add rfl rfl (by omega)) rfl (fun _ _ _ h => h) (fun _ h => h) ?_; refine tx_p 11 rfl (by kernel_rfl) (y_nil rfl) rfl (fun _ _ _ h => h) (fun _ h => h) ?_; refine tx_p 12 rfl (by kernel_rfl) (y_indexA rfl rfl (by omega)) rfl (fun _ _ _ h => h) (fun _ h => h) ?_; refine tx_p 13 rfl (by kernel_rfl) (y_indexA rfl rfl (by omega)) rfl (fun _ _ _ h => h) (fun _ h => h) ?_; refine tx_q 14 rfl (by kernel_rfl) (y_load1o (v := vi (gAt g 0 (s + 1).toNat)) rfl (fun w' hw' => cellAt_cell? ((hw'.fr (w0 := w) (S := []) MI.m).keep hb) (cellG (u := 0) (v := s + 1) hg (by omega) (by omega)))) rfl (fun _ _ _ h => h) (fun _ h => h) ?_; refine tx_p 15 rfl (by kernel_rfl) (y_build_g (by repeat constructor)) rfl (fun _ _ _ h => h) (fun _ h => h) ?_; refine tx_e 16 rfl (by kernel_rfl) rfl (e_storeW rfl rfl (by repeat constructor) (by rfl) (by rfl) (by simp [Value.oneCell'])) (.inl (by kernel_rfl)) (fun _ _ => ?_); refine tx_done (by kernel_rfl) ?_; ((refine hK2 ?_; try (clear hK2; clear K2)))
  all_goals refine tc_ret ?_; (repeat (first | refine tk_then_ret ?_))
  all_goals (refine tk_ret rfl rfl (.cons (.agg inferInstance rfl (by repeat constructor) (by rfl)) .nil) ?_)
  all_goals (
   exact fun w' hw' => ⟨rfl, hw'.fr (w0 := w) (S := []) MI.m⟩)
theorem gTo_zero (g : List Int) (x u : Nat) : gTo g x u 0 = g := rfl
theorem gFrom_zero (g : List Int) (x : Nat) : gFrom g x 0 = g := rfl
theorem gRnd_zero (g : List Int) : gRnd g 0 = g := rfl
theorem dvia_c (g : List Int) (hg : g.length = 16) (x u v : Nat) (hu : u < 4) (hv : v < 4) (ba : Nat) (w : World) (hb : w.heap[ba]? = some (apO g)) :
    CnX Tryz.prog 78 #[ptr ba, vi u, vi v, vi (gAt g u x + gAt g x v)] w [ba] (fun _ : Unit => .tuple #[]) (fun _ w' => True ∧ w'.heap[ba]? = some (apO (gVia g x u v))) :=
  dleast_c g hg u v _ (by omega) (by omega) ba w hb
theorem gOkB_no {g : List Int} {n : Nat} (hn : n < 4) (h : gAt g n n < 0) : gOkB g = false := by
  cases hg : gOkB g
  · rfl
  · have := gOkB_iff.1 hg n hn; omega
theorem gOkB_yes {g : List Int} (h : ∀ n, n < 4 → 0 ≤ gAt g n n) : gOkB g = true := gOkB_iff.2 h
set_option maxHeartbeats 600000 in
theorem dclose_c (g : List Int) (hg : g.length = 16) (hge : gGe g 2000) (ba : Nat) (w : World) (hb : w.heap[ba]? = some (apO g)) :
    CnX Tryz.prog 51 #[ptr ba] w [ba] (fun _ : Unit => .bool (gOkB (gCls g 4))) (fun _ w' => True ∧ w'.heap[ba]? = some (apO (gCls g 4))) := by
  have l1 : ∀ r, (gCls g r).length = 16 := fun r => by rw [gCls_len, hg]
  have l2 : ∀ r x, (gRnd (gCls g r) x).length = 16 := fun r x => by rw [gRnd_len, l1]
  have l3 : ∀ r x u, (gFrom (gRnd (gCls g r) x) x u).length = 16 := fun r x u => by rw [gFrom_len, l2]
  have l4 : ∀ r x u v, (gTo (gFrom (gRnd (gCls g r) x) x u) x u v).length = 16 := fun r x u v => by rw [gTo_len, l3]
  refine cnxS (vs := [_]) (S := [ba]) [(ba, apO g)] Tryz.func51 rfl rfl ⟨by simp [hb], by simp, by simp⟩ ?_
  all_goals refine tc_seq fun K1 hK1 => ?_; refine tc_region ?_; refine tl_q (y_assign rfl) rfl ?_; refine tl_nil ?_; ((refine hK1 ?_; try (clear hK1; clear K1)))
  all_goals (
   refine tc_join (fun _ : Unit => True) (fun _ => [(0, ptr ba)]) (fun _ => [(w, [ba])]) (fun _ => [(ba, apO (gCls g 4))]) ?_ ?_
   · skip
     all_goals refine tc_seq fun K2 hK2 => ?_; refine tc_region ?_; refine tl_q (y_move rfl) rfl ?_; refine tl_nil ?_; ((refine hK2 ?_; try (clear hK2; clear K2)))
     all_goals refine tc_block ?_
     all_goals (
      refine tc_loop (fun r : Nat => r ≤ 4) (fun r => [(0, ptr ba), (8, vi r)]) (fun _ => [(w, [ba])]) (fun r => [(ba, apO (gCls g r))]) (fun r => 4 - r) ?_ ?_
      · exact tk_start 0 (by omega) (.cons rfl (.cons rfl .nil)) (fun _ h => by rw [gCls_zero]; exact h.subl SB.s SB.s)
      · rintro r hr
        all_goals refine tc_seq fun K3 hK3 => ?_; refine tc_region ?_; refine tl_q (y_lss rfl rfl) rfl ?_; refine tl_nil ?_; ((refine hK3 ?_; try (clear hK3; clear K3)))
        all_goals refine tc_seq fun K4 hK4 => ?_
        all_goals (
         refine tc_cond rfl (fun hc => ?_) (fun hc => ?_)
         · try simp only [qn1, qn2, qn3, qn4, qn5, qn6, qn7, qn8] at hc
           all_goals refine tc_skip ?_; ((refine hK4 ?_; try (clear hK4; clear K4)))
           all_goals refine tc_seq fun K5 hK5 => ?_; refine tc_block ?_; refine tc_seq fun K6 hK6 => ?_; refine tc_region ?_; refine tl_q (y_move rfl) rfl ?_; refine tl_q (y_nil rfl) rfl ?_; refine tl_q (y_loadW rfl (by repeat constructor) (by first | rw [isV_size, gRnd_len, gCls_len, hg] | rw [isV_size, gCls_len, hg])) rfl ?_; refine tl_e (e_allocN rfl) rfl (fun b3 _ => ?_); refine tl_e (e_storeW rfl rfl (by repeat constructor) (by rw [isV_size, gCls_len, hg]) (by rfl) (isV_oneD _)) rfl (fun _ _ => ?_); refine tl_nil ?_; ((refine hK6 ?_; try (clear hK6; clear K6)))
           all_goals refine tc_seq fun K7 hK7 => ?_; refine tc_seq fun K8 hK8 => ?_; refine tc_region ?_; refine tl_q (y_move rfl) rfl ?_; refine tl_nil ?_; ((refine hK8 ?_; try (clear hK8; clear K8)))
           all_goals refine tc_block ?_
           all_goals (
            refine tc_loop (fun x : Nat => x ≤ 4) (fun x => [(0, ptr ba), (3, ptr b3), (8, vi r), (13, vi x)]) (fun _ => [(w, [ba])]) (fun x => [(b3, apO (gCls g r)), (ba, apO (gRnd (gCls g r) x))]) (fun x => 4 - x) ?_ ?_
            · exact tk_start 0 (by omega) (.cons rfl (.cons rfl (.cons rfl (.cons rfl .nil)))) (fun _ h => by rw [gRnd_zero]; exact h.subl SB.s SB.s)
            · rintro x hx
              all_goals refine tc_seq fun K9 hK9 => ?_; refine tc_region ?_; refine tl_q (y_lss rfl rfl) rfl ?_; refine tl_nil ?_; ((refine hK9 ?_; try (clear hK9; clear K9)))
              all_goals refine tc_seq fun K10 hK10 => ?_
              all_goals (
               refine tc_cond rfl (fun hc => ?_) (fun hc => ?_)
               · try simp only [qn1, qn2, qn3, qn4, qn5, qn6, qn7, qn8] at hc
                 all_goals refine tc_skip ?_; ((refine hK10 ?_; try (clear hK10; clear K10)))
                 all_goals refine tc_seq fun K11 hK11 => ?_; refine tc_block ?_; refine tc_seq fun K12 hK12 => ?_; refine tc_region ?_; refine tl_q (y_move rfl) rfl ?_; refine tl_q (y_assign rfl) rfl ?_; refine tl_nil ?_; ((refine hK12 ?_; try (clear hK12; clear K12)))
                 all_goals refine tc_seq fun K13 hK13 => ?_; refine tc_region ?_; refine tl_q (y_move rfl) rfl ?_; refine tl_nil ?_; ((refine hK13 ?_; try (clear hK13; clear K13)))
                 all_goals refine tc_block ?_
                 all_goals (
                  refine tc_loop (fun u : Nat => u ≤ 4) (fun u => [(0, ptr ba), (3, ptr b3), (8, vi r), (13, vi x), (4, vi x), (16, vi u)]) (fun _ => [(w, [ba])]) (fun u => [(b3, apO (gCls g r)), (ba, apO (gFrom (gRnd (gCls g r) x) x u))]) (fun u => 4 - u) ?_ ?_
                  · exact tk_start 0 (by omega) (.cons rfl (.cons rfl (.cons rfl (.cons rfl (.cons rfl (.cons rfl .nil)))))) (fun _ h => by rw [gFrom_zero]; exact h.subl SB.s SB.s)
                  · rintro u hu
                    all_goals refine tc_seq fun K14 hK14 => ?_; refine tc_region ?_; refine tl_q (y_lss rfl rfl) rfl ?_; refine tl_nil ?_; ((refine hK14 ?_; try (clear hK14; clear K14)))
                    all_goals refine tc_seq fun K15 hK15 => ?_
                    all_goals (
                     refine tc_cond rfl (fun hc => ?_) (fun hc => ?_)
                     · try simp only [qn1, qn2, qn3, qn4, qn5, qn6, qn7, qn8] at hc
                       all_goals refine tc_skip ?_; ((refine hK15 ?_; try (clear hK15; clear K15)))
                       all_goals refine tc_seq fun K16 hK16 => ?_; refine tc_block ?_; refine tc_seq fun K17 hK17 => ?_; refine tc_region ?_; refine tl_q (y_move rfl) rfl ?_; refine tl_q (y_assign rfl) rfl ?_; refine tl_nil ?_; ((refine hK17 ?_; try (clear hK17; clear K17)))
                       all_goals refine tc_seq fun K18 hK18 => ?_; refine tc_region ?_; refine tl_q (y_move rfl) rfl ?_; refine tl_nil ?_; ((refine hK18 ?_; try (clear hK18; clear K18)))
                       all_goals refine tc_block ?_
                       all_goals (
                        refine tc_loop (fun v : Nat => v ≤ 4) (fun v => [(0, ptr ba), (3, ptr b3), (8, vi r), (13, vi x), (4, vi x), (16, vi u), (5, vi u), (19, vi v)]) (fun _ => [(w, [ba])]) (fun v => [(b3, apO (gCls g r)), (ba, apO (gTo (gFrom (gRnd (gCls g r) x) x u) x u v))]) (fun v => 4 - v) ?_ ?_
                        · exact tk_start 0 (by omega) (.cons rfl (.cons rfl (.cons rfl (.cons rfl (.cons rfl (.cons rfl (.cons rfl (.cons rfl .nil)))))))) (fun _ h => by rw [gTo_zero]; exact h.subl SB.s SB.s)
                        · rintro v hv
                          all_goals refine tc_seq fun K19 hK19 => ?_; refine tc_region ?_; refine tl_q (y_lss rfl rfl) rfl ?_; refine tl_nil ?_; ((refine hK19 ?_; try (clear hK19; clear K19)))
                          all_goals refine tc_seq fun K20 hK20 => ?_
                          all_goals (
                           refine tc_cond rfl (fun hc => ?_) (fun hc => ?_)
                           · try simp only [qn1, qn2, qn3, qn4, qn5, qn6, qn7, qn8] at hc
                             all_goals refine tc_skip ?_; ((refine hK20 ?_; try (clear hK20; clear K20)))
                             all_goals refine tc_seq fun K21 hK21 => ?_; refine tc_block ?_; refine tc_seq fun K22 hK22 => ?_; refine tc_region ?_; refine tl_q (y_move rfl) rfl ?_; refine tl_q (y_assign rfl) rfl ?_; refine tl_nil ?_; ((refine hK22 ?_; try (clear hK22; clear K22)))
                             all_goals ((have hge2 := gAll_ge hg hge (r := r) (x := x) (u := u) (j := v) (by omega) (by omega) (by omega) (by omega); have q1 := hge2 u x (by omega) (by omega); have q2 := hge2 x v (by omega) (by omega); unfold gMax at q1 q2))
                             all_goals refine tc_drawS ([(b3, apO (gCls g r))]) (by kernel_rfl) ?_; refine tx_p 0 rfl (by kernel_rfl) (y_move rfl) rfl (fun _ _ _ h => h) (fun _ h => h.subl SB.s SB.s) ?_; refine tx_p 1 rfl (by kernel_rfl) (y_move rfl) rfl (fun _ _ _ h => h) (fun _ h => h.subl SB.s SB.s) ?_; refine tx_p 2 rfl (by kernel_rfl) (y_move rfl) rfl (fun _ _ _ h => h) (fun _ h => h.subl SB.s SB.s) ?_; refine tx_p 3 rfl (by kernel_rfl) (y_move rfl) rfl (fun _ _ _ h => h) (fun _ h => h.subl SB.s SB.s) ?_; refine tx_p 4 rfl (by kernel_rfl) (y_move rfl) rfl (fun _ _ _ h => h) (fun _ h => h.subl SB.s SB.s) ?_; refine tx_p 5 rfl (by kernel_rfl) (y_move rfl) rfl (fun _ _ _ h => h) (fun _ h => h.subl SB.s SB.s) ?_; refine tx_p 6 rfl (by kernel_rfl) (y_nil rfl) rfl (fun _ _ _ h => h) (fun _ h => h.subl SB.s SB.s) ?_; refine tx_p 7 rfl (by kernel_rfl) (y_indexA rfl rfl (by omega)) rfl (fun _ _ _ h => h) (fun _ h => h.subl SB.s SB.s) ?_; refine tx_p 8 rfl (by kernel_rfl) (y_indexA rfl rfl (by omega)) rfl (fun _ _ _ h => h) (fun _ h => h.subl SB.s SB.s) ?_; refine tx_p 10 rfl (by kernel_rfl) (y_move rfl) rfl (fun _ _ _ h => h) (fun _ h => h.subl SB.s SB.s) ?_; refine tx_p 11 rfl (by kernel_rfl) (y_move rfl) rfl (fun _ _ _ h => h) (fun _ h => h.subl SB.s SB.s) ?_; refine tx_p 12 rfl (by kernel_rfl) (y_move rfl) rfl (fun _ _ _ h => h) (fun _ h => h.subl SB.s SB.s) ?_; refine tx_p 13 rfl (by kernel_rfl) (y_nil rfl) rfl (fun _ _ _ h => h) (fun _ h => h.subl SB.s SB.s) ?_; refine tx_p 14 rfl (by kernel_rfl) (y_indexA rfl rfl (by omega)) rfl (fun _ _ _ h => h) (fun _ h => h.subl SB.s SB.s) ?_; refine tx_p 15 rfl (by kernel_rfl) (y_indexA rfl rfl (by omega)) rfl (fun _ _ _ h => h) (fun _ h => h.subl SB.s SB.s) ?_
                             all_goals (
                              refine tx_pair 9 16 (by kernel_rfl) ?_ ?_
                              rotate_left
                              focus (
                               (refine to_e rfl rfl (e_y rfl (y_load1 (v := vi (gAt (gTo (gFrom (gRnd (gCls g r) x) x u) x u v) x v)) rfl (by repeat constructor) (cellG (u := (x : Int)) (v := (v : Int)) (l4 r x u v) (by omega) (by omega)))) (.inr ⟨fun _ _ h => h.subl SB.s SB.s, fun _ h => h⟩) (fun _ _ => ?_))
                               all_goals (refine tx_single 9 (by kernel_rfl) (to_e rfl rfl (e_y rfl (y_load1 (v := vi (gAt (gTo (gFrom (gRnd (gCls g r) x) x u) x u v) u x)) rfl (by repeat constructor) (cellG (u := (u : Int)) (v := (x : Int)) (l4 r x u v) (by omega) (by omega)))) (.inr ⟨fun _ _ h => h.subl SB.s SB.s, fun _ h => h⟩) (fun _ _ => ?_))); refine tx_p 17 rfl (by kernel_rfl) (y_add rfl rfl (by omega)) rfl (fun _ _ _ h => h) (fun _ h => h.subl SB.s SB.s) ?_; refine tx_single 18 (by kernel_rfl) (to_e rfl rfl (e_callU rfl (.cons rfl (.cons rfl (.cons rfl (.cons rfl .nil)))) (fun w' hw' => dvia_c (gTo (gFrom (gRnd (gCls g r) x) x u) x u v) (l4 r x u v) x u v (by omega) (by omega) ba w' (hw'.at (b := ba) (by repeat constructor))) (fun _ => (by repeat constructor))) (.inr ⟨fun _ _ h => h.subl SB.s SB.s, fun _ h => h⟩) (fun _ _ => ?_))
                               all_goals refine tx_done (by kernel_rfl) ?_)
                              rotate_right
                              focus (
                               (refine to_e rfl rfl (e_y rfl (y_load1 (v := vi (gAt (gTo (gFrom (gRnd (gCls g r) x) x u) x u v) u x)) rfl (by repeat constructor) (cellG (u := (u : Int)) (v := (x : Int)) (l4 r x u v) (by omega) (by omega)))) (.inr ⟨fun _ _ h => h.subl SB.s SB.s, fun _ h => h⟩) (fun _ _ => ?_))
                               all_goals (refine tx_single 16 (by kernel_rfl) (to_e rfl rfl (e_y rfl (y_load1 (v := vi (gAt (gTo (gFrom (gRnd (gCls g r) x) x u) x u v) x v)) rfl (by repeat constructor) (cellG (u := (x : Int)) (v := (v : Int)) (l4 r x u v) (by omega) (by omega)))) (.inr ⟨fun _ _ h => h.subl SB.s SB.s, fun _ h => h⟩) (fun _ _ => ?_))); refine tx_p 17 rfl (by kernel_rfl) (y_add rfl rfl (by omega)) rfl (fun _ _ _ h => h) (fun _ h => h.subl SB.s SB.s) ?_; refine tx_single 18 (by kernel_rfl) (to_e rfl rfl (e_callU rfl (.cons rfl (.cons rfl (.cons rfl (.cons rfl .nil)))) (fun w' hw' => dvia_c (gTo (gFrom (gRnd (gCls g r) x) x u) x u v) (l4 r x u v) x u v (by omega) (by omega) ba w' (hw'.at (b := ba) (by repeat constructor))) (fun _ => (by repeat constructor))) (.inr ⟨fun _ _ h => h.subl SB.s SB.s, fun _ h => h⟩) (fun _ _ => ?_))
                               all_goals refine tx_done (by kernel_rfl) ?_))
                             all_goals ((refine hK21 ?_; try (clear hK21; clear K21)))
                             all_goals refine tc_region ?_; refine tl_q (y_add rfl rfl (by omega)) rfl ?_; refine tl_q (y_move rfl) rfl ?_; refine tl_nil ?_
                             all_goals (
                              exact tk_round (v + 1) (by omega) (by omega) (.cons rfl (.cons rfl (.cons rfl (.cons rfl (.cons rfl (.cons rfl (.cons rfl (.cons rfl .nil)))))))) (fun _ h => by rw [gTo_succ]; exact h.subl SB.s SB.s))
                           · try simp only [qn1, qn2, qn3, qn4, qn5, qn6, qn7, qn8] at hc
                             all_goals refine tc_exit ?_; ((refine hK16 ?_; try (clear hK16; clear K16)))
                             all_goals refine tc_region ?_; refine tl_q (y_add rfl rfl (by omega)) rfl ?_; refine tl_q (y_move rfl) rfl ?_; refine tl_nil ?_
                             all_goals (
                              obtain rfl : v = 4 := by omega
                              exact tk_round (u + 1) (by omega) (by omega) (.cons rfl (.cons rfl (.cons rfl (.cons rfl (.cons rfl (.cons rfl .nil)))))) (fun _ h => by rw [gFrom_succ]; exact h.subl SB.s SB.s))))
                     · try simp only [qn1, qn2, qn3, qn4, qn5, qn6, qn7, qn8] at hc
                       all_goals refine tc_exit ?_; ((refine hK11 ?_; try (clear hK11; clear K11)))
                       all_goals refine tc_region ?_; refine tl_q (y_add rfl rfl (by omega)) rfl ?_; refine tl_q (y_move rfl) rfl ?_; refine tl_nil ?_
                       all_goals (
                        obtain rfl : u = 4 := by omega
                        exact tk_round (x + 1) (by omega) (by omega) (.cons rfl (.cons rfl (.cons rfl (.cons rfl .nil)))) (fun _ h => by rw [gRnd_succ]; exact h.subl SB.s SB.s))))
               · try simp only [qn1, qn2, qn3, qn4, qn5, qn6, qn7, qn8] at hc
                 all_goals refine tc_exit ?_; ((refine hK7 ?_; try (clear hK7; clear K7)))
                 all_goals refine tc_seq fun K23 hK23 => ?_; (obtain rfl : x = 4 := by omega)
                 all_goals refine tc_draw (by kernel_rfl) ?_; refine tx_p 0 rfl (by kernel_rfl) (y_move rfl) rfl (fun _ _ _ h => h) (fun _ h => h) ?_; refine tx_p 1 rfl (by kernel_rfl) (y_nil rfl) rfl (fun _ _ _ h => h) (fun _ h => h) ?_; refine tx_q 2 rfl (by kernel_rfl) (y_loadW rfl (by repeat constructor) (by first | rw [isV_size, gRnd_len, gCls_len, hg] | rw [isV_size, gCls_len, hg])) rfl (fun _ _ _ h => h) (fun _ h => h) ?_; refine tx_q 3 rfl (by kernel_rfl) (y_loadW rfl (by repeat constructor) (by first | rw [isV_size, gRnd_len, gCls_len, hg] | rw [isV_size, gCls_len, hg])) rfl (fun _ _ _ h => h) (fun _ h => h) ?_; refine tx_p 4 rfl (by kernel_rfl) (y_eqlF eqF106 (by decide) (by kernel_rfl) rfl rfl (l2 r 4) (l1 r)) rfl (fun _ _ _ h => h) (fun _ h => h) ?_; refine tx_done (by kernel_rfl) ?_; ((refine hK23 ?_; try (clear hK23; clear K23)))
                 all_goals (
                  refine tc_cond rfl (fun hc => ?_) (fun hc => ?_)
                  · try simp only [qn1, qn2, qn3, qn4, qn5, qn6, qn7, qn8] at hc
                    all_goals refine tc_exit ?_
                    all_goals (
                     first
                     | (have hst : gRnd (gCls g r) 4 = gCls g r := hc
                        have h4 := gCls_stop hst (4 - r)
                        have h5 : r + (4 - r) = 4 := by omega
                        rw [h5] at h4
                        rw [h4, hst]
                        exact tk_start () trivial (.cons rfl .nil) (fun _ h => h.subl SB.s SB.s))
                     | (have h6 : r = 4 := by omega
                        subst h6
                        exact tk_start () trivial (.cons rfl .nil) (fun _ h => h.subl SB.s SB.s)))
                  · try simp only [qn1, qn2, qn3, qn4, qn5, qn6, qn7, qn8] at hc
                    all_goals refine tc_skip ?_; ((refine hK5 ?_; try (clear hK5; clear K5)))
                    all_goals refine tc_region ?_; refine tl_q (y_add rfl rfl (by omega)) rfl ?_; refine tl_q (y_move rfl) rfl ?_; refine tl_nil ?_
                    all_goals (
                     exact tk_round (r + 1) (by omega) (by omega) (.cons rfl (.cons rfl .nil)) (fun _ h => by rw [gCls_succ]; exact h.subl SB.s SB.s)))))
         · try simp only [qn1, qn2, qn3, qn4, qn5, qn6, qn7, qn8] at hc
           all_goals refine tc_exit ?_
           all_goals (
            first
            | (have hst : gRnd (gCls g r) 4 = gCls g r := hc
               have h4 := gCls_stop hst (4 - r)
               have h5 : r + (4 - r) = 4 := by omega
               rw [h5] at h4
               rw [h4, hst]
               exact tk_start () trivial (.cons rfl .nil) (fun _ h => h.subl SB.s SB.s))
            | (have h6 : r = 4 := by omega
               subst h6
               exact tk_start () trivial (.cons rfl .nil) (fun _ h => h.subl SB.s SB.s)))))
   · rintro ⟨⟩ -
     all_goals refine tc_seq fun K24 hK24 => ?_; refine tc_seq fun K25 hK25 => ?_; refine tc_region ?_; refine tl_q (y_move rfl) rfl ?_; refine tl_nil ?_; ((refine hK25 ?_; try (clear hK25; clear K25)))
     all_goals refine tc_block ?_
     all_goals (
      refine tc_loop (fun n : Nat => n ≤ 4 ∧ ∀ m, m < n → 0 ≤ gAt (gCls g 4) m m) (fun n => [(0, ptr ba), (50, vi n)]) (fun _ => [(w, [ba])]) (fun _ => [(ba, apO (gCls g 4))]) (fun n => 4 - n) ?_ ?_
      · exact tk_start 0 ⟨by omega, fun m hm => absurd hm (Nat.not_lt_zero m)⟩ (.cons rfl (.cons rfl .nil)) (fun _ h => h.subl SB.s SB.s)
      · rintro n ⟨hn, hm⟩
        all_goals refine tc_seq fun K26 hK26 => ?_; refine tc_region ?_; refine tl_q (y_lss rfl rfl) rfl ?_; refine tl_nil ?_; ((refine hK26 ?_; try (clear hK26; clear K26)))
        all_goals refine tc_seq fun K27 hK27 => ?_
        all_goals (
         refine tc_cond rfl (fun hc => ?_) (fun hc => ?_)
         · try simp only [qn1, qn2, qn3, qn4, qn5, qn6, qn7, qn8] at hc
           all_goals refine tc_skip ?_; ((refine hK27 ?_; try (clear hK27; clear K27)))
           all_goals refine tc_seq fun K28 hK28 => ?_; refine tc_block ?_; refine tc_seq fun K29 hK29 => ?_; refine tc_region ?_; refine tl_q (y_move rfl) rfl ?_; refine tl_q (y_assign rfl) rfl ?_; refine tl_nil ?_; ((refine hK29 ?_; try (clear hK29; clear K29)))
           all_goals refine tc_seq fun K30 hK30 => ?_; refine tc_region ?_; refine tl_q (y_move rfl) rfl ?_; refine tl_q (y_move rfl) rfl ?_; refine tl_q (y_move rfl) rfl ?_; refine tl_q (y_nil rfl) rfl ?_; refine tl_q (y_indexA rfl rfl (by omega)) rfl ?_; refine tl_q (y_indexA rfl rfl (by omega)) rfl ?_; refine tl_q (y_load1 (v := vi (gAt (gCls g 4) n n)) rfl (by repeat constructor) (cellG (u := (n : Int)) (v := (n : Int)) (l1 4) (by omega) (by omega))) rfl ?_; refine tl_q (y_lss rfl rfl) rfl ?_; refine tl_nil ?_; ((refine hK30 ?_; try (clear hK30; clear K30)))
           all_goals (
            refine tc_cond rfl (fun hc => ?_) (fun hc => ?_)
            · try simp only [qn1, qn2, qn3, qn4, qn5, qn6, qn7, qn8] at hc
              all_goals refine tc_seq fun K31 hK31 => ?_; refine tc_region ?_; refine tl_q (y_assign rfl) rfl ?_; refine tl_nil ?_; ((refine hK31 ?_; try (clear hK31; clear K31)))
              all_goals refine tc_ret ?_; (repeat (first | refine tk_then_ret ?_ | refine tk_block_ret ?_))
              all_goals (refine tk_ret rfl rfl (.cons (.tmp rfl) .nil) ?_)
              all_goals (
               first
               | exact fun w' hw' => ⟨(), by rw [gOkB_no (n := n) (by omega) (by omega)]; rfl, hw'.fr (w0 := w) (S := [ba]) MI.m, trivial, hw'.at (b := ba) (by repeat constructor)⟩
               | exact fun w' hw' => ⟨(), by rw [gOkB_yes (fun m hmm => hm m (by omega))]; rfl, hw'.fr (w0 := w) (S := [ba]) MI.m, trivial, hw'.at (b := ba) (by repeat constructor)⟩)
            · try simp only [qn1, qn2, qn3, qn4, qn5, qn6, qn7, qn8] at hc
              all_goals refine tc_skip ?_; ((refine hK28 ?_; try (clear hK28; clear K28)))
              all_goals refine tc_region ?_; refine tl_q (y_add rfl rfl (by omega)) rfl ?_; refine tl_q (y_move rfl) rfl ?_; refine tl_nil ?_
              all_goals (
               exact tk_round (n + 1) ⟨by omega, fun m hm' => by rcases Nat.lt_succ_iff_lt_or_eq.1 hm' with h | rfl; exact hm m h; omega⟩ (by omega) (.cons rfl (.cons rfl .nil)) (fun _ h => h.subl SB.s SB.s)))
         · try simp only [qn1, qn2, qn3, qn4, qn5, qn6, qn7, qn8] at hc
           all_goals refine tc_exit ?_; ((refine hK24 ?_; try (clear hK24; clear K24)))
           all_goals refine tc_seq fun K32 hK32 => ?_; refine tc_region ?_; refine tl_q (y_assign rfl) rfl ?_; refine tl_nil ?_; ((refine hK32 ?_; try (clear hK32; clear K32)))
           all_goals refine tc_ret ?_; (repeat (first | refine tk_then_ret ?_))
           all_goals (refine tk_ret rfl rfl (.cons (.tmp rfl) .nil) ?_)
           all_goals (
            first
            | exact fun w' hw' => ⟨(), by rw [gOkB_no (n := n) (by omega) (by omega)]; rfl, hw'.fr (w0 := w) (S := [ba]) MI.m, trivial, hw'.at (b := ba) (by repeat constructor)⟩
            | exact fun w' hw' => ⟨(), by rw [gOkB_yes (fun m hmm => hm m (by omega))]; rfl, hw'.fr (w0 := w) (S := [ba]) MI.m, trivial, hw'.at (b := ba) (by repeat constructor)⟩))))
end Go.Sp
/-
  Package dispute: the facts but some.
-/
namespace Go.Sp
open Go Go.Proofs
/-- The facts but some, of the first ones. -/
def keptF (fs : List Fct) (out : List Int) : Nat → List Fct
  | 0 => []
  | k + 1 => if (k : Int) ∈ out then keptF fs out k else keptF fs out k ++ [fs.getD k fct0]
theorem keptF_in {fs : List Fct} {out : List Int} {k : Nat} (h : (k : Int) ∈ out) : keptF fs out (k + 1) = keptF fs out k := if_pos h
theorem keptF_no {fs : List Fct} {out : List Int} {k : Nat} (h : ¬ (k : Int) ∈ out) : keptF fs out (k + 1) = keptF fs out k ++ [fs.getD k fct0] := if_neg h
theorem keptF_get {fs : List Fct} {out : List Int} {k : Nat} (h : ¬ (k : Int) ∈ out) : ∀ n, k < n → (keptF fs out n)[(keptF fs out k).length]? = some (fs.getD k fct0)
  | 0, hk => absurd hk (Nat.not_lt_zero k)
  | n + 1, hk => by
    rcases Nat.lt_succ_iff_lt_or_eq.1 hk with hk | rfl
    · have ih := keptF_get (fs := fs) h n hk
      have hl := (List.getElem?_eq_some_iff.1 ih).1
      by_cases e : (n : Int) ∈ out
      · rw [keptF_in e]; exact ih
      · rw [keptF_no e, List.getElem?_append_left hl]; exact ih
    · rw [keptF_no h, List.getElem?_append_right (Nat.le_refl _), Nat.sub_self]; rfl
theorem keptF_mem {fs : List Fct} {out : List Int} : ∀ n x, x ∈ keptF fs out n → ∃ i, i < n ∧ x = fs.getD i fct0
  | 0, x, h => by cases h
  | n + 1, x, h => by
    by_cases e : (n : Int) ∈ out
    · rw [keptF_in e] at h
      obtain ⟨i, hi, hx⟩ := keptF_mem n x h
      exact ⟨i, by omega, hx⟩
    · rw [keptF_no e] at h
      rcases List.mem_append.1 h with h | h
      · obtain ⟨i, hi, hx⟩ := keptF_mem n x h
        exact ⟨i, by omega, hx⟩
      · exact ⟨n, by omega, List.mem_singleton.1 h⟩
abbrev pbO (b : Nat) : Obj := .cells #[ptr b] 108 (0, 0)
abbrev slO (v : Value) : Obj := .cells #[v] 27 (0, 0)
theorem cells1 {v : Value} (h : v.oneCell' = true) : v.cells = #[v] := by
  cases v <;> first | rfl | cases h
theorem dkept_c (bw : Nat) (ov : Value) (h1 : ov.oneCell' = true) (w : World) :
    CnX Tryz.prog 49 #[ptr bw, ov] w [] (fun q : Nat × Nat => .func (.func 79) #[] #[ptr q.1, ptr q.2])
      (fun q w' => True ∧ (∀ p ∈ [(q.2, slO ov), (q.1, pbO bw)], w.heap.size ≤ p.1 ∧ w'.heap[p.1]? = some p.2) ∧ ([(q.2, slO ov), (q.1, pbO bw)].map Prod.fst).Nodup) := by
  refine cnx0 (vs := [_, _]) Tryz.func49 rfl rfl ?_
  all_goals refine tc_seq fun K1 hK1 => ?_; refine tc_region ?_; refine tl_e (e_box rfl rfl rfl) rfl (fun b2 _ => ?_); refine tl_e (e_box rfl (cells1 h1) rfl) rfl (fun b3 _ => ?_); refine tl_q (y_assign rfl) rfl ?_; refine tl_nil ?_; ((refine hK1 ?_; try (clear hK1; clear K1)))
  all_goals refine tc_seq fun K2 hK2 => ?_; refine tc_region ?_; refine tl_q (y_fn .nil (.cons rfl (.cons rfl .nil))) rfl ?_; refine tl_q (y_assign rfl) rfl ?_; refine tl_nil ?_; ((refine hK2 ?_; try (clear hK2; clear K2)))
  all_goals refine tc_ret ?_; (repeat (first | refine tk_then_ret ?_))
  all_goals (refine tk_ret rfl rfl (.cons (.tmp rfl) .nil) ?_)
  all_goals (
   refine fun w' hw' => ⟨(b2, b3), rfl, hw'.fr (w0 := w) (S := []) MI.m, trivial, fun p hp => ?_, ?_⟩
   · rcases List.mem_cons.1 hp with rfl | hp
     · exact ⟨(hw'.own _ (HM.mem (b := b3) (by repeat constructor)) (w, []) (by simp)).resolve_left (by simp), hw'.heap _ (HM.mem (b := b3) (by repeat constructor))⟩
     · obtain rfl := List.mem_singleton.1 hp
       exact ⟨(hw'.own _ (HM.mem (b := b2) (by repeat constructor)) (w, []) (by simp)).resolve_left (by simp), hw'.heap _ (HM.mem (b := b2) (by repeat constructor))⟩
   · have := hw'.nodup
     exact this)
def encF (f : Fct) : List Value := [fcV f]
set_option maxHeartbeats 2000000 in
theorem kept_seq (d : Dsp) (hf6 : d.fs.length ≤ 6) (out : List Int) (hout : out.length ≤ 20) (wv mv vv lv fv ov : Value) (bw bm : Nat) (w : World) (b2 b3 : Nat) (S0 : List Nat) (h2 : w.heap[b2]? = some (pbO bw)) (hb2 : b2 ∉ S0) (h3 : w.heap[b3]? = some (slO ov)) (hb3 : b3 ∉ S0) (hw : w.heap[bw]? = some (wkP d wv mv vv lv fv bm)) (hbw : bw ∉ S0)
    (hrf : ∀ w', Fr S0 w w' → RdS 6 fcE w' fv d.fs) (hro : ∀ w', Fr S0 w w' → RdI w' ov out) :
    Seq Tryz.prog 79 #[ptr b2, ptr b3] encF (keptF d.fs out d.fs.length) S0 w := by
  intro σ l0 S Hx I J s0 w1 f0 hS hK0 h0 hY
  have hnS : ∀ x, x ∉ S0 → x < w.heap.size → x ∉ S := fun x hx hl hm => (hS x hm).elim hx (fun g => by omega)
  have n2 := hnS b2 hb2 (lt_ofB h2)
  have n3 := hnS b3 hb3 (lt_ofB h3)
  have nw := hnS bw hbw (lt_ofB hw)
  have g2 := f0.keep h2
  have g3 := f0.keep h3
  have gw := f0.keep hw
  have hb : ∀ {w'}, Fr S w1 w' → Fr S0 w w' := fun f => f0.mono (fun x hx => by simp at hx) |>.trans f (fun x hx => hS x hx)
  have hrf1 : ∀ w', Fr S w1 w' → RdS 6 fcE w' fv d.fs := fun w' f => hrf w' (hb f)
  have hro1 : ∀ w', Fr S w1 w' → RdI w' ov out := fun w' f => hro w' (hb f)
  obtain ⟨af, cf, bf, of, rfl, hadf, hcf⟩ := (hrf1 w1 (Fr.refl _ _)).open fcE_len fct0
  have hcf1 : ∀ w', Fr S w1 w' → ∀ i, i < d.fs.length → CA (fun n => w'.cell? ⟨bf, n, none⟩) (of + i * 6) 6 (fcE (d.fs.getD i fct0)) := fun w' f i hi => by
    obtain ⟨af', cf', bf', of', he, hadf', hcf'⟩ := (hrf1 w' f).open fcE_len fct0
    have h1 := hadf (by omega)
    have h2 := hadf' (by omega)
    injection he with he1 he2 he3
    subst he1
    rw [h1] at h2
    injection h2 with h2
    injection h2 with h2 h3
    subst h2; subst h3
    exact hcf' w' [] (Fr.refl _ _) (by simp) i hi
  rw [show (#[.func (.yield l0) #[] #[]] ++ #[ptr b2, ptr b3] : Array Value) = #[.func (.yield l0) #[] #[], ptr b2, ptr b3] from by simp]
  refine cnxS (vs := [_, _, _]) (S := S) (Hx s0) Tryz.func79 rfl rfl ⟨hK0.kn, hK0.nd, hK0.memB⟩ ?_
  all_goals refine tc_seq fun K1 hK1 => ?_; refine tc_region ?_; refine tl_q (y_load1o (v := ptr bw) rfl (fun w' hw' => cell0 ((hw'.fr (w0 := w1) (S := S) MI.m).keepS n2 g2) rfl)) rfl ?_; refine tl_q (y_nil rfl) rfl ?_; refine tl_q (y_field rfl) rfl ?_; refine tl_q (y_field rfl) rfl ?_; refine tl_q (y_load1o (v := .slice af d.fs.length cf) rfl (fun w' hw' => cell0 ((hw'.fr (w0 := w1) (S := S) MI.m).keepS nw gw) rfl)) rfl ?_; refine tl_q (y_len rfl) rfl ?_; refine tl_q (y_move rfl) rfl ?_; refine tl_nil ?_; ((refine hK1 ?_; try (clear hK1; clear K1)))
  all_goals refine tc_block ?_
  all_goals (
   refine tc_loop (fun x : Nat × σ => x.1 ≤ d.fs.length ∧ I (keptF d.fs out x.1).length x.2) (fun x => [(0, .func (.yield l0) #[] #[]), (1, ptr b2), (2, ptr b3), (10, .slice af d.fs.length cf), (11, vi d.fs.length), (12, vi x.1)]) (fun _ => [(w1, S)]) (fun x => Hx x.2) (fun x => d.fs.length - x.1) ?_ ?_
   · exact tk_start (0, s0) ⟨Nat.zero_le _, h0⟩ (.cons rfl (.cons rfl (.cons rfl (.cons rfl (.cons rfl (.cons rfl .nil)))))) (fun _ h => h)
   · rintro ⟨k, st⟩ ⟨hkl, hI⟩
     dsimp only at hkl hI ⊢
     all_goals refine tc_seq fun K2 hK2 => ?_; refine tc_region ?_; refine tl_q (y_lss rfl rfl) rfl ?_; refine tl_nil ?_; ((refine hK2 ?_; try (clear hK2; clear K2)))
     all_goals refine tc_seq fun K3 hK3 => ?_
     all_goals (
      refine tc_cond rfl (fun hc => ?_) (fun hc => ?_)
      · try simp only [qn1, qn2, qn3, qn4, qn5, qn6, qn7, qn8] at hc
        all_goals refine tc_skip ?_; ((refine hK3 ?_; try (clear hK3; clear K3)))
        all_goals refine tc_seq fun K4 hK4 => ?_; refine tc_block ?_; refine tc_seq fun K5 hK5 => ?_; refine tc_region ?_; refine tl_q (y_move rfl) rfl ?_; refine tl_q (y_index rfl rfl (by omega) (hadf (by omega))) rfl ?_; ((refine tl_q (y_loadNo (n := 6) (vs := [vi (d.fs.getD k fct0).p, vi (d.fs.getD k fct0).s, vi (d.fs.getD k fct0).wl, vi (d.fs.getD k fct0).wh, vi (d.fs.getD k fct0).ml, vi (d.fs.getD k fct0).mh]) rfl (fun w' hw' => by rw [show Int.toNat (k : Int) * 6 = k * 6 from by omega]; exact hcf1 w' (hw'.fr (w0 := w1) (S := S) MI.m) k (by omega))) rfl ?_))
        all_goals refine tl_e (e_allocN rfl) rfl (fun b5 _ => ?_); refine tl_q (y_assign rfl) rfl ?_; refine tl_e (e_storeW rfl rfl (by repeat constructor) (by rfl) (by rfl) (by simp [Value.oneCell'])) rfl (fun _ _ => ?_); refine tl_nil ?_; ((refine hK5 ?_; try (clear hK5; clear K5)))
        all_goals refine tc_seq fun K6 hK6 => ?_; refine tc_region ?_; refine tl_q (y_load1o (v := ov) rfl (fun w' hw' => cell0 ((hw'.fr (w0 := w1) (S := S) MI.m).keepS n3 g3) rfl)) rfl ?_; refine tl_q (y_move rfl) rfl ?_; refine tl_e (e_callV rfl (.cons rfl (.cons rfl .nil)) (fun w' hw' => contains_c out (by omega) k _ w' (hro1 w' (hw'.fr (w0 := w1) (S := S) MI.m)))) rfl (fun _ _ => ?_); refine tl_q (y_not_dec rfl) rfl ?_; refine tl_q (y_move rfl) rfl ?_; ((refine tl_gs rfl rfl (fun hc => ?_) (fun hc => ?_) <;> (try simp only [qn1, qn2, qn3, qn4, qn5, qn6, qn7, qn8] at hc) <;> (first | refine tl_sk rfl rfl rfl rfl ?_ | refine tl_qg rfl rfl (y_move rfl) rfl ?_)))
        all_goals (first | refine tl_sk rfl rfl rfl rfl ?_ | refine tl_qg rfl rfl (y_loadW rfl (by repeat constructor) (by rfl)) rfl ?_); (first | refine tl_sk rfl rfl rfl rfl ?_ | refine tl_rg rfl rfl (e_yieldF [(b5, .cells #[vi (d.fs.getD k fct0).p, vi (d.fs.getD k fct0).s, vi (d.fs.getD k fct0).wl, vi (d.fs.getD k fct0).wh, vi (d.fs.getD k fct0).ml, vi (d.fs.getD k fct0).mh] 82 (0, 0))] (keptF d.fs out k).length st (d.fs.getD k fct0) rfl rfl rfl (.cons rfl .nil) rfl (keptF_get (by assumption) _ (by omega)) hI hY MI.m rfl) (fun y hy => ?_)); (first | refine tl_sk rfl rfl rfl rfl ?_ | refine tl_qg rfl rfl (y_not rfl) rfl ?_); (first | refine tl_q (y_pick_t rfl rfl) rfl ?_ | refine tl_q (y_pick_f rfl rfl) rfl ?_); refine tl_nil ?_; ((refine hK6 ?_; try (clear hK6; clear K6)))
        all_goals (
         refine tc_cond rfl (fun hc => ?_) (fun hc => ?_)
         · try simp only [qn1, qn2, qn3, qn4, qn5, qn6, qn7, qn8] at hc
           all_goals ((first | (exfalso; with_reducible exact bft hc) | skip))
           all_goals refine tc_ret ?_; (repeat (first | refine tk_then_ret ?_ | refine tk_block_ret ?_))
           all_goals (refine tk_ret rfl rfl .nil ?_)
           all_goals (
            first
            | (rcases hy with hy | hy
               · rw [hy.1] at hc; cases hc
               · exact fun w' hw' => ⟨y.2, rfl, hw'.fr (w0 := w1) (S := S) MI.m, (hw'.subl (SB.s SB.refl) (SB.s (SB.one SB.refl))).knS MI.m, .inr hy.2⟩)
            | (have hke : k = d.fs.length := by omega
               subst hke
               exact fun w' hw' => ⟨st, rfl, hw'.fr (w0 := w1) (S := S) MI.m, hw'.knS MI.m, .inl hI⟩))
         · try simp only [qn1, qn2, qn3, qn4, qn5, qn6, qn7, qn8] at hc
           all_goals refine tc_skip ?_; ((refine hK4 ?_; try (clear hK4; clear K4)))
           all_goals refine tc_region ?_; refine tl_q (y_add rfl rfl (by omega)) rfl ?_; refine tl_q (y_move rfl) rfl ?_; refine tl_nil ?_
           all_goals (
            first
            | (have hin : (k : Int) ∈ out := by assumption
               exact tk_round (k + 1, st) ⟨by dsimp only; omega, by dsimp only; rw [keptF_in hin]; exact hI⟩ (by dsimp only; omega) (.cons rfl (.cons rfl (.cons rfl (.cons rfl (.cons rfl (.cons rfl .nil)))))) (fun _ h => h.subl SB.s SB.s))
            | (have hno : ¬ (k : Int) ∈ out := by assumption
               rcases hy with hy | hy
               · exact tk_round (k + 1, y.2) ⟨by dsimp only; omega, by dsimp only; rw [keptF_no hno, List.length_append, List.length_singleton]; exact hy.2⟩ (by dsimp only; omega) (.cons rfl (.cons rfl (.cons rfl (.cons rfl (.cons rfl (.cons rfl .nil)))))) (fun _ h => h.subl SB.s SB.s)
               · rw [hy.1] at hc; cases hc)))
      · try simp only [qn1, qn2, qn3, qn4, qn5, qn6, qn7, qn8] at hc
        all_goals refine tc_exit ?_; refine tk_end rfl rfl .nil ?_
        all_goals (
         first
         | (rcases hy with hy | hy
            · rw [hy.1] at hc; cases hc
            · exact fun w' hw' => ⟨y.2, rfl, hw'.fr (w0 := w1) (S := S) MI.m, (hw'.subl (SB.s SB.refl) (SB.s (SB.one SB.refl))).knS MI.m, .inr hy.2⟩)
         | (have hke : k = d.fs.length := by omega
            subst hke
            exact fun w' hw' => ⟨st, rfl, hw'.fr (w0 := w1) (S := S) MI.m, hw'.knS MI.m, .inl hI⟩))))
end Go.Sp
/-
  Package dispute: what all links, and all facts but some, say.
-/
namespace Go.Sp
open Go Go.Proofs
/-- The grid, while it is filled. -/
def gIni (n : Nat) : List Int := (List.range 16).map fun i => if i < n ∧ i / 4 ≠ i % 4 then 2000 else 0
theorem gIni_len (n : Nat) : (gIni n).length = 16 := by simp [gIni]
theorem gIni_zero : gIni 0 = List.replicate 16 0 := by decide
theorem gIni_end : gIni 16 = gZero := by decide
theorem gIni_ne {u v : Nat} (hu : u < 4) (hv : v < 4) (h : u ≠ v) : (gIni (4 * u + v)).set (u * 4 + v) 2000 = gIni (4 * u + v + 1) := by
  rcases (show u = 0 ∨ u = 1 ∨ u = 2 ∨ u = 3 by omega) with rfl | rfl | rfl | rfl <;> rcases (show v = 0 ∨ v = 1 ∨ v = 2 ∨ v = 3 by omega) with rfl | rfl | rfl | rfl <;> first | exact absurd rfl h | decide
theorem gIni_eq {u v : Nat} (hu : u < 4) (hv : v < 4) (h : u = v) : gIni (4 * u + v) = gIni (4 * u + v + 1) := by
  subst h
  rcases (show u = 0 ∨ u = 1 ∨ u = 2 ∨ u = 3 by omega) with rfl | rfl | rfl | rfl <;> decide
theorem gLnk_snoc (g : List Int) (l : List L4) (x : L4) : gLnk g (l ++ [x]) = gBtw (gLnk g l) (x.1.toNat + 1) (x.2.1.toNat + 1) x.2.2.1 x.2.2.2 := by simp [gLnk]
theorem gFct_snoc (g : List Int) (l : List F3) (x : F3) : gFct g (l ++ [x]) = gBtw (gFct g l) 0 (x.1.toNat + 1) x.2.1 x.2.2 := by simp [gFct]
theorem gLst_ge {g : List Int} (hg : g.length = 16) (h : gGe g 2000) {u v : Nat} {n : Int} (hu : u < 4) (hv : v < 4) (hn : -2000 ≤ n) : gGe (gLst g u v n) 2000 := fun u' v' hu' hv' => by
  have h1 := h u' v' hu' hv'
  have h2 := h u v hu hv
  rw [gAt_lst hg n hu hv hu' hv']
  by_cases e : u' = u ∧ v' = v
  · rw [if_pos e]; omega
  · rw [if_neg e]; exact h1
theorem gBtw_ge {g : List Int} (hg : g.length = 16) (h : gGe g 2000) {u v : Nat} {lo hi : Int} (hu : u < 4) (hv : v < 4) (h1 : -2000 ≤ hi) (h2 : lo ≤ 2000) : gGe (gBtw g u v lo hi) 2000 :=
  gLst_ge (by rw [gLst_len, hg]) (gLst_ge hg h hu hv h1) hv hu (by omega)
theorem gZero_ge : gGe gZero 2000 := by
  intro u v hu hv
  rcases (show u = 0 ∨ u = 1 ∨ u = 2 ∨ u = 3 by omega) with rfl | rfl | rfl | rfl <;> rcases (show v = 0 ∨ v = 1 ∨ v = 2 ∨ v = 3 by omega) with rfl | rfl | rfl | rfl <;> decide
theorem gSam_ge : ∀ k, k ≤ 3 → gGe (gSam gZero k) 2000
  | 0, _ => gZero_ge
  | k + 1, hk => by rw [gSam_succ]; exact gBtw_ge (by rw [gSam_len]; rfl) (gSam_ge k (by omega)) (by omega) (by omega) (by decide) (by decide)
theorem gLnk_ge {S : Int} (hS : S ≤ 3) : ∀ {l : List L4} {g : List Int}, g.length = 16 → gGe g 2000 → (∀ x ∈ l, LkOk S x) → gGe (gLnk g l) 2000
  | [], _, _, h, _ => h
  | x :: l, g, hg, h, hk => by
    have k := hk x (.head _)
    have a := k.a
    have b := k.b
    have c := k.d
    exact gLnk_ge hS (l := l) (by rw [gBtw_len, hg]) (gBtw_ge hg h (by omega) (by omega) (by omega) (by omega)) (fun z hz => hk z (.tail _ hz))
def F3Ok (x : F3) : Prop := (0 ≤ x.1 ∧ x.1 < 3) ∧ (0 ≤ x.2.1 ∧ x.2.1 ≤ 2000) ∧ 0 ≤ x.2.2 ∧ x.2.2 ≤ 2000
theorem gFct_ge : ∀ {l : List F3} {g : List Int}, g.length = 16 → gGe g 2000 → (∀ x ∈ l, F3Ok x) → gGe (gFct g l) 2000
  | [], _, _, h, _ => h
  | x :: l, g, hg, h, hk => by
    have k := hk x (.head _)
    unfold F3Ok at k
    exact gFct_ge (l := l) (by rw [gBtw_len, hg]) (gBtw_ge hg h (by omega) (by omega) (by omega) (by omega)) (fun z hz => hk z (.tail _ hz))
/-- The strengths that a fact says, of which sample. -/
noncomputable def f3D (t : Tab) (f : Fct) : F3 := (f.s, (meanD t f).1, (meanD t f).2)
theorem meanD_le {t : Tab} (hv : VTab t) {S P : Int} {f : Fct} (h : FcOk t S P f) : 0 ≤ (meanD t f).1 ∧ (meanD t f).1 ≤ (meanD t f).2 ∧ (meanD t f).2 ≤ 2000 := by
  have hm := h.m
  have e := bnd2_eq hv (p := f.wl) (lo := f.ml) (hi := f.mh) h.pt hm.2.1
  unfold meanD
  rw [← e]
  obtain ⟨k, hk⟩ : ∃ k : Nat, (f.mh - f.ml + 1).toNat = k + 1 := ⟨(f.mh - f.ml + 1).toNat - 1, by omega⟩
  rw [hk]
  exact bndF_le hv k (fun i hi => h.pt _ (by omega) (by omega))
theorem f3D_ok {t : Tab} (hv : VTab t) {S P : Int} (hS : S ≤ 3) {f : Fct} (h : FcOk t S P f) : F3Ok (f3D t f) := by
  have := meanD_le hv h
  have := h.s
  unfold F3Ok f3D
  dsimp only
  omega
theorem VDsp.kept {d : Dsp} (hv : VDsp d) {out : List Int} {n : Nat} (hn : n ≤ d.fs.length) : ∀ x ∈ keptF d.fs out n, FcOk d.t d.S d.P x := fun x hx => by
  obtain ⟨i, hi, rfl⟩ := keptF_mem n x hx
  exact hv.fc i (by omega)
theorem mem_getD {α : Type} {l : List α} {x d : α} (h : x ∈ l) : ∃ i, i < l.length ∧ x = l.getD i d := by
  obtain ⟨i, hi, rfl⟩ := List.getElem_of_mem h
  exact ⟨i, hi, by rw [List.getD_eq_getElem?_getD, List.getElem?_eq_getElem hi]; rfl⟩
noncomputable def gDsp (d : Dsp) (out : List Int) : List Int := gAll d.S.toNat d.ls ((keptF d.fs out d.fs.length).map (f3D d.t))
theorem gDsp_len (d : Dsp) (out : List Int) : (gDsp d out).length = 16 := gAll_len _ _ _
theorem gDsp_ge {d : Dsp} (hv : VDsp d) (out : List Int) : gGe (gDsp d out) 2000 := by
  have hs := hv.s
  refine gFct_ge (by rw [gLnk_len, gSam_len]; rfl) (gLnk_ge hs.2 (by rw [gSam_len]; rfl) (gSam_ge _ (by omega)) (fun x hx => ?_)) (fun x hx => ?_)
  · obtain ⟨i, hi, rfl⟩ := mem_getD (d := lk0) hx
    exact hv.lk i hi
  · obtain ⟨f, hf, rfl⟩ := List.mem_map.1 hx
    exact f3D_ok hv.t hs.2 (hv.kept (Nat.le_refl _) f hf)
noncomputable def aprG (d : Dsp) (out : List Int) : List Int := gCls (gDsp d out) 4
theorem aprG_len (d : Dsp) (out : List Int) : (aprG d out).length = 16 := by rw [aprG, gCls_len, gDsp_len]
theorem aprG_ge {d : Dsp} (hv : VDsp d) (out : List Int) : gGe (aprG d out) gMax := gClsAll_ge (gDsp_len d out) (gDsp_ge hv out) (by omega)
end Go.Sp
