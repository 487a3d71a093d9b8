
/-
  The reference's People and Verdict; SampleHolds.
-/
import Derived.Test.YtgfpkpiigkcndaaGreatM5
import Derived.Test.YtgfpkpiigkcndaaGreatRows
import Derived.ProofKit
import Derived.OpenShut
import Derived.Carry
import Derived.Deep.Fields
set_option linter.unusedVariables false
set_option linter.unusedSimpArgs false
set_option linter.deprecated false
namespace Go.Sp
open Go Go.Proofs
theorem rPeople_c (s : Smp) (hp : 0 ≤ s.P ∧ s.P ≤ 4) (l : List Bool) (hl : l.length = 4) (tv pv gv : Value) (hone : (tv.oneCell' = true ∧ pv.oneCell' = true) ∧ gv.oneCell' = true) (w : World) :
    CnX Tryz.prog 25 #[smV s tv pv gv, .agg (bsV l)] w [] (fun y : Option Addr × Nat => slV (pplL s l).length y) (fun y w' => RdS 1 inE w' (slV (pplL s l).length y) (pplL s l)) := by
  refine cnx0 (vs := [_, _]) Tryz.func25 rfl rfl ?_
  all_goals refine tc_seq fun K1 hK1 => ?_; refine tc_region ?_; refine tl_e (e_box rfl rfl rfl) rfl (fun b2 _ => ?_); refine tl_e (e_box rfl rfl rfl) rfl (fun b3 _ => ?_); refine tl_q (y_assign rfl) rfl ?_; refine tl_nil ?_; ((refine hK1 ?_; try (clear hK1; clear K1)))
  all_goals refine tc_seq fun K2 hK2 => ?_; refine tc_region ?_; refine tl_q (y_assign rfl) rfl ?_; refine tl_nil ?_; ((refine hK2 ?_; try (clear hK2; clear K2)))
  all_goals refine tc_seq fun K3 hK3 => ?_; refine tc_seq fun K4 hK4 => ?_; refine tc_region ?_; refine tl_q (y_assign rfl) rfl ?_; refine tl_nil ?_; ((refine hK4 ?_; try (clear hK4; clear K4)))
  all_goals refine tc_block ?_
  all_goals (
   refine tc_loop (fun p : Nat × OwnB => p.1 ≤ s.P.toNat ∧ okE 1 (pplN l p.1) p.2) (fun p => [(2, ptr b2), (3, ptr b3), (5, ouV (pplN l p.1).length p.2), (6, vi p.1)]) (fun _ => [(w, [])]) (fun p => (b3, .cells (bsV l) 41 (0, 0)) :: (b2, .cells #[vi s.B, vi s.P, vi s.L, vi s.F, tv, pv, gv] 26 (0, 0)) :: slE 3 inE (pplN l p.1) p.2) (fun p => s.P.toNat - p.1) ?_ ?_
   · exact tk_start (0, none) ⟨Nat.zero_le _, rfl⟩ (.cons rfl (.cons rfl (.cons rfl (.cons rfl .nil)))) (fun _ h => by rw [slE_none]; exact h.subl SB.s SB.s)
   · rintro ⟨k, oo⟩ ⟨hk, hok⟩
     dsimp only at hk hok ⊢
     have hkl := pplN_len l k
     all_goals refine tc_seq fun K5 hK5 => ?_; refine tc_seq fun K6 hK6 => ?_; refine tc_region ?_; refine tl_q (y_move rfl) rfl ?_; refine tl_q (y_field rfl) rfl ?_; refine tl_q (y_load1 rfl (by repeat constructor) (by rfl)) rfl ?_; refine tl_q (y_lss rfl rfl) rfl ?_; refine tl_nil ?_; ((refine hK6 ?_; try (clear hK6; clear K6)))
     all_goals (
      refine tc_cond rfl (fun hc => ?_) (fun hc => ?_)
      · try simp only [qn1, qn2, qn3, qn4, qn5, qn6, qn7, qn8] at hc
        all_goals refine tc_skip ?_; ((refine hK5 ?_; try (clear hK5; clear K5)))
        all_goals refine tc_seq fun K7 hK7 => ?_; refine tc_block ?_; refine tc_seq fun K8 hK8 => ?_; refine tc_region ?_; refine tl_q (y_move rfl) rfl ?_; refine tl_q (y_indexA rfl rfl (by omega)) rfl ?_; ((refine tl_q (y_load1 (v := .bool (l.getD k false)) rfl (by repeat constructor) (by rw [show 0 + Int.toNat (k : Int) * 1 = k from by omega]; exact cellAt_bs (by omega))) rfl ?_))
        all_goals refine tl_nil ?_; ((refine hK8 ?_; try (clear hK8; clear K8)))
        all_goals (
         refine tc_cond rfl (fun hc => ?_) (fun hc => ?_)
         · all_goals (skip)
           all_goals refine tc_region ?_; refine tl_q (y_move rfl) rfl ?_; refine tl_q (y_move rfl) rfl ?_; (refine tl_e (e_bslice rfl (by (repeat (first | exact .nil | apply PV.one rfl rfl)); done) rfl rfl) rfl (fun _ _ => ?_))
           all_goals (refine tl_e (e_appendE (enc := inE) (xs := pplN l k) (ys := [(k : Int)]) inE_len inE_one rfl rfl rfl hok (fun _ => by repeat constructor) (fun w' hw' => RdS.own0 inE_len hw' (by repeat constructor)) (by simp only [List.length_cons, List.length_nil]; omega) rfl) rfl (fun oo' hok' => ?_))
           all_goals refine tl_q (y_assign rfl) rfl ?_; refine tl_nil ?_; ((refine hK7 ?_; try (clear hK7; clear K7)))
           all_goals refine tc_region ?_; refine tl_q (y_move rfl) rfl ?_; refine tl_q (y_add rfl rfl (by omega)) rfl ?_; refine tl_q (y_assign rfl) rfl ?_; refine tl_nil ?_
           all_goals (
            first
            | (have hs := pplN_yes hc
               exact tk_round (k + 1, oo') ⟨by dsimp only; omega, by dsimp only; rw [hs]; exact hok'⟩ (by dsimp only; omega) (.cons rfl (.cons rfl (.cons (by dsimp only; rw [hs]; rfl) (.cons rfl .nil)))) (fun _ h => by dsimp only; rw [hs]; exact h.subl SB.s SB.s))
            | (have hs := pplN_no hc
               exact tk_round (k + 1, oo) ⟨by dsimp only; omega, by dsimp only; rw [hs]; exact hok⟩ (by dsimp only; omega) (.cons rfl (.cons rfl (.cons (by dsimp only; rw [hs]; rfl) (.cons rfl .nil)))) (fun _ h => by dsimp only; rw [hs]; exact h.subl SB.s SB.s)))
         · all_goals (skip)
           all_goals refine tc_skip ?_; ((refine hK7 ?_; try (clear hK7; clear K7)))
           all_goals refine tc_region ?_; refine tl_q (y_move rfl) rfl ?_; refine tl_q (y_add rfl rfl (by omega)) rfl ?_; refine tl_q (y_assign rfl) rfl ?_; refine tl_nil ?_
           all_goals (
            first
            | (have hs := pplN_yes hc
               exact tk_round (k + 1, oo') ⟨by dsimp only; omega, by dsimp only; rw [hs]; exact hok'⟩ (by dsimp only; omega) (.cons rfl (.cons rfl (.cons (by dsimp only; rw [hs]; rfl) (.cons rfl .nil)))) (fun _ h => by dsimp only; rw [hs]; exact h.subl SB.s SB.s))
            | (have hs := pplN_no hc
               exact tk_round (k + 1, oo) ⟨by dsimp only; omega, by dsimp only; rw [hs]; exact hok⟩ (by dsimp only; omega) (.cons rfl (.cons rfl (.cons (by dsimp only; rw [hs]; rfl) (.cons rfl .nil)))) (fun _ h => by dsimp only; rw [hs]; exact h.subl SB.s SB.s))))
      · try simp only [qn1, qn2, qn3, qn4, qn5, qn6, qn7, qn8] at hc
        all_goals refine tc_exit ?_; ((refine hK3 ?_; try (clear hK3; clear K3)))
        all_goals refine tc_seq fun K9 hK9 => ?_; refine tc_region ?_; refine tl_q (y_move rfl) rfl ?_; refine tl_q (y_assign rfl) rfl ?_; refine tl_nil ?_; ((refine hK9 ?_; try (clear hK9; clear K9)))
        all_goals refine tc_ret ?_; (repeat (first | refine tk_then_ret ?_))
        all_goals (refine tk_ret rfl rfl (.cons (.tmp rfl) .nil) ?_)
        all_goals (
         obtain rfl : k = s.P.toNat := by omega
         exact fun w' hw' => ⟨ouA oo, rfl, hw'.fr (w0 := w) (S := []) MI.m, RdS.ofO inE_len hok hw' (by repeat constructor)⟩)))
theorem akCA {w : World} {b : Nat} {q : Akd} {e : TypeId} {f : Nat × Nat} (hq : AkOk q) (h : w.heap[b]? = some (.cells (akL q).toArray e f)) : CA (fun k => w.cell? ⟨b, k, none⟩) 0 47 (akL q) := by
  have := CA_pre (akL q) [] e f
  rw [List.append_nil, akL_len hq] at this
  exact this.cells h
theorem akL_hol {q : Akd} (hq : AkOk q) {i m : Nat} (h : i + m ≤ 40) : ((akL q).drop i).take m = ((q.hol.drop i).take m).map Value.bool := by
  unfold akL
  rw [List.drop_append_of_le_length (by simp [hq.h]; omega), List.take_append_of_le_length (by simp [hq.h]; omega), List.map_take, List.map_drop]
theorem akL_opn {q : Akd} (hq : AkOk q) : ((akL q).drop 40).take 4 = q.opn.map Value.bool := by
  unfold akL
  rw [List.drop_left' (by simp [hq.h]), List.take_left' (by simp [hq.o])]
theorem ak_opn_at {w : World} {b : Nat} {q : Akd} {e : TypeId} {f : Nat × Nat} (hq : AkOk q) (h : w.heap[b]? = some (.cells (akL q).toArray e f)) : CA (fun k => w.cell? ⟨b, k, none⟩) (0 + 40) 4 (q.opn.map Value.bool) := by
  have := (akCA hq h).sub (akL_len hq) 40 4 (by omega)
  rw [akL_opn hq] at this
  exact this
theorem ak_hol_at {w : World} {b : Nat} {q : Akd} {e : TypeId} {f : Nat × Nat} (hq : AkOk q) (h : w.heap[b]? = some (.cells (akL q).toArray e f)) {i : Nat} (hi : i ≤ 9) : CA (fun k => w.cell? ⟨b, k, none⟩) (0 + i * 4) 4 (((q.hol.drop (i * 4)).take 4).map Value.bool) := by
  have := (akCA hq h).sub (akL_len hq) (i * 4) 4 (by omega)
  rw [akL_hol hq (by omega)] at this
  exact this
theorem asRF_ok {s : Smp} (hv : VSm s) (b : Int) : AkOk (asRF s b) := ⟨(asR_i hv (evT_ok hv)).h, (asR_i hv (evT_ok hv)).o⟩
theorem sureE_t {s : Smp} {fb : Bool} (h : fb = true) : sureE s fb = vdE s := by rw [h]
theorem sh_facts (s : Smp) (b h : Int) : (¬ chkS s = 0 → (hdE s b h = chkS s ∧ opE s b = chkS s) ∧ vdE s = chkS s) ∧ (chkS s = 0 → (1 ≤ s.B ∧ s.B ≤ 3) ∧ (¬ (0 ≤ b ∧ b ≤ s.B - 1) → hdE s b h = 2 ∧ opE s b = 2) ∧ ((0 ≤ b ∧ b ≤ s.B - 1) → opE s b = vdE s ∧ (¬ (0 ≤ h ∧ h ≤ s.L) → hdE s b h = 2) ∧ ((0 ≤ h ∧ h ≤ s.L) → hdE s b h = vdE s))) := by
  refine ⟨fun h0 => ⟨⟨if_pos h0, if_pos h0⟩, if_pos h0⟩, fun h0 => ⟨⟨(chkS_0.1 h0).b1, (chkS_0.1 h0).b3⟩, fun hb => ?_, fun hb => ⟨?_, fun hh => ?_, fun hh => ?_⟩⟩⟩
  · constructor
    · unfold hdE sureE
      rw [if_neg (fun g => g h0), if_pos (decide_eq_false (fun g => hb g.1))]
    · unfold opE sureE
      rw [if_neg (fun g => g h0), if_pos (decide_eq_false hb)]
  · exact sureE_t (decide_eq_true hb)
  · unfold hdE sureE
    rw [if_neg (fun g => g h0), if_pos (decide_eq_false (fun g => hh g.2))]
  · exact sureE_t (decide_eq_true ⟨hb, hh⟩)
theorem hdL_no {s : Smp} {b h : Int} (he : ¬ hdE s b h = 0) : (hdL s b h).length = 0 := by rw [show hdL s b h = [] from if_neg he]; rfl
theorem opL_no {s : Smp} {b : Int} (he : ¬ opE s b = 0) : (opL s b).length = 0 := by rw [show opL s b = [] from if_neg he]; rfl
theorem holdersI_c (s : Smp) (hf : Few s) (b h : Int) (tv pv gv : Value) (w : World) (hr : RdSm w s tv pv gv) :
    CnX Tryz.prog 17 #[smV s tv pv gv, vi b, vi h] w [] (fun y : Option Addr × Nat => .tuple #[slV (hdL s b h).length y, vi (hdE s b h)]) (fun y w' => RdI w' (slV (hdL s b h).length y) (hdL s b h)) :=
  (holders_c s hf b h tv pv gv w hr).imp id (fun _ => rfl) (fun _ h => h) (fun _ _ _ h => h.toI)
theorem openersI_c (s : Smp) (hf : Few s) (b : Int) (tv pv gv : Value) (w : World) (hr : RdSm w s tv pv gv) :
    CnX Tryz.prog 19 #[smV s tv pv gv, vi b] w [] (fun y : Option Addr × Nat => .tuple #[slV (opL s b).length y, vi (opE s b)]) (fun y w' => RdI w' (slV (opL s b).length y) (opL s b)) :=
  (openers_c s hf b tv pv gv w hr).imp id (fun _ => rfl) (fun _ h => h) (fun _ _ _ h => h.toI)
set_option maxHeartbeats 8000000 in
theorem sholds_c (s : Smp) (n1 n2 : Int) (w1 : -9223372036854775808 ≤ n1 ∧ n1 ≤ 9223372036854775807) (w2 : -9223372036854775808 ≤ n2 ∧ n2 ≤ 9223372036854775807) (tv pv gv : Value) (w : World) (hr : RdSm w s tv pv gv) :
    CnV Tryz.prog 3 #[smV s tv pv gv, vi n1, vi n2] w (.bool true) := by
  have hr0 := hr
  obtain ⟨adt, cpt, _, _, rfl, _, _⟩ := hr.st.open boE_len false
  obtain ⟨adp, cpp, _, _, rfl, _, _⟩ := hr.ps.open psE_len pas0
  obtain ⟨adg, cpg, _, _, rfl, _, _⟩ := hr.sg.open sgE_len sgt0
  refine cnv (vs := [_, _, _]) Tryz.func3 rfl rfl ?_
  all_goals refine tc_seq fun K1 hK1 => ?_; refine tc_region ?_; refine tl_e (e_box rfl rfl rfl) rfl (fun b3 _ => ?_); refine tl_q (y_assign rfl) rfl ?_; refine tl_nil ?_; ((refine hK1 ?_; try (clear hK1; clear K1)))
  all_goals refine tc_seq fun K2 hK2 => ?_; refine tc_seq fun K3 hK3 => ?_; refine tc_lay ([]) (SB.s .nil) (fun wl1 hl1 => ?_); refine tc_region ?_; refine tl_q (y_loadWf rfl (hl1.at (by repeat constructor)) MI.m (by simp) (by rfl)) rfl ?_; refine tl_e (e_callV rfl (.cons rfl (.cons rfl .nil)) (fun w' hw' => lfew_c s 40 _ _ _ w' (hr0.fr (hw'.fr (w0 := w) (S := []) MI.m)))) rfl (fun _ _ => ?_); refine tl_q (y_not_dec rfl) rfl ?_; refine tl_nil ?_; ((refine hK3 ?_; try (clear hK3; clear K3)))
  all_goals (
   refine tc_cond rfl (fun hc => ?_) (fun hc => ?_)
   · try simp only [qn1, qn2, qn3, qn4, qn5, qn6, qn7, qn8] at hc
     all_goals refine tc_seq fun K4 hK4 => ?_; refine tc_region ?_; refine tl_e (e_callV rfl .nil (fun w' _ => awake_c w')) rfl (fun _ _ => ?_); refine tl_q (y_assign rfl) rfl ?_; refine tl_nil ?_; ((refine hK4 ?_; try (clear hK4; clear K4)))
     all_goals refine tc_ret ?_; (repeat (refine tk_then_ret ?_))
     all_goals (refine tk_ret rfl rfl (.cons (.tmp rfl) .nil) ?_)
     all_goals (
      exact fun w' hw' => ⟨rfl, hw'.fr (w0 := w) (S := []) MI.m⟩)
   · try simp only [qn1, qn2, qn3, qn4, qn5, qn6, qn7, qn8] at hc
     all_goals refine tc_skip ?_; ((refine hK2 ?_; try (clear hK2; clear K2)))
     all_goals refine tc_seq fun K5 hK5 => ?_; (have hfw : fewS s 40 := by assumption)
     all_goals (have hf := hfw.1.few)
     all_goals refine tc_region ?_; refine tl_q (y_loadWf rfl (hl1.at (by repeat constructor)) MI.m (by simp) (by rfl)) rfl ?_; refine tl_e (e_callX rfl (.cons rfl .nil) (fun w' hw' => lawSample_c s hf _ _ _ w' (hr0.fr (hw'.fr (w0 := w) (S := []) MI.m)))) rfl (fun x3 hx3 => ?_); refine tl_q (y_move rfl) rfl ?_; refine tl_q (y_move rfl) rfl ?_; refine tl_e (e_callX rfl (.cons rfl (.cons rfl (.cons rfl .nil))) (fun w' hw' => holdersI_c s hf n1 n2 _ _ _ w' (hx3.1.fr (hw'.calm hx3.2 MI.m (List.Sublist.refl _))))) rfl (fun h3 hh3 => ?_); refine tl_q (y_move rfl) rfl ?_; refine tl_q (y_extract rfl rfl) rfl ?_; refine tl_q (y_extract rfl rfl) rfl ?_; refine tl_q (y_assign rfl) rfl ?_; refine tl_q (y_assign rfl) rfl ?_; refine tl_nil ?_; ((refine hK5 ?_; try (clear hK5; clear K5)))
     all_goals refine tc_seq fun K6 hK6 => ?_; refine tc_region ?_; refine tl_q (y_loadWf rfl (hl1.at (by repeat constructor)) MI.m (by simp) (by rfl)) rfl ?_; refine tl_e (e_callX rfl (.cons rfl .nil) (fun w' hw' => lawSample_c s hf _ _ _ w' (hr0.fr (hw'.fr (w0 := w) (S := []) MI.m)))) rfl (fun x4 hx4 => ?_); refine tl_q (y_move rfl) rfl ?_; refine tl_e (e_callX rfl (.cons rfl (.cons rfl .nil)) (fun w' hw' => openersI_c s hf n1 _ _ _ w' (hx4.1.fr (hw'.calm hx4.2 MI.m (List.Sublist.refl _))))) rfl (fun o4 ho4 => ?_); refine tl_q (y_move rfl) rfl ?_; refine tl_q (y_extract rfl rfl) rfl ?_; refine tl_q (y_extract rfl rfl) rfl ?_; refine tl_q (y_assign rfl) rfl ?_; refine tl_q (y_assign rfl) rfl ?_; refine tl_nil ?_; ((refine hK6 ?_; try (clear hK6; clear K6)))
     all_goals refine tc_seq fun K7 hK7 => ?_; refine tc_draw (by kernel_rfl) ?_; refine tx_q 0 rfl (by kernel_rfl) (y_loadWf rfl (hl1.at (by repeat constructor)) MI.m (by simp) (by rfl)) rfl (fun _ _ _ h => h) (fun _ h => h) ?_; refine tx_q 2 rfl (by kernel_rfl) (y_loadWf rfl (hl1.at (by repeat constructor)) MI.m (by simp) (by rfl)) rfl (fun _ _ _ h => h) (fun _ h => h) ?_; refine tx_e 1 rfl (by kernel_rfl) rfl (e_callV rfl (.cons rfl .nil) (fun w' hw' => lsure_c s hf _ _ _ w' (hr0.fr (hw'.fr (w0 := w) (S := []) MI.m)))) (.inr fun _ _ h => h) (fun _ _ => ?_); refine tx_e 3 rfl (by kernel_rfl) rfl (e_callV rfl (.cons rfl .nil) (fun w' hw' => lsure_c s hf _ _ _ w' (hr0.fr (hw'.fr (w0 := w) (S := []) MI.m)))) (.inr fun _ _ h => h) (fun _ _ => ?_); refine tx_p 4 rfl (by kernel_rfl) (y_assign rfl) rfl (fun _ _ _ h => h) (fun _ h => h) ?_; refine tx_p 5 rfl (by kernel_rfl) (y_assign rfl) rfl (fun _ _ _ h => h) (fun _ h => h) ?_; refine tx_done (by kernel_rfl) ?_; ((refine hK7 ?_; try (clear hK7; clear K7)))
     all_goals refine tc_seq fun K8 hK8 => ?_; refine tc_seq fun K9 hK9 => ?_; ((obtain ⟨hA, hB⟩ := sh_facts s n1 n2; have hno := hdL_no (s := s) (b := n1) (h := n2); have hnp := opL_no (s := s) (b := n1)))
     all_goals refine tc_region ?_; refine tl_q (y_loadWf rfl (hl1.at (by repeat constructor)) MI.m (by simp) (by rfl)) rfl ?_; refine tl_e (e_callV rfl (.cons rfl .nil) (fun w' hw' => fault_c s _ _ _ w' (hr0.fr (hw'.fr (w0 := w) (S := []) MI.m)) hf)) rfl (fun _ _ => ?_); refine tl_q (y_eql rfl rfl) rfl ?_; refine tl_nil ?_; ((refine hK9 ?_; try (clear hK9; clear K9)))
     all_goals (
      refine tc_cond rfl (fun hc => ?_) (fun hc => ?_)
      · try simp only [qn1, qn2, qn3, qn4, qn5, qn6, qn7, qn8] at hc
        all_goals refine tc_seq fun K10 hK10 => ?_; refine tc_seq fun K11 hK11 => ?_; refine tc_region ?_; refine tl_q (y_move rfl) rfl ?_; refine tl_q (y_field rfl) rfl ?_; refine tl_q (y_load1f rfl (hl1.at (by repeat constructor)) MI.m (by simp) (by rfl)) rfl ?_; refine tl_q (y_sub rfl rfl (by omega)) rfl ?_; refine tl_e (e_callV rfl (.cons rfl (.cons rfl (.cons rfl .nil))) (fun w' _ => rIn_c _ _ _ w')) rfl (fun _ _ => ?_); refine tl_q (y_not_dec rfl) rfl ?_; refine tl_nil ?_; ((refine hK11 ?_; try (clear hK11; clear K11)))
        all_goals (
         refine tc_cond rfl (fun hc => ?_) (fun hc => ?_)
         · try simp only [qn1, qn2, qn3, qn4, qn5, qn6, qn7, qn8] at hc
           all_goals refine tc_region ?_; refine tl_q (y_assign rfl) rfl ?_; refine tl_q (y_assign rfl) rfl ?_; refine tl_nil ?_; ((refine hK10 ?_; try (clear hK10; clear K10)))
           all_goals refine tc_seq fun K12 hK12 => ?_; refine tc_region ?_; refine tl_q (y_move rfl) rfl ?_; refine tl_q (y_field rfl) rfl ?_; refine tl_q (y_load1f rfl (hl1.at (by repeat constructor)) MI.m (by simp) (by rfl)) rfl ?_; refine tl_e (e_callV rfl (.cons rfl (.cons rfl (.cons rfl .nil))) (fun w' _ => rIn_c _ _ _ w')) rfl (fun _ _ => ?_); refine tl_q (y_not_dec rfl) rfl ?_; refine tl_nil ?_; ((refine hK12 ?_; try (clear hK12; clear K12)))
           all_goals (
            refine tc_cond rfl (fun hc => ?_) (fun hc => ?_)
            · try simp only [qn1, qn2, qn3, qn4, qn5, qn6, qn7, qn8] at hc
              all_goals refine tc_region ?_; refine tl_q (y_assign rfl) rfl ?_; refine tl_nil ?_; ((refine hK8 ?_; try (clear hK8; clear K8)))
              all_goals refine tc_seq fun K13 hK13 => ?_; refine tc_seq fun K14 hK14 => ?_; refine tc_region ?_; refine tl_q (y_move rfl) rfl ?_; refine tl_q (y_move rfl) rfl ?_; refine tl_q (y_neq rfl rfl) rfl ?_; refine tl_q (y_move rfl) rfl ?_; ((refine tl_gs rfl rfl (fun hc => ?_) (fun hc => ?_) <;> (try simp only [qn1, qn2, qn3, qn4, qn5, qn6, qn7, qn8] at hc) <;> (first | (exfalso; omega) | refine tl_qg rfl rfl (y_move rfl) rfl ?_)))
              all_goals (refine tl_qg rfl rfl (y_move rfl) rfl ?_); refine tl_qg rfl rfl (y_neq rfl rfl) rfl ?_; refine tl_q (y_pick_f rfl rfl) rfl ?_; refine tl_nil ?_; ((refine hK14 ?_; try (clear hK14; clear K14)))
              all_goals (
               refine tc_cond rfl (fun hc => ?_) (fun hc => ?_)
               · try simp only [qn1, qn2, qn3, qn4, qn5, qn6, qn7, qn8] at hc
                 all_goals ((exfalso; omega))
               · try simp only [qn1, qn2, qn3, qn4, qn5, qn6, qn7, qn8] at hc
                 all_goals refine tc_skip ?_; ((refine hK13 ?_; try (clear hK13; clear K13)))
                 all_goals refine tc_seq fun K16 hK16 => ?_; refine tc_seq fun K17 hK17 => ?_; refine tc_region ?_; refine tl_q (y_move rfl) rfl ?_; refine tl_q (y_neq rfl rfl) rfl ?_; refine tl_nil ?_; ((refine hK17 ?_; try (clear hK17; clear K17)))
                 all_goals (
                  refine tc_cond rfl (fun hc => ?_) (fun hc => ?_)
                  · try simp only [qn1, qn2, qn3, qn4, qn5, qn6, qn7, qn8] at hc
                    all_goals refine tc_seq fun K18 hK18 => ?_; refine tc_region ?_; refine tl_q (y_move rfl) rfl ?_; refine tl_q (y_len rfl) rfl ?_; refine tl_q (y_move rfl) rfl ?_; refine tl_q (y_len rfl) rfl ?_; refine tl_q (y_add rfl rfl (by omega)) rfl ?_; refine tl_q (y_eql rfl rfl) rfl ?_; refine tl_q (y_move rfl) rfl ?_; ((refine tl_gs rfl rfl (fun hc => ?_) (fun hc => ?_) <;> (try simp only [qn1, qn2, qn3, qn4, qn5, qn6, qn7, qn8] at hc) <;> (first | (exfalso; omega) | refine tl_eg rfl rfl rfl (e_callV rfl .nil (fun w' _ => awake_c w')) (fun _ _ => ?_))))
                    all_goals (refine tl_q (y_pick_t rfl rfl) rfl ?_); refine tl_q (y_assign rfl) rfl ?_; refine tl_nil ?_; ((refine hK18 ?_; try (clear hK18; clear K18)))
                    all_goals refine tc_ret ?_; (repeat (refine tk_then_ret ?_))
                    all_goals (refine tk_ret rfl rfl (.cons (.tmp rfl) .nil) ?_)
                    all_goals (
                     exact fun w' hw' => ⟨rfl, hw'.fr (w0 := w) (S := []) MI.m⟩)
                  · try simp only [qn1, qn2, qn3, qn4, qn5, qn6, qn7, qn8] at hc
                    all_goals ((exfalso; omega))
                    all_goals (
                     refine tc_cond rfl (fun hc => ?_) (fun hc => ?_)
                     · skip
                     · skip
                       all_goals (
                        refine tc_cond rfl (fun hc => ?_) (fun hc => ?_)
                        · skip
                        · skip
                          all_goals (
                           exact fun w' hw' => ⟨rfl, hw'.fr (w0 := w) (S := []) MI.m⟩)))))
            · try simp only [qn1, qn2, qn3, qn4, qn5, qn6, qn7, qn8] at hc
              all_goals refine tc_skip ?_; ((refine hK8 ?_; try (clear hK8; clear K8)))
              all_goals refine tc_seq fun K27 hK27 => ?_; refine tc_seq fun K28 hK28 => ?_; refine tc_region ?_; refine tl_q (y_move rfl) rfl ?_; refine tl_q (y_move rfl) rfl ?_; refine tl_q (y_neq rfl rfl) rfl ?_; refine tl_q (y_move rfl) rfl ?_; ((refine tl_gs rfl rfl (fun hc => ?_) (fun hc => ?_) <;> (try simp only [qn1, qn2, qn3, qn4, qn5, qn6, qn7, qn8] at hc) <;> (first | (exfalso; omega) | refine tl_qg rfl rfl (y_move rfl) rfl ?_)))
              all_goals (refine tl_qg rfl rfl (y_move rfl) rfl ?_); refine tl_qg rfl rfl (y_neq rfl rfl) rfl ?_; refine tl_q (y_pick_f rfl rfl) rfl ?_; refine tl_nil ?_; ((refine hK28 ?_; try (clear hK28; clear K28)))
              all_goals (
               refine tc_cond rfl (fun hc => ?_) (fun hc => ?_)
               · try simp only [qn1, qn2, qn3, qn4, qn5, qn6, qn7, qn8] at hc
                 all_goals ((exfalso; omega))
               · try simp only [qn1, qn2, qn3, qn4, qn5, qn6, qn7, qn8] at hc
                 all_goals refine tc_skip ?_; ((refine hK27 ?_; try (clear hK27; clear K27)))
                 all_goals refine tc_seq fun K30 hK30 => ?_; refine tc_seq fun K31 hK31 => ?_; refine tc_region ?_; refine tl_q (y_move rfl) rfl ?_; refine tl_q (y_neq rfl rfl) rfl ?_; refine tl_nil ?_; ((refine hK31 ?_; try (clear hK31; clear K31)))
                 all_goals (
                  refine tc_cond rfl (fun hc => ?_) (fun hc => ?_)
                  · try simp only [qn1, qn2, qn3, qn4, qn5, qn6, qn7, qn8] at hc
                    all_goals refine tc_seq fun K32 hK32 => ?_; refine tc_region ?_; refine tl_q (y_move rfl) rfl ?_; refine tl_q (y_len rfl) rfl ?_; refine tl_q (y_move rfl) rfl ?_; refine tl_q (y_len rfl) rfl ?_; refine tl_q (y_add rfl rfl (by omega)) rfl ?_; refine tl_q (y_eql rfl rfl) rfl ?_; refine tl_q (y_move rfl) rfl ?_; ((refine tl_gs rfl rfl (fun hc => ?_) (fun hc => ?_) <;> (try simp only [qn1, qn2, qn3, qn4, qn5, qn6, qn7, qn8] at hc) <;> (first | (exfalso; omega) | refine tl_eg rfl rfl rfl (e_callV rfl .nil (fun w' _ => awake_c w')) (fun _ _ => ?_))))
                    all_goals (refine tl_q (y_pick_t rfl rfl) rfl ?_); refine tl_q (y_assign rfl) rfl ?_; refine tl_nil ?_; ((refine hK32 ?_; try (clear hK32; clear K32)))
                    all_goals refine tc_ret ?_; (repeat (refine tk_then_ret ?_))
                    all_goals (refine tk_ret rfl rfl (.cons (.tmp rfl) .nil) ?_)
                    all_goals (
                     exact fun w' hw' => ⟨rfl, hw'.fr (w0 := w) (S := []) MI.m⟩)
                  · try simp only [qn1, qn2, qn3, qn4, qn5, qn6, qn7, qn8] at hc
                    all_goals ((exfalso; omega))
                    all_goals (
                     refine tc_cond rfl (fun hc => ?_) (fun hc => ?_)
                     · skip
                     · skip
                       all_goals (
                        refine tc_cond rfl (fun hc => ?_) (fun hc => ?_)
                        · skip
                        · skip
                          all_goals (
                           exact fun w' hw' => ⟨rfl, hw'.fr (w0 := w) (S := []) MI.m⟩))))))
         · try simp only [qn1, qn2, qn3, qn4, qn5, qn6, qn7, qn8] at hc
           all_goals refine tc_skip ?_; ((refine hK10 ?_; try (clear hK10; clear K10)))
           all_goals refine tc_seq fun K41 hK41 => ?_; refine tc_region ?_; refine tl_q (y_move rfl) rfl ?_; refine tl_q (y_field rfl) rfl ?_; refine tl_q (y_load1f rfl (hl1.at (by repeat constructor)) MI.m (by simp) (by rfl)) rfl ?_; refine tl_e (e_callV rfl (.cons rfl (.cons rfl (.cons rfl .nil))) (fun w' _ => rIn_c _ _ _ w')) rfl (fun _ _ => ?_); refine tl_q (y_not_dec rfl) rfl ?_; refine tl_nil ?_; ((refine hK41 ?_; try (clear hK41; clear K41)))
           all_goals (
            refine tc_cond rfl (fun hc => ?_) (fun hc => ?_)
            · try simp only [qn1, qn2, qn3, qn4, qn5, qn6, qn7, qn8] at hc
              all_goals refine tc_region ?_; refine tl_q (y_assign rfl) rfl ?_; refine tl_nil ?_; ((refine hK8 ?_; try (clear hK8; clear K8)))
              all_goals refine tc_seq fun K42 hK42 => ?_; refine tc_seq fun K43 hK43 => ?_; refine tc_region ?_; refine tl_q (y_move rfl) rfl ?_; refine tl_q (y_move rfl) rfl ?_; refine tl_q (y_neq rfl rfl) rfl ?_; refine tl_q (y_move rfl) rfl ?_; ((refine tl_gs rfl rfl (fun hc => ?_) (fun hc => ?_) <;> (try simp only [qn1, qn2, qn3, qn4, qn5, qn6, qn7, qn8] at hc) <;> (first | (exfalso; omega) | refine tl_qg rfl rfl (y_move rfl) rfl ?_)))
              all_goals (refine tl_qg rfl rfl (y_move rfl) rfl ?_); refine tl_qg rfl rfl (y_neq rfl rfl) rfl ?_; refine tl_q (y_pick_f rfl rfl) rfl ?_; refine tl_nil ?_; ((refine hK43 ?_; try (clear hK43; clear K43)))
              all_goals (
               refine tc_cond rfl (fun hc => ?_) (fun hc => ?_)
               · try simp only [qn1, qn2, qn3, qn4, qn5, qn6, qn7, qn8] at hc
                 all_goals ((exfalso; omega))
               · try simp only [qn1, qn2, qn3, qn4, qn5, qn6, qn7, qn8] at hc
                 all_goals refine tc_skip ?_; ((refine hK42 ?_; try (clear hK42; clear K42)))
                 all_goals refine tc_seq fun K45 hK45 => ?_; refine tc_seq fun K46 hK46 => ?_; refine tc_region ?_; refine tl_q (y_move rfl) rfl ?_; refine tl_q (y_neq rfl rfl) rfl ?_; refine tl_nil ?_; ((refine hK46 ?_; try (clear hK46; clear K46)))
                 all_goals (
                  refine tc_cond rfl (fun hc => ?_) (fun hc => ?_)
                  · try simp only [qn1, qn2, qn3, qn4, qn5, qn6, qn7, qn8] at hc
                    all_goals refine tc_seq fun K47 hK47 => ?_; refine tc_region ?_; refine tl_q (y_move rfl) rfl ?_; refine tl_q (y_len rfl) rfl ?_; refine tl_q (y_move rfl) rfl ?_; refine tl_q (y_len rfl) rfl ?_; refine tl_q (y_add rfl rfl (by omega)) rfl ?_; refine tl_q (y_eql rfl rfl) rfl ?_; refine tl_q (y_move rfl) rfl ?_; ((refine tl_gs rfl rfl (fun hc => ?_) (fun hc => ?_) <;> (try simp only [qn1, qn2, qn3, qn4, qn5, qn6, qn7, qn8] at hc) <;> (first | (exfalso; omega) | refine tl_eg rfl rfl rfl (e_callV rfl .nil (fun w' _ => awake_c w')) (fun _ _ => ?_))))
                    all_goals (refine tl_q (y_pick_t rfl rfl) rfl ?_); refine tl_q (y_assign rfl) rfl ?_; refine tl_nil ?_; ((refine hK47 ?_; try (clear hK47; clear K47)))
                    all_goals refine tc_ret ?_; (repeat (refine tk_then_ret ?_))
                    all_goals (refine tk_ret rfl rfl (.cons (.tmp rfl) .nil) ?_)
                    all_goals (
                     exact fun w' hw' => ⟨rfl, hw'.fr (w0 := w) (S := []) MI.m⟩)
                  · try simp only [qn1, qn2, qn3, qn4, qn5, qn6, qn7, qn8] at hc
                    all_goals refine tc_skip ?_; ((refine hK45 ?_; try (clear hK45; clear K45)))
                    all_goals refine tc_seq fun K48 hK48 => ?_; (have hoe : opE s n1 = 0 := by omega)
                    all_goals ((obtain ⟨hv, hbb, hcs⟩ := sureE_0 (show sureE s (decide (0 ≤ n1 ∧ n1 ≤ s.B - 1)) = 0 from hoe); have hL6 : s.L ≤ 6 := (hfw.2.resolve_left (fun g => g (chkS_0.2 hv))).2.1; have hko := asRF_ok hv n1))
                    all_goals ((have hoL : opL s n1 = pplL s (asRF s n1).opn := by rw [asR_opn hv]; exact if_pos hoe))
                    all_goals refine tc_region ?_; refine tl_q (y_loadWf rfl (hl1.at (by repeat constructor)) MI.m (by simp) (by rfl)) rfl ?_; refine tl_q (y_move rfl) rfl ?_; refine tl_e (e_callV rfl (.cons rfl (.cons rfl .nil)) (fun w' hw' => rAsk_c s hf hv hL6 n1 _ _ _ w' (hr0.fr (hw'.fr (w0 := w) (S := []) MI.m)))) rfl (fun _ _ => ?_); refine tl_e (e_allocN rfl) rfl (fun b13 _ => ?_); refine tl_e (e_storeW rfl rfl (by repeat constructor) (by rw [List.size_toArray, akL_len hko]) (by rfl) (akL_one _)) rfl (fun _ _ => ?_); refine tl_nil ?_; ((refine hK48 ?_; try (clear hK48; clear K48)))
                    all_goals refine tc_seq fun K49 hK49 => ?_; refine tc_seq fun K50 hK50 => ?_; refine tc_lay ([]) (SB.s .nil) (fun wl16 hl16 => ?_); refine tc_region ?_; refine tl_q (y_move rfl) rfl ?_; refine tl_q (y_loadWf rfl (hl1.at (by repeat constructor)) MI.m (by simp) (by rfl)) rfl ?_; refine tl_q (y_field rfl) rfl ?_; refine tl_q (y_loadNo (n := 4) (vs := (asRF s n1).opn.map Value.bool) rfl (fun w' hw' => ak_opn_at hko ((hw'.fr (w0 := wl16) (S := []) MI.m).keep (hl16.at (b := b13) (by repeat constructor))))) rfl ?_; ((refine tl_e (e_callX rfl (.cons rfl (.cons rfl .nil)) (fun w' hw' => rPeople_c s ⟨by have := hv.p1; omega, hv.p4⟩ (asRF s n1).opn hko.o _ _ _ ⟨⟨rfl, rfl⟩, rfl⟩ w')) rfl (fun p16 hp16 => ?_)))
                    all_goals (refine tl_e (e_callV rfl (.cons rfl (.cons rfl .nil)) (fun w' hw' => sameK_v hoL (opL_len hv n1) _ _ w' (ho4.1.fr (hw'.fr (w0 := o4.2) (S := []) MI.m)) (hp16.1.fr (hw'.calm hp16.2 MI.m (List.Sublist.refl _))).toI)) rfl (fun _ _ => ?_)); refine tl_q (y_not rfl) rfl ?_; refine tl_nil ?_; ((refine hK50 ?_; try (clear hK50; clear K50)))
                    all_goals (
                     refine tc_cond rfl (fun hc => ?_) (fun hc => ?_)
                     · try simp only [qn1, qn2, qn3, qn4, qn5, qn6, qn7, qn8] at hc
                       all_goals ((exfalso; with_reducible exact btf hc))
                     · try simp only [qn1, qn2, qn3, qn4, qn5, qn6, qn7, qn8] at hc
                       all_goals refine tc_skip ?_; ((refine hK49 ?_; try (clear hK49; clear K49)))
                       all_goals refine tc_seq fun K52 hK52 => ?_; refine tc_seq fun K53 hK53 => ?_; refine tc_region ?_; refine tl_q (y_move rfl) rfl ?_; refine tl_q (y_neq rfl rfl) rfl ?_; refine tl_nil ?_; ((refine hK53 ?_; try (clear hK53; clear K53)))
                       all_goals (
                        refine tc_cond rfl (fun hc => ?_) (fun hc => ?_)
                        · try simp only [qn1, qn2, qn3, qn4, qn5, qn6, qn7, qn8] at hc
                          all_goals refine tc_seq fun K54 hK54 => ?_; refine tc_region ?_; refine tl_q (y_move rfl) rfl ?_; refine tl_q (y_len rfl) rfl ?_; refine tl_q (y_eql rfl rfl) rfl ?_; refine tl_q (y_move rfl) rfl ?_; ((refine tl_gs rfl rfl (fun hc => ?_) (fun hc => ?_) <;> (try simp only [qn1, qn2, qn3, qn4, qn5, qn6, qn7, qn8] at hc) <;> (first | (exfalso; omega) | refine tl_eg rfl rfl rfl (e_callV rfl .nil (fun w' _ => awake_c w')) (fun _ _ => ?_))))
                          all_goals (refine tl_q (y_pick_t rfl rfl) rfl ?_); refine tl_q (y_assign rfl) rfl ?_; refine tl_nil ?_; ((refine hK54 ?_; try (clear hK54; clear K54)))
                          all_goals refine tc_ret ?_; (repeat (refine tk_then_ret ?_))
                          all_goals (refine tk_ret rfl rfl (.cons (.tmp rfl) .nil) ?_)
                          all_goals (
                           exact fun w' hw' => ⟨rfl, hw'.fr (w0 := w) (S := []) MI.m⟩)
                        · try simp only [qn1, qn2, qn3, qn4, qn5, qn6, qn7, qn8] at hc
                          all_goals ((exfalso; omega))
                          all_goals (
                           exact fun w' hw' => ⟨rfl, hw'.fr (w0 := w) (S := []) MI.m⟩)))))
            · try simp only [qn1, qn2, qn3, qn4, qn5, qn6, qn7, qn8] at hc
              all_goals refine tc_skip ?_; ((refine hK8 ?_; try (clear hK8; clear K8)))
              all_goals refine tc_seq fun K56 hK56 => ?_; refine tc_seq fun K57 hK57 => ?_; refine tc_region ?_; refine tl_q (y_move rfl) rfl ?_; refine tl_q (y_move rfl) rfl ?_; refine tl_q (y_neq rfl rfl) rfl ?_; refine tl_q (y_move rfl) rfl ?_; ((refine tl_gs rfl rfl (fun hc => ?_) (fun hc => ?_) <;> (try simp only [qn1, qn2, qn3, qn4, qn5, qn6, qn7, qn8] at hc) <;> (first | (exfalso; omega) | refine tl_qg rfl rfl (y_move rfl) rfl ?_)))
              all_goals (refine tl_qg rfl rfl (y_move rfl) rfl ?_); refine tl_qg rfl rfl (y_neq rfl rfl) rfl ?_; refine tl_q (y_pick_f rfl rfl) rfl ?_; refine tl_nil ?_; ((refine hK57 ?_; try (clear hK57; clear K57)))
              all_goals (
               refine tc_cond rfl (fun hc => ?_) (fun hc => ?_)
               · try simp only [qn1, qn2, qn3, qn4, qn5, qn6, qn7, qn8] at hc
                 all_goals ((exfalso; omega))
               · try simp only [qn1, qn2, qn3, qn4, qn5, qn6, qn7, qn8] at hc
                 all_goals refine tc_skip ?_; ((refine hK56 ?_; try (clear hK56; clear K56)))
                 all_goals refine tc_seq fun K59 hK59 => ?_; refine tc_seq fun K60 hK60 => ?_; refine tc_region ?_; refine tl_q (y_move rfl) rfl ?_; refine tl_q (y_neq rfl rfl) rfl ?_; refine tl_nil ?_; ((refine hK60 ?_; try (clear hK60; clear K60)))
                 all_goals (
                  refine tc_cond rfl (fun hc => ?_) (fun hc => ?_)
                  · try simp only [qn1, qn2, qn3, qn4, qn5, qn6, qn7, qn8] at hc
                    all_goals refine tc_seq fun K61 hK61 => ?_; refine tc_region ?_; refine tl_q (y_move rfl) rfl ?_; refine tl_q (y_len rfl) rfl ?_; refine tl_q (y_move rfl) rfl ?_; refine tl_q (y_len rfl) rfl ?_; refine tl_q (y_add rfl rfl (by omega)) rfl ?_; refine tl_q (y_eql rfl rfl) rfl ?_; refine tl_q (y_move rfl) rfl ?_; ((refine tl_gs rfl rfl (fun hc => ?_) (fun hc => ?_) <;> (try simp only [qn1, qn2, qn3, qn4, qn5, qn6, qn7, qn8] at hc) <;> (first | (exfalso; omega) | refine tl_eg rfl rfl rfl (e_callV rfl .nil (fun w' _ => awake_c w')) (fun _ _ => ?_))))
                    all_goals (refine tl_q (y_pick_t rfl rfl) rfl ?_); refine tl_q (y_assign rfl) rfl ?_; refine tl_nil ?_; ((refine hK61 ?_; try (clear hK61; clear K61)))
                    all_goals refine tc_ret ?_; (repeat (refine tk_then_ret ?_))
                    all_goals (refine tk_ret rfl rfl (.cons (.tmp rfl) .nil) ?_)
                    all_goals (
                     exact fun w' hw' => ⟨rfl, hw'.fr (w0 := w) (S := []) MI.m⟩)
                  · try simp only [qn1, qn2, qn3, qn4, qn5, qn6, qn7, qn8] at hc
                    all_goals refine tc_skip ?_; ((refine hK59 ?_; try (clear hK59; clear K59)))
                    all_goals refine tc_seq fun K62 hK62 => ?_; (have hoe : opE s n1 = 0 := by omega)
                    all_goals ((obtain ⟨hv, hbb, hcs⟩ := sureE_0 (show sureE s (decide (0 ≤ n1 ∧ n1 ≤ s.B - 1)) = 0 from hoe); have hL6 : s.L ≤ 6 := (hfw.2.resolve_left (fun g => g (chkS_0.2 hv))).2.1; have hko := asRF_ok hv n1))
                    all_goals ((have hoL : opL s n1 = pplL s (asRF s n1).opn := by rw [asR_opn hv]; exact if_pos hoe))
                    all_goals refine tc_region ?_; refine tl_q (y_loadWf rfl (hl1.at (by repeat constructor)) MI.m (by simp) (by rfl)) rfl ?_; refine tl_q (y_move rfl) rfl ?_; refine tl_e (e_callV rfl (.cons rfl (.cons rfl .nil)) (fun w' hw' => rAsk_c s hf hv hL6 n1 _ _ _ w' (hr0.fr (hw'.fr (w0 := w) (S := []) MI.m)))) rfl (fun _ _ => ?_); refine tl_e (e_allocN rfl) rfl (fun b13 _ => ?_); refine tl_e (e_storeW rfl rfl (by repeat constructor) (by rw [List.size_toArray, akL_len hko]) (by rfl) (akL_one _)) rfl (fun _ _ => ?_); refine tl_nil ?_; ((refine hK62 ?_; try (clear hK62; clear K62)))
                    all_goals refine tc_seq fun K63 hK63 => ?_; refine tc_seq fun K64 hK64 => ?_; refine tc_lay ([]) (SB.s .nil) (fun wl16 hl16 => ?_); refine tc_region ?_; refine tl_q (y_move rfl) rfl ?_; refine tl_q (y_loadWf rfl (hl1.at (by repeat constructor)) MI.m (by simp) (by rfl)) rfl ?_; refine tl_q (y_field rfl) rfl ?_; refine tl_q (y_loadNo (n := 4) (vs := (asRF s n1).opn.map Value.bool) rfl (fun w' hw' => ak_opn_at hko ((hw'.fr (w0 := wl16) (S := []) MI.m).keep (hl16.at (b := b13) (by repeat constructor))))) rfl ?_; ((refine tl_e (e_callX rfl (.cons rfl (.cons rfl .nil)) (fun w' hw' => rPeople_c s ⟨by have := hv.p1; omega, hv.p4⟩ (asRF s n1).opn hko.o _ _ _ ⟨⟨rfl, rfl⟩, rfl⟩ w')) rfl (fun p16 hp16 => ?_)))
                    all_goals (refine tl_e (e_callV rfl (.cons rfl (.cons rfl .nil)) (fun w' hw' => sameK_v hoL (opL_len hv n1) _ _ w' (ho4.1.fr (hw'.fr (w0 := o4.2) (S := []) MI.m)) (hp16.1.fr (hw'.calm hp16.2 MI.m (List.Sublist.refl _))).toI)) rfl (fun _ _ => ?_)); refine tl_q (y_not rfl) rfl ?_; refine tl_nil ?_; ((refine hK64 ?_; try (clear hK64; clear K64)))
                    all_goals (
                     refine tc_cond rfl (fun hc => ?_) (fun hc => ?_)
                     · try simp only [qn1, qn2, qn3, qn4, qn5, qn6, qn7, qn8] at hc
                       all_goals ((exfalso; with_reducible exact btf hc))
                     · try simp only [qn1, qn2, qn3, qn4, qn5, qn6, qn7, qn8] at hc
                       all_goals refine tc_skip ?_; ((refine hK63 ?_; try (clear hK63; clear K63)))
                       all_goals refine tc_seq fun K66 hK66 => ?_; refine tc_seq fun K67 hK67 => ?_; refine tc_region ?_; refine tl_q (y_move rfl) rfl ?_; refine tl_q (y_neq rfl rfl) rfl ?_; refine tl_nil ?_; ((refine hK67 ?_; try (clear hK67; clear K67)))
                       all_goals (
                        refine tc_cond rfl (fun hc => ?_) (fun hc => ?_)
                        · try simp only [qn1, qn2, qn3, qn4, qn5, qn6, qn7, qn8] at hc
                          all_goals ((exfalso; omega))
                        · try simp only [qn1, qn2, qn3, qn4, qn5, qn6, qn7, qn8] at hc
                          all_goals refine tc_skip ?_; ((refine hK66 ?_; try (clear hK66; clear K66)))
                          all_goals refine tc_seq fun K69 hK69 => ?_; (have hhe : hdE s n1 n2 = 0 := by omega)
                          all_goals ((obtain ⟨_, hbb2, _⟩ := sureE_0 (show sureE s (decide ((0 ≤ n1 ∧ n1 ≤ s.B - 1) ∧ (0 ≤ n2 ∧ n2 ≤ s.L))) = 0 from hhe); rw [decide_eq_true_eq] at hbb2))
                          all_goals ((have hhL : hdL s n1 n2 = pplL s (((asRF s n1).hol.drop (n2.toNat * 4)).take 4) := by rw [asR_hol hv]; exact if_pos hhe))
                          all_goals ((have hhl : (((asRF s n1).hol.drop (n2.toNat * 4)).take 4).length = 4 := by rw [List.length_take, List.length_drop, hko.h]; omega))
                          all_goals refine tc_draw (by kernel_rfl) ?_; refine tx_p 0 rfl (by kernel_rfl) (y_move rfl) rfl (fun _ _ _ h => h) (fun _ h => h) ?_; refine tx_q 1 rfl (by kernel_rfl) (y_loadWf rfl (hl1.at (by repeat constructor)) MI.m (by simp) (by rfl)) rfl (fun _ _ _ h => h) (fun _ h => h) ?_; refine tx_p 2 rfl (by kernel_rfl) (y_move rfl) rfl (fun _ _ _ h => h) (fun _ h => h) ?_; refine tx_p 3 rfl (by kernel_rfl) (y_field rfl) rfl (fun _ _ _ h => h) (fun _ h => h) ?_; refine tx_p 4 rfl (by kernel_rfl) (y_indexA rfl rfl (by omega)) rfl (fun _ _ _ h => h) (fun _ h => h) ?_; refine tx_q 5 rfl (by kernel_rfl) (y_loadNo (n := 4) (vs := (((asRF s n1).hol.drop (n2.toNat * 4)).take 4).map Value.bool) rfl (fun w' hw' => ak_hol_at hko ((hw'.fr (w0 := wl16) (S := []) MI.m).keep (hl16.at (b := b13) (by repeat constructor))) (by omega))) rfl (fun _ _ _ h => h) (fun _ h => h) ?_; ((refine tx_e 6 rfl (by kernel_rfl) rfl (e_callX rfl (.cons rfl (.cons rfl .nil)) (fun w' hw' => rPeople_c s ⟨by have := hv.p1; omega, hv.p4⟩ (((asRF s n1).hol.drop (n2.toNat * 4)).take 4) hhl _ _ _ ⟨⟨rfl, rfl⟩, rfl⟩ w')) (.inr fun _ _ h => h.sub (fun _ h => List.mem_cons_of_mem _ h) (List.Sublist.refl _)) (fun p20 hp20 => ?_)))
                          all_goals (refine tx_e 7 rfl (by kernel_rfl) rfl (e_callV rfl (.cons rfl (.cons rfl .nil)) (fun w' hw' => sameK_v hhL (hdL_len hv n1 n2) _ _ w' (hh3.1.fr (hw'.fr (w0 := h3.2) (S := []) MI.m)) (hp20.1.fr (hw'.calm hp20.2 MI.m (List.Sublist.refl _))).toI)) (.inr fun _ _ h => h) (fun _ _ => ?_)); refine tx_p 8 rfl (by kernel_rfl) (y_move rfl) rfl (fun _ _ _ h => h) (fun _ h => h) ?_; refine tx_eg 9 rfl (by kernel_rfl) rfl rfl rfl (e_callV rfl .nil (fun w' _ => awake_c w')) (.inr fun _ _ h => h) (fun _ _ => ?_); refine tx_p 10 rfl (by kernel_rfl) (y_pick_t rfl rfl) rfl (fun _ _ _ h => h) (fun _ h => h) ?_; refine tx_p 11 rfl (by kernel_rfl) (y_assign rfl) rfl (fun _ _ _ h => h) (fun _ h => h) ?_; refine tx_done (by kernel_rfl) ?_; ((refine hK69 ?_; try (clear hK69; clear K69)))
                          all_goals refine tc_ret ?_; (repeat (first | refine tk_then_ret ?_))
                          all_goals (refine tk_ret rfl rfl (.cons (.tmp rfl) .nil) ?_)
                          all_goals (
                           exact fun w' hw' => ⟨rfl, hw'.fr (w0 := w) (S := []) MI.m⟩)))))))
      · try simp only [qn1, qn2, qn3, qn4, qn5, qn6, qn7, qn8] at hc
        all_goals refine tc_skip ?_; ((refine hK8 ?_; try (clear hK8; clear K8)))
        all_goals refine tc_seq fun K70 hK70 => ?_; refine tc_seq fun K71 hK71 => ?_; refine tc_region ?_; refine tl_q (y_move rfl) rfl ?_; refine tl_q (y_move rfl) rfl ?_; refine tl_q (y_neq rfl rfl) rfl ?_; refine tl_q (y_move rfl) rfl ?_; ((refine tl_gs rfl rfl (fun hc => ?_) (fun hc => ?_) <;> (try simp only [qn1, qn2, qn3, qn4, qn5, qn6, qn7, qn8] at hc) <;> (first | (exfalso; omega) | refine tl_qg rfl rfl (y_move rfl) rfl ?_)))
        all_goals (refine tl_qg rfl rfl (y_move rfl) rfl ?_); refine tl_qg rfl rfl (y_neq rfl rfl) rfl ?_; refine tl_q (y_pick_f rfl rfl) rfl ?_; refine tl_nil ?_; ((refine hK71 ?_; try (clear hK71; clear K71)))
        all_goals (
         refine tc_cond rfl (fun hc => ?_) (fun hc => ?_)
         · try simp only [qn1, qn2, qn3, qn4, qn5, qn6, qn7, qn8] at hc
           all_goals ((exfalso; omega))
         · try simp only [qn1, qn2, qn3, qn4, qn5, qn6, qn7, qn8] at hc
           all_goals refine tc_skip ?_; ((refine hK70 ?_; try (clear hK70; clear K70)))
           all_goals refine tc_seq fun K73 hK73 => ?_; refine tc_seq fun K74 hK74 => ?_; refine tc_region ?_; refine tl_q (y_move rfl) rfl ?_; refine tl_q (y_neq rfl rfl) rfl ?_; refine tl_nil ?_; ((refine hK74 ?_; try (clear hK74; clear K74)))
           all_goals (
            refine tc_cond rfl (fun hc => ?_) (fun hc => ?_)
            · try simp only [qn1, qn2, qn3, qn4, qn5, qn6, qn7, qn8] at hc
              all_goals refine tc_seq fun K75 hK75 => ?_; refine tc_region ?_; refine tl_q (y_move rfl) rfl ?_; refine tl_q (y_len rfl) rfl ?_; refine tl_q (y_move rfl) rfl ?_; refine tl_q (y_len rfl) rfl ?_; refine tl_q (y_add rfl rfl (by omega)) rfl ?_; refine tl_q (y_eql rfl rfl) rfl ?_; refine tl_q (y_move rfl) rfl ?_; ((refine tl_gs rfl rfl (fun hc => ?_) (fun hc => ?_) <;> (try simp only [qn1, qn2, qn3, qn4, qn5, qn6, qn7, qn8] at hc) <;> (first | (exfalso; omega) | refine tl_eg rfl rfl rfl (e_callV rfl .nil (fun w' _ => awake_c w')) (fun _ _ => ?_))))
              all_goals (refine tl_q (y_pick_t rfl rfl) rfl ?_); refine tl_q (y_assign rfl) rfl ?_; refine tl_nil ?_; ((refine hK75 ?_; try (clear hK75; clear K75)))
              all_goals refine tc_ret ?_; (repeat (refine tk_then_ret ?_))
              all_goals (refine tk_ret rfl rfl (.cons (.tmp rfl) .nil) ?_)
              all_goals (
               exact fun w' hw' => ⟨rfl, hw'.fr (w0 := w) (S := []) MI.m⟩)
            · try simp only [qn1, qn2, qn3, qn4, qn5, qn6, qn7, qn8] at hc
              all_goals ((exfalso; omega))
              all_goals (
               refine tc_cond rfl (fun hc => ?_) (fun hc => ?_)
               · skip
               · skip
                 all_goals (
                  refine tc_cond rfl (fun hc => ?_) (fun hc => ?_)
                  · skip
                  · skip
                    all_goals (
                     exact fun w' hw' => ⟨rfl, hw'.fr (w0 := w) (S := []) MI.m⟩)))))))
end Go.Sp
/-
  From a contract of a law's function to its row: what the arguments read as, and that they read so afterwards.
-/
namespace Go.Sp
open Go Go.Proofs Go.ChangeShapes Go.WideShapes Go.RowKit
section
variable {H : Type} {enc : TypeId × Value → H} {P : Program} {w : World} {base : Nat} {spare : Nat → Bool} {held : Bool}
theorem Fr.kept {W W' : World} (h : Fr [] W W') (p : MemPlace → Prop) : W.keptBut W' p :=
  ⟨h.os, h.output, fun i hi => by
    have e := h.block i hi (by simp)
    rw [e]
    cases hb : W.heap[i]? with
    | none => trivial
    | some o => cases o <;> simp⟩
/-- What is left of a post without 'again'. -/
theorem post_na {f : Func} {s : ChangeSpec} {apart fresh handsOn : Bool} {W W' : World} {args : Array Value} {v : Value} {ds gs : List (DataW H)} {before pa pv : List MemPlace}
    (hW : DataW.Whole enc P f.params.toList s.vars apart W args.toList ds gs before)
    (hres : ∀ (b : Nat) (sp : Nat → Bool) (hd : Bool), DataW.TrodAll enc P W' b sp hd f.resultTypes.toList (v.resultList f.resultTypes.size) (s.fn H (ds ++ gs)).results [])
    (hargs : ∀ sp : Nat → Bool, (∀ p ∈ before, sp p.block = true) → DataW.TrodAll enc P W' 0 sp true f.params.toList args.toList (s.fn H (ds ++ gs)).args pa)
    (hvars : ∀ sp : Nat → Bool, (∀ p ∈ before, sp p.block = true) → DataW.TrodVars enc P W' sp s.vars (s.fn H (ds ++ gs)).vars pv)
    (hps : before = pa ++ pv) (hk : W.keptBut W' (· ∈ before)) : s.post enc P f apart fresh handsOn false W args v W' := by
  have hold : ∀ p ∈ before, (fun b => decide (b < W.heap.size)) p.block = true := fun p hp => by simpa using hW.lt p hp
  refine ⟨ds, gs, before, [], pa, pv, hW, hres _ _ _, hargs _ hold, hvars _ hold, World.keptBut_mono (fun p hp => ⟨hp, ?_⟩) hk, fun h => by cases h⟩
  rw [hps, List.mem_append] at hp
  exact Or.inr hp
theorem all_stays (hl : laidOutB P = true) {W W' : World} {sp : Nat → Bool} (hb : Below W.heap.size W W') : ∀ {ts : List TypeId} {vs : List Value} {ds : List (DataW H)} {ps : List MemPlace}, (ts.all fun t => P.readableRec t && decide (t < P.types.size)) = true →
    DataW.TrodAll enc P W 0 (fun _ => true) true ts vs ds ps → (∀ p ∈ ps, sp p.block = true) → DataW.TrodAll enc P W' 0 sp true ts vs ds ps := by
  intro ts
  induction ts with
  | nil => intro vs ds ps _ h _; cases vs <;> cases ds <;> simp [DataW.TrodAll] at h ⊢; exact h
  | cons t ts ih =>
    intro vs ds ps ht h hs
    have hlt := h.lt
    obtain ⟨v, vs', d, ds', p, q, rfl, rfl, rfl, h1, h2⟩ := trodAll_cons h
    simp only [List.all_cons, Bool.and_eq_true, decide_eq_true_eq] at ht
    exact ⟨p, q, WideElems.Trod_stays hl ht.1.1 ht.1.2 h1 (fun x hx => hb.same (hlt x (List.mem_append_left _ hx))) (fun x hx => hs x (List.mem_append_left _ hx)),
      ih (by simpa using ht.2) h2 (fun x hx => hs x (List.mem_append_right _ hx)), rfl⟩
/-- A slice reads as the cells of its elements, each of which reads. -/
theorem slice_reads {t e : TypeId} {fuel : Nat} {cs : List Value} {x : DataW H × List MemPlace} (ht : P.underlying t = some (.slice e)) (hc : 0 < P.cellsOf e) (h : DataW.trod enc P w base spare held fuel t cs = some x) :
    ∃ ad cap, ∃ ess : List (List Value), cs = [.slice ad ess.length cap] ∧ ess.length ≤ maxLen ∧ Reads w (.slice ad ess.length cap) (P.cellsOf e) ess.length ess.flatten ∧ ∀ es ∈ ess, ∃ m y, DataW.trod enc P w base spare held m e es = some y := by
  rcases DataW.trod_slice ht h with ⟨rfl, _⟩ | ⟨a, len, cap, elems, rest, n, _, rfl, _, hb, hl, hm, hlen, hel, _, _⟩
  · exact ⟨none, 0, [], rfl, Nat.zero_le _, ⟨by simp, none, 0, rfl, fun h => absurd rfl h⟩, by simp⟩
  · -- the cells of each element
    have hone : ∀ i, i < len → ∃ es y, w.cells? base (a.add (i * P.cellsOf e)) (P.cellsOf e) = some es ∧ DataW.trod enc P w base spare held n e es = some y := fun i hi => by
      have h1 := hel i hi
      rw [List.getElem?_eq_getElem (by omega)] at h1
      obtain ⟨es, h2, h3⟩ := Option.bind_eq_some_iff.1 h1
      exact ⟨es, _, h2, h3⟩
    have hadd : ∀ m, a.spot = none → a.add m = ⟨a.block, a.off + m, none⟩ := fun m hs => by
      obtain ⟨b, o, sp⟩ := a
      simp only at hs
      subst hs
      unfold Addr.add; split
      · rename_i h0; subst h0; rfl
      · rfl
    have hsp0 : 0 < len → a.spot = none := fun h0 => by
      obtain ⟨es, y, g1, g2⟩ := hone 0 h0
      obtain ⟨_, hl1, hat⟩ := World.cells?_some g1
      have := hat 0 hc
      rw [List.getElem?_eq_getElem (by omega), Nat.zero_mul, show (a.add 0).add 0 = a from rfl] at this
      unfold World.cell? at this
      split at this
      · split at this
        · cases this
        · rename_i hs; simpa using hs
      · cases this
    have hcell : ∀ k, k ≤ len → ∃ ess : List (List Value), ess.length = k ∧ (∀ es ∈ ess, ∃ m y, DataW.trod enc P w base spare held m e es = some y) ∧ ess.flatten.length = k * P.cellsOf e ∧
        (k ≠ 0 → a.spot = none) ∧ ∀ j v, ess.flatten[j]? = some v → w.cell? ⟨a.block, a.off + j, none⟩ = some v := by
      intro k
      induction k with
      | zero => intro _; exact ⟨[], rfl, by simp, by simp, fun h => absurd rfl h, by simp⟩
      | succ k ih =>
        intro hk
        obtain ⟨ess, h1, h2, h3, h4, h5⟩ := ih (by omega)
        obtain ⟨es, y, g1, g2⟩ := hone k (by omega)
        obtain ⟨_, hl1, hat⟩ := World.cells?_some g1
        have hspot : a.spot = none := hsp0 (by omega)
        refine ⟨ess ++ [es], by simp [h1], fun u hu => ?_, ?_, fun _ => hspot, fun j v hv => ?_⟩
        · rcases List.mem_append.1 hu with hu | hu
          · exact h2 u hu
          · obtain rfl := List.mem_singleton.1 hu; exact ⟨n, y, g2⟩
        · rw [List.flatten_append, List.length_append, h3]; simp [hl1]; rw [Nat.add_mul]; omega
        · rw [List.flatten_append] at hv
          by_cases hj : j < ess.flatten.length
          · rw [List.getElem?_append_left hj] at hv; exact h5 j v hv
          · rw [List.getElem?_append_right (by omega)] at hv
            simp only [List.flatten_cons, List.flatten_nil, List.append_nil] at hv
            have hjl : j - ess.flatten.length < es.length := (List.getElem?_eq_some_iff.1 hv).1
            have := hat (j - ess.flatten.length) (by omega)
            rw [hv, hadd _ hspot] at this
            have e2 : (⟨a.block, a.off + k * P.cellsOf e, none⟩ : Addr).add (j - ess.flatten.length) = ⟨a.block, a.off + j, none⟩ := by
              unfold Addr.add; split
              · rename_i h0; simp only [Addr.mk.injEq, true_and, and_true]; omega
              · simp only [Addr.mk.injEq, true_and, and_true]; omega
            rw [e2] at this
            exact this
    obtain ⟨ess, h1, h2, h3, h4, h5⟩ := hcell len (Nat.le_refl _)
    subst h1
    refine ⟨some a, cap, ess, rfl, by omega, ⟨h3, _, _, rfl, fun hn => ⟨a.block, a.off, ?_, ?_⟩⟩, h2⟩
    · have := h4 hn
      obtain ⟨b, o, sp⟩ := a
      simp only at this
      subst this
      rfl
    · rw [← h3]
      generalize ess.flatten = vs at h5
      have key : ∀ (vs : List Value) (o : Nat), (∀ j v, vs[j]? = some v → w.cell? ⟨a.block, o + j, none⟩ = some v) → CA (fun k => w.cell? ⟨a.block, k, none⟩) o vs.length vs := by
        intro vs
        induction vs with
        | nil => intro o _; exact .nil
        | cons v vs ih => intro o hv; exact .cons (hv 0 v rfl) (ih (o + 1) fun j u hu => by rw [Nat.add_assoc, Nat.add_comm 1 j]; exact hv (j + 1) u hu)
      exact key vs a.off h5
theorem exists_map {α β : Type} {f : α → β} {q : α → Prop} : ∀ (l : List β), (∀ y ∈ l, ∃ x, y = f x ∧ q x) → ∃ xs : List α, l = xs.map f ∧ ∀ x ∈ xs, q x
  | [], _ => ⟨[], rfl, by simp⟩
  | y :: l, h => by
    obtain ⟨x, rfl, hq⟩ := h y List.mem_cons_self
    obtain ⟨xs, rfl, hxs⟩ := exists_map l (fun z hz => h z (List.mem_cons_of_mem _ hz))
    exact ⟨x :: xs, rfl, fun z hz => by rcases List.mem_cons.1 hz with rfl | hz; exact hq; exact hxs z hz⟩
/-- The fields of a struct. -/
theorem fields_reads {t : TypeId} {fs : Array Field} {fuel : Nat} {cs : List Value} {x : DataW H × List MemPlace} (ht : P.underlying t = some (.struct fs)) (h : DataW.trod enc P w base spare held fuel t cs = some x) :
    cs.length = P.cellsOf t ∧ ∀ (i : Nat) (f : Field), fs[i]? = some f → ∃ m y, DataW.trod enc P w base spare held m f.type ((cs.drop f.offset).take (P.cellsOf f.type)) = some y := by
  obtain ⟨xs, n, _, _, hl, hx, hf⟩ := DataW.trod_struct ht h
  refine ⟨hl, fun i f hi => ?_⟩
  have := hf i f hi
  have hlt : i < fs.size := (Array.getElem?_eq_some_iff.1 hi).1
  rw [List.getElem?_eq_getElem (by omega)] at this
  exact ⟨n, _, this⟩
def flds (enc : TypeId × Value → H) (P : Program) (w : World) (base : Nat) (spare : Nat → Bool) (held : Bool) (cs : List Value) : List Field → Prop
  | [] => True
  | f :: fs => (∃ m y, DataW.trod enc P w base spare held m f.type ((cs.drop f.offset).take (P.cellsOf f.type)) = some y) ∧ flds enc P w base spare held cs fs
theorem fields_list {t : TypeId} {l : List Field} {fuel : Nat} {cs : List Value} {x : DataW H × List MemPlace} (ht : P.underlying t = some (.struct l.toArray)) (h : DataW.trod enc P w base spare held fuel t cs = some x) :
    cs.length = P.cellsOf t ∧ flds enc P w base spare held cs l := by
  obtain ⟨hl, hf⟩ := fields_reads ht h
  refine ⟨hl, ?_⟩
  have key : ∀ l' : List Field, (∀ f ∈ l', f ∈ l) → flds enc P w base spare held cs l' := by
    intro l'
    induction l' with
    | nil => intro _; trivial
    | cons f fs ih =>
      intro hm
      obtain ⟨i, hi, e⟩ := List.getElem_of_mem (hm f List.mem_cons_self)
      exact ⟨hf i f (by simp [hi, e]), ih fun g hg => hm g (List.mem_cons_of_mem _ hg)⟩
  exact key l fun _ h => h
end
end Go.Sp
/-
  What a sample reads as.
-/
namespace Go.Sp
open Go Go.Proofs Go.ChangeShapes Go.WideShapes Go.RowKit
theorem laidTryz : laidOutB Tryz.prog = true := by kernel_rfl
theorem cells_3 : Tryz.prog.cellsOf 3 = 1 := by kernel_rfl
theorem cells_4 : Tryz.prog.cellsOf 4 = 1 := by kernel_rfl
theorem cells_22 : Tryz.prog.cellsOf 22 = 1 := by kernel_rfl
theorem cells_23 : Tryz.prog.cellsOf 23 = 1 := by kernel_rfl
theorem cells_24 : Tryz.prog.cellsOf 24 = 1 := by kernel_rfl
theorem cells_77 : Tryz.prog.cellsOf 77 = 5 := by kernel_rfl
theorem cells_75 : Tryz.prog.cellsOf 75 = 2 := by kernel_rfl
theorem cells_65 : Tryz.prog.cellsOf 65 = 3 := by kernel_rfl
theorem cells_26 : Tryz.prog.cellsOf 26 = 7 := by kernel_rfl
theorem wf64 {n : Int} (h : (Lit.int .i64 n).wf = true) : -9223372036854775808 ≤ n ∧ n ≤ 9223372036854775807 := by
  simpa [Lit.wf, IntKind.min, IntKind.max, IntKind.signed, IntKind.bits] using h
abbrev Bd (n : Int) : Prop := -9223372036854775808 ≤ n ∧ n ≤ 9223372036854775807
theorem two' {α : Type} {l : List α} (h : l.length = 2) : ∃ a b, l = [a, b] := by
  match l, h with
  | [a, b], _ => exact ⟨a, b, rfl⟩
theorem three' {α : Type} {l : List α} (h : l.length = 3) : ∃ a b c, l = [a, b, c] := by
  match l, h with
  | [a, b, c], _ => exact ⟨a, b, c, rfl⟩
theorem five' {α : Type} {l : List α} (h : l.length = 5) : ∃ a b c d e, l = [a, b, c, d, e] := by
  match l, h with
  | [a, b, c, d, e], _ => exact ⟨a, b, c, d, e, rfl⟩
theorem seven' {α : Type} {l : List α} (h : l.length = 7) : ∃ a b c d e f g, l = [a, b, c, d, e, f, g] := by
  match l, h with
  | [a, b, c, d, e, f, g], _ => exact ⟨a, b, c, d, e, f, g, rfl⟩
theorem flatten_map {α : Type} (enc : α → List Value) (xs : List α) : (xs.map enc).flatten = xs.flatMap enc := rfl
section
variable {H : Type} {enc : TypeId × Value → H} {w : World} {base : Nat} {spare : Nat → Bool} {held : Bool}
theorem bools_reads {fuel : Nat} {cs : List Value} {x : DataW H × List MemPlace} (h : DataW.trod enc Tryz.prog w base spare held fuel 22 cs = some x) :
    ∃ (sl : Value) (l : List Bool), cs = [sl] ∧ RdS 1 boE w sl l ∧ l.length ≤ maxLen := by
  obtain ⟨ad, cap, ess, rfl, hm, hr, hes⟩ := slice_reads Tryz.underlying22 (by rw [cells_4]; decide) h
  obtain ⟨xs, rfl, hxs⟩ := exists_map (f := boE) (q := fun _ => True) ess (fun es h => by
    obtain ⟨m, y, hy⟩ := hes es h
    obtain ⟨b, rfl, _⟩ := DataW.trod_bool Tryz.underlying4 hy
    exact ⟨b, rfl, trivial⟩)
  rw [flatten_map, cells_4] at hr
  simp only [List.length_map] at hr hm
  exact ⟨_, xs, by simp, hr, hm⟩
theorem rng_reads {fuel : Nat} {cs : List Value} {x : DataW H × List MemPlace} (h : DataW.trod enc Tryz.prog w base spare held fuel 75 cs = some x) :
    ∃ a b : Int, cs = [vi a, vi b] ∧ Bd a ∧ Bd b := by
  obtain ⟨hl, hf⟩ := fields_list Tryz.underlying75 h
  rw [cells_75] at hl
  obtain ⟨c0, c1, rfl⟩ := two' hl
  obtain ⟨⟨_, _, f0⟩, ⟨_, _, f1⟩, _⟩ := hf
  rw [cells_3] at f0 f1
  obtain ⟨n0, e0, _, w0⟩ := DataW.trod_int Tryz.underlying3 f0
  obtain ⟨n1, e1, _, w1⟩ := DataW.trod_int Tryz.underlying3 f1
  simp at e0 e1
  subst e0; subst e1
  exact ⟨n0, n1, rfl, wf64 w0, wf64 w1⟩
theorem pas_reads {fuel : Nat} {cs : List Value} {x : DataW H × List MemPlace} (h : DataW.trod enc Tryz.prog w base spare held fuel 77 cs = some x) :
    ∃ p : Pas, cs = psE p := by
  obtain ⟨hl, hf⟩ := fields_list Tryz.underlying77 h
  rw [cells_77] at hl
  obtain ⟨c0, c1, c2, c3, c4, rfl⟩ := five' hl
  obtain ⟨⟨_, _, f0⟩, ⟨_, _, f1⟩, ⟨_, _, f2⟩, ⟨_, _, f3⟩, _⟩ := hf
  rw [cells_3] at f0 f1 f2
  rw [cells_75] at f3
  obtain ⟨n0, e0, _, w0⟩ := DataW.trod_int Tryz.underlying3 f0
  obtain ⟨n1, e1, _, w1⟩ := DataW.trod_int Tryz.underlying3 f1
  obtain ⟨n2, e2, _, w2⟩ := DataW.trod_int Tryz.underlying3 f2
  obtain ⟨a, b, e3, _, _⟩ := rng_reads f3
  simp at e0 e1 e2 e3
  obtain ⟨rfl, rfl⟩ := e3
  subst e0; subst e1; subst e2
  exact ⟨⟨n0, n1, n2, a, b⟩, rfl⟩
theorem sgt_reads {fuel : Nat} {cs : List Value} {x : DataW H × List MemPlace} (h : DataW.trod enc Tryz.prog w base spare held fuel 65 cs = some x) :
    ∃ g : Sgt, cs = sgE g := by
  obtain ⟨hl, hf⟩ := fields_list Tryz.underlying65 h
  rw [cells_65] at hl
  obtain ⟨c0, c1, c2, rfl⟩ := three' hl
  obtain ⟨⟨_, _, f0⟩, ⟨_, _, f1⟩, ⟨_, _, f2⟩, _⟩ := hf
  rw [cells_3] at f0 f1
  rw [cells_4] at f2
  obtain ⟨n0, e0, _, w0⟩ := DataW.trod_int Tryz.underlying3 f0
  obtain ⟨n1, e1, _, w1⟩ := DataW.trod_int Tryz.underlying3 f1
  obtain ⟨b, e2, _⟩ := DataW.trod_bool Tryz.underlying4 f2
  simp at e0 e1 e2
  subst e0; subst e1; subst e2
  exact ⟨⟨n0, n1, b⟩, rfl⟩
theorem pass_reads {fuel : Nat} {cs : List Value} {x : DataW H × List MemPlace} (h : DataW.trod enc Tryz.prog w base spare held fuel 23 cs = some x) :
    ∃ (sl : Value) (l : List Pas), cs = [sl] ∧ RdS 5 psE w sl l ∧ l.length ≤ maxLen := by
  obtain ⟨ad, cap, ess, rfl, hm, hr, hes⟩ := slice_reads Tryz.underlying23 (by rw [cells_77]; decide) h
  obtain ⟨xs, rfl, hxs⟩ := exists_map (f := psE) (q := fun _ => True) ess (fun es h => by
    obtain ⟨m, y, hy⟩ := hes es h
    obtain ⟨p, hp⟩ := pas_reads hy
    exact ⟨p, hp, trivial⟩)
  rw [flatten_map, cells_77] at hr
  simp only [List.length_map] at hr hm
  exact ⟨_, xs, by simp, hr, hm⟩
theorem sgts_reads {fuel : Nat} {cs : List Value} {x : DataW H × List MemPlace} (h : DataW.trod enc Tryz.prog w base spare held fuel 24 cs = some x) :
    ∃ (sl : Value) (l : List Sgt), cs = [sl] ∧ RdS 3 sgE w sl l ∧ l.length ≤ maxLen := by
  obtain ⟨ad, cap, ess, rfl, hm, hr, hes⟩ := slice_reads Tryz.underlying24 (by rw [cells_65]; decide) h
  obtain ⟨xs, rfl, hxs⟩ := exists_map (f := sgE) (q := fun _ => True) ess (fun es h => by
    obtain ⟨m, y, hy⟩ := hes es h
    obtain ⟨p, hp⟩ := sgt_reads hy
    exact ⟨p, hp, trivial⟩)
  rw [flatten_map, cells_65] at hr
  simp only [List.length_map] at hr hm
  exact ⟨_, xs, by simp, hr, hm⟩
theorem smp_reads {fuel : Nat} {cs : List Value} {x : DataW H × List MemPlace} (h : DataW.trod enc Tryz.prog w base spare held fuel 26 cs = some x) :
    ∃ (s : Smp) (tv pv gv : Value), cs = [vi s.B, vi s.P, vi s.L, vi s.F, tv, pv, gv] ∧ RdSm w s tv pv gv := by
  obtain ⟨hl, hf⟩ := fields_list Tryz.underlying26 h
  rw [cells_26] at hl
  obtain ⟨c0, c1, c2, c3, c4, c5, c6, rfl⟩ := seven' hl
  obtain ⟨⟨_, _, f0⟩, ⟨_, _, f1⟩, ⟨_, _, f2⟩, ⟨_, _, f3⟩, ⟨_, _, f4⟩, ⟨_, _, f5⟩, ⟨_, _, f6⟩, _⟩ := hf
  rw [cells_3] at f0 f1 f2 f3
  rw [cells_22] at f4
  rw [cells_23] at f5
  rw [cells_24] at f6
  obtain ⟨n0, e0, _, w0⟩ := DataW.trod_int Tryz.underlying3 f0
  obtain ⟨n1, e1, _, w1⟩ := DataW.trod_int Tryz.underlying3 f1
  obtain ⟨n2, e2, _, w2⟩ := DataW.trod_int Tryz.underlying3 f2
  obtain ⟨n3, e3, _, w3⟩ := DataW.trod_int Tryz.underlying3 f3
  obtain ⟨tv, st, e4, h4, _⟩ := bools_reads f4
  obtain ⟨pv, ps, e5, h5, _⟩ := pass_reads f5
  obtain ⟨gv, sg, e6, h6, _⟩ := sgts_reads f6
  simp at e0 e1 e2 e3 e4 e5 e6
  subst e0; subst e1; subst e2; subst e3; subst e4; subst e5; subst e6
  exact ⟨⟨n0, n1, n2, n3, st, ps, sg⟩, _, _, _, rfl, h4, h5, h6⟩
end
end Go.Sp
