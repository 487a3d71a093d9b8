
/-
  The reference's People and Verdict; SampleHolds.
-/
import Derived.Test.YtgfpkpiigkcndaaGreatM5
import Derived.Test.YtgfpkpiigkcndaaGreatRows
import Derived.ProofKit
import Derived.OpenShut
import Derived.Carry
import Derived.Deep.Fields
set_option linter.unusedVariables false
set_option linter.unusedSimpArgs false
set_option linter.deprecated false
namespace Go.Sp
open Go Go.Proofs
theorem rPeople_c (s : Smp) (hp : 0 ≤ s.P ∧ s.P ≤ 4) (l : List Bool) (hl : l.length = 4) (tv pv gv : Value) (hone : (tv.oneCell' = true ∧ pv.oneCell' = true) ∧ gv.oneCell' = true) (w : World) :
    CnX Tryz.prog 25 #[smV s tv pv gv, .agg (bsV l)] w [] (fun y : Option Addr × Nat => slV (pplL s l).length y) (fun y w' => RdS 1 inE w' (slV (pplL s l).length y) (pplL s l)) := by
  refine cnx0 (vs := [_, _]) Tryz.func25 rfl rfl ?_
  all_goals refine tc_seq fun K1 hK1 => ?_; refine tc_region ?_; refine tl_e (e_box rfl rfl rfl) rfl (fun b2 _ => ?_); refine tl_e (e_box rfl rfl rfl) rfl (fun b3 _ => ?_); refine tl_q (y_assign rfl) rfl ?_; refine tl_nil ?_; ((refine hK1 ?_; try (clear hK1; clear K1)))
  all_goals refine tc_seq fun K2 hK2 => ?_; refine tc_region ?_; refine tl_q (y_assign rfl) rfl ?_; refine tl_nil ?_; ((refine hK2 ?_; try (clear hK2; clear K2)))
  all_goals refine tc_seq fun K3 hK3 => ?_; refine tc_seq fun K4 hK4 => ?_; refine tc_region ?_; refine tl_q (y_assign rfl) rfl ?_; refine tl_nil ?_; ((refine hK4 ?_; try (clear hK4; clear K4)))
  all_goals refine tc_block ?_
  all_goals (
   refine tc_loop (fun p : Nat × OwnB => p.1 ≤ s.P.toNat ∧ okE 1 (pplN l p.1) p.2) (fun p => [(2, ptr b2), (3, ptr b3), (5, ouV (pplN l p.1).length p.2), (6, vi p.1)]) (fun _ => [(w, [])]) (fun p => (b3, .cells (bsV l) 41 (0, 0)) :: (b2, .cells #[vi s.B, vi s.P, vi s.L, vi s.F, tv, pv, gv] 26 (0, 0)) :: slE 3 inE (pplN l p.1) p.2) (fun p => s.P.toNat - p.1) ?_ ?_
   · exact tk_start (0, none) ⟨Nat.zero_le _, rfl⟩ (.cons rfl (.cons rfl (.cons rfl (.cons rfl .nil)))) (fun _ h => by rw [slE_none]; exact h.subl SB.s SB.s)
   · rintro ⟨k, oo⟩ ⟨hk, hok⟩
     dsimp only at hk hok ⊢
     have hkl := pplN_len l k
     all_goals refine tc_seq fun K5 hK5 => ?_; refine tc_seq fun K6 hK6 => ?_; refine tc_region ?_; refine tl_q (y_move rfl) rfl ?_; refine tl_q (y_field rfl) rfl ?_; refine tl_q (y_load1 rfl (by repeat constructor) (by rfl)) rfl ?_; refine tl_q (y_lss rfl rfl) rfl ?_; refine tl_nil ?_; ((refine hK6 ?_; try (clear hK6; clear K6)))
     all_goals (
      refine tc_cond rfl (fun hc => ?_) (fun hc => ?_)
      · try simp only [qn1, qn2, qn3, qn4, qn5, qn6, qn7, qn8] at hc
        all_goals refine tc_skip ?_; ((refine hK5 ?_; try (clear hK5; clear K5)))
        all_goals refine tc_seq fun K7 hK7 => ?_; refine tc_block ?_; refine tc_seq fun K8 hK8 => ?_; refine tc_region ?_; refine tl_q (y_move rfl) rfl ?_; refine tl_q (y_indexA rfl rfl (by omega)) rfl ?_; ((refine tl_q (y_load1 (v := .bool (l.getD k false)) rfl (by repeat constructor) (by rw [show 0 + Int.toNat (k : Int) * 1 = k from by omega]; exact cellAt_bs (by omega))) rfl ?_))
        all_goals refine tl_nil ?_; ((refine hK8 ?_; try (clear hK8; clear K8)))
        all_goals (
         refine tc_cond rfl (fun hc => ?_) (fun hc => ?_)
         · all_goals (skip)
           all_goals refine tc_region ?_; refine tl_q (y_move rfl) rfl ?_; refine tl_q (y_move rfl) rfl ?_; (refine tl_e (e_bslice rfl (by (repeat (first | exact .nil | apply PV.one rfl rfl)); done) rfl rfl) rfl (fun _ _ => ?_))
           all_goals (refine tl_e (e_appendE (enc := inE) (xs := pplN l k) (ys := [(k : Int)]) inE_len inE_one rfl rfl rfl hok (fun _ => by repeat constructor) (fun w' hw' => RdS.own0 inE_len hw' (by repeat constructor)) (by simp only [List.length_cons, List.length_nil]; omega) rfl) rfl (fun oo' hok' => ?_))
           all_goals refine tl_q (y_assign rfl) rfl ?_; refine tl_nil ?_; ((refine hK7 ?_; try (clear hK7; clear K7)))
           all_goals refine tc_region ?_; refine tl_q (y_move rfl) rfl ?_; refine tl_q (y_add rfl rfl (by omega)) rfl ?_; refine tl_q (y_assign rfl) rfl ?_; refine tl_nil ?_
           all_goals (
            first
            | (have hs := pplN_yes hc
               exact tk_round (k + 1, oo') ⟨by dsimp only; omega, by dsimp only; rw [hs]; exact hok'⟩ (by dsimp only; omega) (.cons rfl (.cons rfl (.cons (by dsimp only; rw [hs]; rfl) (.cons rfl .nil)))) (fun _ h => by dsimp only; rw [hs]; exact h.subl SB.s SB.s))
            | (have hs := pplN_no hc
               exact tk_round (k + 1, oo) ⟨by dsimp only; omega, by dsimp only; rw [hs]; exact hok⟩ (by dsimp only; omega) (.cons rfl (.cons rfl (.cons (by dsimp only; rw [hs]; rfl) (.cons rfl .nil)))) (fun _ h => by dsimp only; rw [hs]; exact h.subl SB.s SB.s)))
         · all_goals (skip)
           all_goals refine tc_skip ?_; ((refine hK7 ?_; try (clear hK7; clear K7)))
           all_goals refine tc_region ?_; refine tl_q (y_move rfl) rfl ?_; refine tl_q (y_add rfl rfl (by omega)) rfl ?_; refine tl_q (y_assign rfl) rfl ?_; refine tl_nil ?_
           all_goals (
            first
            | (have hs := pplN_yes hc
               exact tk_round (k + 1, oo') ⟨by dsimp only; omega, by dsimp only; rw [hs]; exact hok'⟩ (by dsimp only; omega) (.cons rfl (.cons rfl (.cons (by dsimp only; rw [hs]; rfl) (.cons rfl .nil)))) (fun _ h => by dsimp only; rw [hs]; exact h.subl SB.s SB.s))
            | (have hs := pplN_no hc
               exact tk_round (k + 1, oo) ⟨by dsimp only; omega, by dsimp only; rw [hs]; exact hok⟩ (by dsimp only; omega) (.cons rfl (.cons rfl (.cons (by dsimp only; rw [hs]; rfl) (.cons rfl .nil)))) (fun _ h => by dsimp only; rw [hs]; exact h.subl SB.s SB.s))))
      · try simp only [qn1, qn2, qn3, qn4, qn5, qn6, qn7, qn8] at hc
        all_goals refine tc_exit ?_; ((refine hK3 ?_; try (clear hK3; clear K3)))
        all_goals refine tc_seq fun K9 hK9 => ?_; refine tc_region ?_; refine tl_q (y_move rfl) rfl ?_; refine tl_q (y_assign rfl) rfl ?_; refine tl_nil ?_; ((refine hK9 ?_; try (clear hK9; clear K9)))
        all_goals refine tc_ret ?_; (repeat (first | refine tk_then_ret ?_))
        all_goals (refine tk_ret rfl rfl (.cons (.tmp rfl) .nil) ?_)
        all_goals (
         obtain rfl : k = s.P.toNat := by omega
         exact fun w' hw' => ⟨ouA oo, rfl, hw'.fr (w0 := w) (S := []) MI.m, RdS.ofO inE_len hok hw' (by repeat constructor)⟩)))
theorem rVerdict_c (q : Akd) (hq : AkOk q) (w : World) : CnV Tryz.prog 29 #[.agg (akL q).toArray] w (vi (rverF q)) := by
  refine cnv (vs := [_]) Tryz.func29 rfl rfl ?_
  all_goals refine tc_seq fun K1 hK1 => ?_; refine tc_region ?_; refine tl_e (e_box rfl rfl rfl) rfl (fun b1 _ => ?_); refine tl_q (y_assign rfl) rfl ?_; refine tl_nil ?_; ((refine hK1 ?_; try (clear hK1; clear K1)))
  all_goals refine tc_seq fun K2 hK2 => ?_; refine tc_seq fun K3 hK3 => ?_; refine tc_region ?_; refine tl_q (y_field rfl) rfl ?_; refine tl_q (y_load1 (v := vi q.least) rfl (by repeat constructor) (cellA (getA_l hq))) rfl ?_; refine tl_q (y_gtr rfl rfl) rfl ?_; refine tl_nil ?_; ((refine hK3 ?_; try (clear hK3; clear K3)))
  all_goals (
   refine tc_cond rfl (fun hc => ?_) (fun hc => ?_)
   · try simp only [qn1, qn2, qn3, qn4, qn5, qn6, qn7, qn8] at hc
     all_goals refine tc_seq fun K4 hK4 => ?_; refine tc_region ?_; refine tl_q (y_assign rfl) rfl ?_; refine tl_nil ?_; ((refine hK4 ?_; try (clear hK4; clear K4)))
     all_goals refine tc_ret ?_; (repeat (refine tk_then_ret ?_))
     all_goals (refine tk_ret rfl rfl (.cons (.tmp rfl) .nil) ?_)
     all_goals (
      refine fun w' hw' => ⟨congrArg (fun n => Ending.returned (Value.int .i64 n)) ?_, hw'.fr (w0 := w) (S := []) MI.m⟩
      unfold rverF
      first
      | exact (if_pos (by assumption)).symm
      | (rw [if_neg (by omega), if_pos (by assumption)])
      | (rw [if_neg (by omega), if_neg (by assumption)]))
   · try simp only [qn1, qn2, qn3, qn4, qn5, qn6, qn7, qn8] at hc
     all_goals refine tc_skip ?_; ((refine hK2 ?_; try (clear hK2; clear K2)))
     all_goals refine tc_seq fun K5 hK5 => ?_; refine tc_seq fun K6 hK6 => ?_; refine tc_region ?_; refine tl_q (y_field rfl) rfl ?_; refine tl_q (y_load1 (v := vi q.most) rfl (by repeat constructor) (cellA (getA_m hq))) rfl ?_; refine tl_q (y_eql rfl rfl) rfl ?_; refine tl_nil ?_; ((refine hK6 ?_; try (clear hK6; clear K6)))
     all_goals (
      refine tc_cond rfl (fun hc => ?_) (fun hc => ?_)
      · try simp only [qn1, qn2, qn3, qn4, qn5, qn6, qn7, qn8] at hc
        all_goals refine tc_seq fun K7 hK7 => ?_; refine tc_region ?_; refine tl_q (y_assign rfl) rfl ?_; refine tl_nil ?_; ((refine hK7 ?_; try (clear hK7; clear K7)))
        all_goals refine tc_ret ?_; (repeat (refine tk_then_ret ?_))
        all_goals (refine tk_ret rfl rfl (.cons (.tmp rfl) .nil) ?_)
        all_goals (
         refine fun w' hw' => ⟨congrArg (fun n => Ending.returned (Value.int .i64 n)) ?_, hw'.fr (w0 := w) (S := []) MI.m⟩
         unfold rverF
         first
         | exact (if_pos (by assumption)).symm
         | (rw [if_neg (by omega), if_pos (by assumption)])
         | (rw [if_neg (by omega), if_neg (by assumption)]))
      · try simp only [qn1, qn2, qn3, qn4, qn5, qn6, qn7, qn8] at hc
        all_goals refine tc_skip ?_; ((refine hK5 ?_; try (clear hK5; clear K5)))
        all_goals refine tc_seq fun K8 hK8 => ?_; refine tc_region ?_; refine tl_q (y_assign rfl) rfl ?_; refine tl_nil ?_; ((refine hK8 ?_; try (clear hK8; clear K8)))
        all_goals refine tc_ret ?_; (repeat (first | refine tk_then_ret ?_))
        all_goals (refine tk_ret rfl rfl (.cons (.tmp rfl) .nil) ?_)
        all_goals (
         refine fun w' hw' => ⟨congrArg (fun n => Ending.returned (Value.int .i64 n)) ?_, hw'.fr (w0 := w) (S := []) MI.m⟩
         unfold rverF
         first
         | exact (if_pos (by assumption)).symm
         | (rw [if_neg (by omega), if_pos (by assumption)])
         | (rw [if_neg (by omega), if_neg (by assumption)]))))
theorem asRF_ok {s : Smp} (hv : VSm s) (b : Int) : AkOk (asRF s b) := ⟨(asR_i hv (evT_ok hv)).h, (asR_i hv (evT_ok hv)).o⟩
end Go.Sp
/-
  SampleTells.
-/
namespace Go.Sp
open Go Go.Proofs
def rvN (s : Smp) (n : Nat) : List Int := (List.range n).map fun (b : Nat) => rverF (asRF s (b : Int))
def rlN (s : Smp) (n : Nat) : List Int := (List.range n).map fun (b : Nat) => (asRF s (b : Int)).least
def nvN (s : Smp) (n : Nat) : Bool := (List.range n).any fun (b : Nat) => decide (0 < (asRF s (b : Int)).least)
def smN (s : Smp) (n : Nat) : Bool := (List.range n).any fun (b : Nat) => decide (0 < (asRF s (b : Int)).most)
theorem rvN_succ (s : Smp) (n : Nat) : rvN s (n + 1) = rvN s n ++ [rverF (asRF s (n : Int))] := by simp [rvN, List.range_succ]
theorem rlN_succ (s : Smp) (n : Nat) : rlN s (n + 1) = rlN s n ++ [(asRF s (n : Int)).least] := by simp [rlN, List.range_succ]
theorem nvN_succ (s : Smp) (n : Nat) : nvN s (n + 1) = (nvN s n || decide (0 < (asRF s (n : Int)).least)) := by simp [nvN, List.range_succ]
theorem smN_succ (s : Smp) (n : Nat) : smN s (n + 1) = (smN s n || decide (0 < (asRF s (n : Int)).most)) := by simp [smN, List.range_succ]
theorem rvN_len (s : Smp) (n : Nat) : (rvN s n).length = n := by simp [rvN]
theorem rlN_len (s : Smp) (n : Nat) : (rlN s n).length = n := by simp [rlN]
theorem tells_v {s : Smp} (hv : VSm s) (hc : consF s = true) : vdL s = rvN s s.B.toNat := by
  rw [vdL_v (sure_ok hv hc)]
  unfold vdN rvN
  refine List.map_congr_left fun b hb => ?_
  exact (asR_verd hv (cons_poss hc (List.mem_range.1 hb))).symm
theorem tells_l {s : Smp} (hv : VSm s) (hc : consF s = true) : lsL s = rlN s s.B.toNat := by
  rw [lsL_v (sure_ok hv hc)]
  unfold lsN' rlN
  refine List.map_congr_left fun b hb => ?_
  exact (asR_least hv (cons_poss hc (List.mem_range.1 hb))).symm
theorem nv_iff {s : Smp} : nvN s s.B.toNat = true ↔ (1 : Int) ∈ rvN s s.B.toNat := by
  unfold nvN rvN
  rw [List.any_eq_true, List.mem_map]
  refine exists_congr fun b => and_congr_right fun _ => ?_
  rw [decide_eq_true_eq]
  unfold rverF
  split
  · rename_i h; exact ⟨fun _ => rfl, fun _ => h⟩
  · rename_i h
    refine ⟨fun g => absurd g h, fun g => ?_⟩
    split at g <;> cases g
theorem sm_iff {s : Smp} (hv : VSm s) (hn : nvN s s.B.toNat = false) : smN s s.B.toNat = true ↔ (3 : Int) ∈ rvN s s.B.toNat := by
  have hno : ∀ b ∈ List.range s.B.toNat, ¬ 0 < (asRF s (b : Nat)).least := fun b hb g => by
    have : nvN s s.B.toNat = true := List.any_eq_true.2 ⟨b, hb, decide_eq_true g⟩
    rw [hn] at this; cases this
  unfold smN rvN
  rw [List.any_eq_true, List.mem_map]
  refine exists_congr fun b => and_congr_right fun hb => ?_
  have h0 := (asR_i hv (evT_ok hv (b := (b : Int)) (N := (manyS s.ps).toNat))).m0.1
  have h1 := hno b hb
  rw [decide_eq_true_eq]
  unfold rverF
  rw [if_neg h1]
  split
  · rename_i h
    have h' : (asR s (evT s (b : Int) (manyS s.ps).toNat)).most = 0 := h
    exact ⟨fun g => by have g' : 0 < (asR s (evT s (b : Int) (manyS s.ps).toNat)).most := g; omega, fun g => by cases g⟩
  · rename_i h
    have h' : ¬ (asR s (evT s (b : Int) (manyS s.ps).toNat)).most = 0 := h
    exact ⟨fun _ => rfl, fun _ => by show 0 < (asR s (evT s (b : Int) (manyS s.ps).toNat)).most; omega⟩
theorem alF_nv {s : Smp} (hv : VSm s) (hc : consF s = true) (h : nvN s s.B.toNat = true) : alF s = 2 := by
  unfold alF
  rw [if_neg (fun g => g (sure_ok hv hc)), tells_v hv hc, if_pos (nv_iff.1 h)]
theorem not_mem_of {a : Bool} {p : Prop} (h : a = true ↔ p) (ha : a = false) : ¬ p := fun g => by rw [h.2 g] at ha; cases ha
theorem alF_sm {s : Smp} (hv : VSm s) (hc : consF s = true) (h : nvN s s.B.toNat = false) (h2 : smN s s.B.toNat = true) : alF s = 3 := by
  unfold alF
  rw [if_neg (fun g => g (sure_ok hv hc)), tells_v hv hc, if_neg (not_mem_of nv_iff h), if_pos ((sm_iff hv h).1 h2)]
theorem alF_no {s : Smp} (hv : VSm s) (hc : consF s = true) (h : nvN s s.B.toNat = false) (h2 : smN s s.B.toNat = false) : alF s = 1 := by
  unfold alF
  rw [if_neg (fun g => g (sure_ok hv hc)), tells_v hv hc, if_neg (not_mem_of nv_iff h), if_neg (not_mem_of (sm_iff hv h) h2)]
theorem tl_no {s : Smp} (he : ¬ vdE s = 0) : ((vdL s).length = 0 ∧ (lsL s).length = 0) ∧ alF s = 0 := ⟨⟨by rw [show vdL s = [] from if_neg he]; rfl, by rw [show lsL s = [] from if_neg he]; rfl⟩, if_pos he⟩
set_option maxHeartbeats 16000000 in
theorem stells_c (s : Smp) (tv pv gv : Value) (w : World) (hr : RdSm w s tv pv gv) : CnV Tryz.prog 4 #[smV s tv pv gv] w (.bool true) := by
  have hr0 := hr
  obtain ⟨adt, cpt, _, _, rfl, _, _⟩ := hr.st.open boE_len false
  obtain ⟨adp, cpp, _, _, rfl, _, _⟩ := hr.ps.open psE_len pas0
  obtain ⟨adg, cpg, _, _, rfl, _, _⟩ := hr.sg.open sgE_len sgt0
  refine cnv (vs := [_]) Tryz.func4 rfl rfl ?_
  all_goals refine tc_seq fun K1 hK1 => ?_; refine tc_region ?_; refine tl_e (e_box rfl rfl rfl) rfl (fun b1 _ => ?_); refine tl_q (y_assign rfl) rfl ?_; refine tl_nil ?_; ((refine hK1 ?_; try (clear hK1; clear K1)))
  all_goals refine tc_seq fun K2 hK2 => ?_; refine tc_seq fun K3 hK3 => ?_; refine tc_lay ([]) (SB.s .nil) (fun wl1 hl1 => ?_); refine tc_region ?_; refine tl_q (y_loadWf rfl (hl1.at (by repeat constructor)) MI.m (by simp) (by rfl)) rfl ?_; refine tl_e (e_callV rfl (.cons rfl (.cons rfl .nil)) (fun w' hw' => lfew_c s 40 _ _ _ w' (hr0.fr (hw'.fr (w0 := w) (S := []) MI.m)))) rfl (fun _ _ => ?_); refine tl_q (y_not_dec rfl) rfl ?_; refine tl_nil ?_; ((refine hK3 ?_; try (clear hK3; clear K3)))
  all_goals (
   refine tc_cond rfl (fun hc => ?_) (fun hc => ?_)
   · try simp only [qn1, qn2, qn3, qn4, qn5, qn6, qn7, qn8] at hc
     all_goals refine tc_seq fun K4 hK4 => ?_; refine tc_region ?_; refine tl_e (e_callV rfl .nil (fun w' _ => awake_c w')) rfl (fun _ _ => ?_); refine tl_q (y_assign rfl) rfl ?_; refine tl_nil ?_; ((refine hK4 ?_; try (clear hK4; clear K4)))
     all_goals refine tc_ret ?_; (repeat (refine tk_then_ret ?_))
     all_goals (refine tk_ret rfl rfl (.cons (.tmp rfl) .nil) ?_)
     all_goals (
      exact fun w' hw' => ⟨rfl, hw'.fr (w0 := w) (S := []) MI.m⟩)
   · try simp only [qn1, qn2, qn3, qn4, qn5, qn6, qn7, qn8] at hc
     all_goals refine tc_skip ?_; ((refine hK2 ?_; try (clear hK2; clear K2)))
     all_goals refine tc_seq fun K5 hK5 => ?_; (have hfw : fewS s 40 := by assumption)
     all_goals ((have hf := hfw.1.few; have hno := tl_no (s := s)))
     all_goals refine tc_region ?_; refine tl_q (y_loadWf rfl (hl1.at (by repeat constructor)) MI.m (by simp) (by rfl)) rfl ?_; refine tl_e (e_callX rfl (.cons rfl .nil) (fun w' hw' => lawSample_c s hf _ _ _ w' (hr0.fr (hw'.fr (w0 := w) (S := []) MI.m)))) rfl (fun x3 hx3 => ?_); refine tl_e (e_callX rfl (.cons rfl .nil) (fun w' hw' => verdictsI_c s hf _ _ _ w' (hx3.1.fr (hw'.calm hx3.2 MI.m (List.Sublist.refl _))))) rfl (fun v3 hv3 => ?_); refine tl_q (y_move rfl) rfl ?_; refine tl_q (y_extract rfl rfl) rfl ?_; refine tl_q (y_extract rfl rfl) rfl ?_; refine tl_q (y_assign rfl) rfl ?_; refine tl_q (y_assign rfl) rfl ?_; refine tl_nil ?_; ((refine hK5 ?_; try (clear hK5; clear K5)))
     all_goals refine tc_seq fun K6 hK6 => ?_; refine tc_region ?_; refine tl_q (y_loadWf rfl (hl1.at (by repeat constructor)) MI.m (by simp) (by rfl)) rfl ?_; refine tl_e (e_callX rfl (.cons rfl .nil) (fun w' hw' => lawSample_c s hf _ _ _ w' (hr0.fr (hw'.fr (w0 := w) (S := []) MI.m)))) rfl (fun x4 hx4 => ?_); refine tl_e (e_callV rfl (.cons rfl .nil) (fun w' hw' => alike_c s hf _ _ _ w' (hx4.1.fr (hw'.calm hx4.2 MI.m (List.Sublist.refl _))))) rfl (fun _ _ => ?_); refine tl_q (y_move rfl) rfl ?_; refine tl_q (y_extract rfl rfl) rfl ?_; refine tl_q (y_extract rfl rfl) rfl ?_; refine tl_q (y_assign rfl) rfl ?_; refine tl_q (y_assign rfl) rfl ?_; refine tl_nil ?_; ((refine hK6 ?_; try (clear hK6; clear K6)))
     all_goals refine tc_seq fun K7 hK7 => ?_; refine tc_region ?_; refine tl_q (y_loadWf rfl (hl1.at (by repeat constructor)) MI.m (by simp) (by rfl)) rfl ?_; refine tl_e (e_callX rfl (.cons rfl .nil) (fun w' hw' => lawSample_c s hf _ _ _ w' (hr0.fr (hw'.fr (w0 := w) (S := []) MI.m)))) rfl (fun x5 hx5 => ?_); refine tl_e (e_callX rfl (.cons rfl .nil) (fun w' hw' => leastI_c s hf _ _ _ w' (hx5.1.fr (hw'.calm hx5.2 MI.m (List.Sublist.refl _))))) rfl (fun l5 hl5 => ?_); refine tl_q (y_move rfl) rfl ?_; refine tl_q (y_extract rfl rfl) rfl ?_; refine tl_q (y_extract rfl rfl) rfl ?_; refine tl_q (y_assign rfl) rfl ?_; refine tl_q (y_assign rfl) rfl ?_; refine tl_nil ?_; ((refine hK7 ?_; try (clear hK7; clear K7)))
     all_goals refine tc_seq fun K8 hK8 => ?_; refine tc_seq fun K9 hK9 => ?_; refine tc_region ?_; refine tl_q (y_loadWf rfl (hl1.at (by repeat constructor)) MI.m (by simp) (by rfl)) rfl ?_; refine tl_e (e_callV rfl (.cons rfl .nil) (fun w' hw' => lsure_c s hf _ _ _ w' (hr0.fr (hw'.fr (w0 := w) (S := []) MI.m)))) rfl (fun _ _ => ?_); refine tl_q (y_assign rfl) rfl ?_; refine tl_nil ?_; ((refine hK9 ?_; try (clear hK9; clear K9)))
     all_goals refine tc_seq fun K10 hK10 => ?_; refine tc_region ?_; refine tl_q (y_move rfl) rfl ?_; refine tl_q (y_neq rfl rfl) rfl ?_; refine tl_nil ?_; ((refine hK10 ?_; try (clear hK10; clear K10)))
     all_goals (
      refine tc_cond rfl (fun hc => ?_) (fun hc => ?_)
      · try simp only [qn1, qn2, qn3, qn4, qn5, qn6, qn7, qn8] at hc
        all_goals refine tc_seq fun K11 hK11 => ?_; refine tc_region ?_; refine tl_q (y_move rfl) rfl ?_; refine tl_q (y_move rfl) rfl ?_; refine tl_q (y_eql rfl rfl) rfl ?_; refine tl_q (y_move rfl) rfl ?_; ((refine tl_gs rfl rfl (fun hc => ?_) (fun hc => ?_) <;> (try simp only [qn1, qn2, qn3, qn4, qn5, qn6, qn7, qn8] at hc) <;> (refine tl_qg rfl rfl (y_move rfl) rfl ?_)))
        all_goals (refine tl_qg rfl rfl (y_move rfl) rfl ?_); refine tl_qg rfl rfl (y_eql rfl rfl) rfl ?_; refine tl_q (y_pick_t rfl rfl) rfl ?_; refine tl_q (y_move rfl) rfl ?_; ((refine tl_gs rfl rfl (fun hc => ?_) (fun hc => ?_) <;> (try simp only [qn1, qn2, qn3, qn4, qn5, qn6, qn7, qn8] at hc) <;> (refine tl_qg rfl rfl (y_move rfl) rfl ?_)))
        all_goals (refine tl_qg rfl rfl (y_move rfl) rfl ?_); refine tl_qg rfl rfl (y_eql rfl rfl) rfl ?_; refine tl_q (y_pick_t rfl rfl) rfl ?_; refine tl_q (y_move rfl) rfl ?_; ((refine tl_gs rfl rfl (fun hc => ?_) (fun hc => ?_) <;> (try simp only [qn1, qn2, qn3, qn4, qn5, qn6, qn7, qn8] at hc) <;> (refine tl_qg rfl rfl (y_move rfl) rfl ?_)))
        all_goals (refine tl_qg rfl rfl (y_len rfl) rfl ?_); refine tl_qg rfl rfl (y_move rfl) rfl ?_; refine tl_qg rfl rfl (y_len rfl) rfl ?_; refine tl_qg rfl rfl (y_add rfl rfl (by omega)) rfl ?_; refine tl_qg rfl rfl (y_move rfl) rfl ?_; refine tl_qg rfl rfl (y_add rfl rfl (by omega)) rfl ?_; refine tl_qg rfl rfl (y_eql rfl rfl) rfl ?_; refine tl_q (y_pick_t rfl rfl) rfl ?_; refine tl_q (y_move rfl) rfl ?_; ((refine tl_gs rfl rfl (fun hc => ?_) (fun hc => ?_) <;> (try simp only [qn1, qn2, qn3, qn4, qn5, qn6, qn7, qn8] at hc) <;> (first | (exfalso; omega) | refine tl_eg rfl rfl rfl (e_callV rfl .nil (fun w' _ => awake_c w')) (fun _ _ => ?_))))
        all_goals (refine tl_q (y_pick_t rfl rfl) rfl ?_); refine tl_q (y_assign rfl) rfl ?_; refine tl_nil ?_; ((refine hK11 ?_; try (clear hK11; clear K11)))
        all_goals refine tc_ret ?_; (repeat (refine tk_then_ret ?_))
        all_goals (refine tk_ret rfl rfl (.cons (.tmp rfl) .nil) ?_)
        all_goals (
         exact fun w' hw' => ⟨rfl, hw'.fr (w0 := w) (S := []) MI.m⟩)
      · try simp only [qn1, qn2, qn3, qn4, qn5, qn6, qn7, qn8] at hc
        all_goals refine tc_skip ?_; ((refine hK8 ?_; try (clear hK8; clear K8)))
        all_goals refine tc_seq fun K12 hK12 => ?_; (have hE : vdE s = 0 := by omega)
        all_goals ((obtain ⟨hv, _, hcs⟩ := sureE_0 (show sureE s true = 0 from hE); have hL6 : s.L ≤ 6 := (hfw.2.resolve_left (fun g => g (chkS_0.2 hv))).2.1; have hb1 := hv.b1; have hb3 := hv.b3))
        all_goals refine tc_region ?_; refine tl_q (y_assign rfl) rfl ?_; refine tl_q (y_assign rfl) rfl ?_; refine tl_nil ?_; ((refine hK12 ?_; try (clear hK12; clear K12)))
        all_goals refine tc_seq fun K13 hK13 => ?_; refine tc_region ?_; refine tl_q (y_assign rfl) rfl ?_; refine tl_q (y_assign rfl) rfl ?_; refine tl_nil ?_; ((refine hK13 ?_; try (clear hK13; clear K13)))
        all_goals refine tc_seq fun K14 hK14 => ?_; refine tc_seq fun K15 hK15 => ?_; refine tc_region ?_; refine tl_q (y_assign rfl) rfl ?_; refine tl_nil ?_; ((refine hK15 ?_; try (clear hK15; clear K15)))
        all_goals refine tc_block ?_
        all_goals (
         refine tc_loop (fun p : Nat × OwnB × OwnB => (p.1 : Int) ≤ s.B ∧ okE 1 (rvN s p.1) p.2.1 ∧ okE 1 (rlN s p.1) p.2.2) (fun p => [(1, ptr b1), (3, slV (vdL s).length v3.1), (4, vi (vdE s)), (5, vi (alF s)), (6, vi (vdE s)), (7, slV (lsL s).length l5.1), (8, vi (vdE s)), (10, ouV (rvN s p.1).length p.2.1), (11, ouV (rlN s p.1).length p.2.2), (12, .bool (nvN s p.1)), (13, .bool (smN s p.1)), (14, vi p.1)]) (fun _ => [(l5.2, []), (v3.2, []), (wl1, []), (w, [])]) (fun p => slE 3 inE (rvN s p.1) p.2.1 ++ slE 3 inE (rlN s p.1) p.2.2) (fun p => s.B.toNat - p.1) ?_ ?_
         · exact tk_start (0, none, none) ⟨by dsimp only; omega, rfl, rfl⟩ (.cons rfl (.cons rfl (.cons rfl (.cons rfl (.cons rfl (.cons rfl (.cons rfl (.cons rfl (.cons rfl (.cons rfl (.cons rfl (.cons rfl .nil)))))))))))) (fun _ h => by rw [slE_none, slE_none]; exact h.subl SB.s SB.s)
         · rintro ⟨k, o1, o2⟩ ⟨hk, hok1, hok2⟩
           dsimp only at hk hok1 hok2 ⊢
           have hrl1 := rvN_len s k
           have hrl2 := rlN_len s k
           have hko := asRF_ok hv (k : Int)
           all_goals refine tc_seq fun K16 hK16 => ?_; refine tc_seq fun K17 hK17 => ?_; refine tc_region ?_; refine tl_q (y_move rfl) rfl ?_; refine tl_q (y_field rfl) rfl ?_; refine tl_q (y_load1f rfl (hl1.at (by repeat constructor)) MI.m (by simp) (by rfl)) rfl ?_; refine tl_q (y_lss rfl rfl) rfl ?_; refine tl_nil ?_; ((refine hK17 ?_; try (clear hK17; clear K17)))
           all_goals (
            refine tc_cond rfl (fun hc => ?_) (fun hc => ?_)
            · try simp only [qn1, qn2, qn3, qn4, qn5, qn6, qn7, qn8] at hc
              all_goals refine tc_skip ?_; ((refine hK16 ?_; try (clear hK16; clear K16)))
              all_goals refine tc_seq fun K18 hK18 => ?_; refine tc_block ?_; refine tc_seq fun K19 hK19 => ?_; refine tc_region ?_; refine tl_q (y_loadWf rfl (hl1.at (by repeat constructor)) MI.m (by simp) (by rfl)) rfl ?_; refine tl_q (y_move rfl) rfl ?_; refine tl_e (e_callV rfl (.cons rfl (.cons rfl .nil)) (fun w' hw' => rAsk_c s hf hv hL6 (k : Nat) _ _ _ w' (hr0.fr (hw'.fr (w0 := w) (S := []) MI.m)))) rfl (fun _ _ => ?_); refine tl_e (e_allocN rfl) rfl (fun b15 _ => ?_); refine tl_e (e_storeW rfl rfl (by repeat constructor) (by rw [List.size_toArray, akL_len hko]) (by rfl) (akL_one _)) rfl (fun _ _ => ?_); refine tl_nil ?_; ((refine hK19 ?_; try (clear hK19; clear K19)))
              all_goals (
               refine tc_join (fun p : OwnB × OwnB => okE 1 (rvN s (k + 1)) p.1 ∧ okE 1 (rlN s (k + 1)) p.2) (fun p => [(1, ptr b1), (3, slV (vdL s).length v3.1), (4, vi (vdE s)), (5, vi (alF s)), (6, vi (vdE s)), (7, slV (lsL s).length l5.1), (8, vi (vdE s)), (10, ouV (rvN s (k + 1)).length p.1), (11, ouV (rlN s (k + 1)).length p.2), (12, .bool (nvN s k)), (13, .bool (smN s k)), (14, vi k), (15, ptr b15)]) (fun _ => [(l5.2, []), (v3.2, []), (wl1, []), (w, [])]) (fun p => (b15, .cells (akL (asRF s (k : Nat))).toArray 44 (0, 0)) :: (slE 3 inE (rvN s (k + 1)) p.1 ++ slE 3 inE (rlN s (k + 1)) p.2)) ?_ ?_
               · skip
                 all_goals refine tc_drawS ([(b15, .cells (akL (asRF s (k : Nat))).toArray 44 (0, 0))]) (by kernel_rfl) ?_; refine tx_p 0 rfl (by kernel_rfl) (y_move rfl) rfl (fun _ _ _ h => h) (fun _ h => h.subl SB.s SB.s) ?_; refine tx_qS 1 rfl (by kernel_rfl) (y_loadW rfl (by repeat constructor) (by rw [List.size_toArray, akL_len hko])) rfl (fun _ _ _ h => h) (fun _ h => h.subl SB.s SB.s) ?_; refine tx_p 5 rfl (by kernel_rfl) (y_move rfl) rfl (fun _ _ _ h => h) (fun _ h => h.subl SB.s SB.s) ?_; refine tx_p 6 rfl (by kernel_rfl) (y_field rfl) rfl (fun _ _ _ h => h) (fun _ h => h.subl SB.s SB.s) ?_; refine tx_qS 7 rfl (by kernel_rfl) (y_load1 (v := vi (asRF s (k : Nat)).least) rfl (by repeat constructor) (cellA (getA_l hko))) rfl (fun _ _ _ h => h) (fun _ h => h.subl SB.s SB.s) ?_
                 all_goals (
                  refine tx_pair 2 8 (by kernel_rfl) ?_ ?_
                  rotate_left
                  focus (
                   (refine to_e rfl rfl (e_bslice rfl (by (repeat (first | exact .nil | apply PV.one rfl rfl)); done) rfl rfl) (.inr ⟨fun _ _ h => h.subl SB.s SB.s, fun _ h => h⟩) (fun b86 _ => ?_))
                   all_goals refine tx_single 2 (by kernel_rfl) (to_e rfl rfl (e_callV rfl (.cons rfl .nil) (fun w' _ => rVerdict_c (asRF s (k : Nat)) hko w')) (.inr ⟨fun _ _ h => h.subl SB.s SB.s, fun _ h => h⟩) (fun _ _ => ?_)); (refine tx_single 3 (by kernel_rfl) (to_e rfl rfl (e_bslice rfl (by (repeat (first | exact .nil | apply PV.one rfl rfl)); done) rfl rfl) (.inr ⟨fun _ _ h => h.subl SB.s SB.s, fun _ h => h⟩) (fun b81 _ => ?_)))
                   all_goals ((refine tx_single 4 (by kernel_rfl) (to_e rfl rfl (e_appendE (enc := inE) (xs := rvN s k) (ys := [rverF (asRF s (k : Nat))]) inE_len inE_one rfl rfl rfl hok1 (fun _ => by repeat constructor) (fun w' hw' => RdS.own0 inE_len hw' (b := b81) (by repeat constructor)) (by simp only [List.length_cons, List.length_nil]; omega) rfl) (.inr ⟨fun _ _ h => h.subl SB.s SB.s, fun _ h => h⟩) (fun o1' hok1' => ?_))))
                   all_goals ((refine tx_single 9 (by kernel_rfl) (to_e rfl rfl (e_appendE (enc := inE) (xs := rlN s k) (ys := [(asRF s (k : Nat)).least]) inE_len inE_one rfl rfl rfl hok2 (fun _ => by repeat constructor) (fun w' hw' => RdS.own0 inE_len hw' (b := b86) (by repeat constructor)) (by simp only [List.length_cons, List.length_nil]; omega) rfl) (.inr ⟨fun _ _ h => h.subl SB.s SB.s, fun _ h => h⟩) (fun o2' hok2' => ?_))))
                   all_goals refine tx_p 10 rfl (by kernel_rfl) (y_assign rfl) rfl (fun _ _ _ h => h) (fun _ h => h.subl SB.s SB.s) ?_; refine tx_p 11 rfl (by kernel_rfl) (y_assign rfl) rfl (fun _ _ _ h => h) (fun _ h => h.subl SB.s SB.s) ?_
                   all_goals refine tx_done (by kernel_rfl) ?_)
                  rotate_right
                  focus (
                   (refine to_e rfl rfl (e_callV rfl (.cons rfl .nil) (fun w' _ => rVerdict_c (asRF s (k : Nat)) hko w')) (.inr ⟨fun _ _ h => h.subl SB.s SB.s, fun _ h => h⟩) (fun _ _ => ?_))
                   all_goals (
                    refine tx_pair 3 8 (by kernel_rfl) ?_ ?_
                    rotate_left
                    focus (
                     (refine to_e rfl rfl (e_bslice rfl (by (repeat (first | exact .nil | apply PV.one rfl rfl)); done) rfl rfl) (.inr ⟨fun _ _ h => h.subl SB.s SB.s, fun _ h => h⟩) (fun b86 _ => ?_))
                     all_goals (refine tx_single 3 (by kernel_rfl) (to_e rfl rfl (e_bslice rfl (by (repeat (first | exact .nil | apply PV.one rfl rfl)); done) rfl rfl) (.inr ⟨fun _ _ h => h.subl SB.s SB.s, fun _ h => h⟩) (fun b81 _ => ?_)))
                     all_goals ((refine tx_single 4 (by kernel_rfl) (to_e rfl rfl (e_appendE (enc := inE) (xs := rvN s k) (ys := [rverF (asRF s (k : Nat))]) inE_len inE_one rfl rfl rfl hok1 (fun _ => by repeat constructor) (fun w' hw' => RdS.own0 inE_len hw' (b := b81) (by repeat constructor)) (by simp only [List.length_cons, List.length_nil]; omega) rfl) (.inr ⟨fun _ _ h => h.subl SB.s SB.s, fun _ h => h⟩) (fun o1' hok1' => ?_))))
                     all_goals ((refine tx_single 9 (by kernel_rfl) (to_e rfl rfl (e_appendE (enc := inE) (xs := rlN s k) (ys := [(asRF s (k : Nat)).least]) inE_len inE_one rfl rfl rfl hok2 (fun _ => by repeat constructor) (fun w' hw' => RdS.own0 inE_len hw' (b := b86) (by repeat constructor)) (by simp only [List.length_cons, List.length_nil]; omega) rfl) (.inr ⟨fun _ _ h => h.subl SB.s SB.s, fun _ h => h⟩) (fun o2' hok2' => ?_))))
                     all_goals refine tx_p 10 rfl (by kernel_rfl) (y_assign rfl) rfl (fun _ _ _ h => h) (fun _ h => h.subl SB.s SB.s) ?_; refine tx_p 11 rfl (by kernel_rfl) (y_assign rfl) rfl (fun _ _ _ h => h) (fun _ h => h.subl SB.s SB.s) ?_
                     all_goals refine tx_done (by kernel_rfl) ?_)
                    rotate_right
                    focus (
                     (refine to_e rfl rfl (e_bslice rfl (by (repeat (first | exact .nil | apply PV.one rfl rfl)); done) rfl rfl) (.inr ⟨fun _ _ h => h.subl SB.s SB.s, fun _ h => h⟩) (fun b81 _ => ?_))
                     all_goals (
                      refine tx_pair 4 8 (by kernel_rfl) ?_ ?_
                      rotate_left
                      focus (
                       (refine to_e rfl rfl (e_bslice rfl (by (repeat (first | exact .nil | apply PV.one rfl rfl)); done) rfl rfl) (.inr ⟨fun _ _ h => h.subl SB.s SB.s, fun _ h => h⟩) (fun b86 _ => ?_))
                       all_goals ((refine tx_single 4 (by kernel_rfl) (to_e rfl rfl (e_appendE (enc := inE) (xs := rvN s k) (ys := [rverF (asRF s (k : Nat))]) inE_len inE_one rfl rfl rfl hok1 (fun _ => by repeat constructor) (fun w' hw' => RdS.own0 inE_len hw' (b := b81) (by repeat constructor)) (by simp only [List.length_cons, List.length_nil]; omega) rfl) (.inr ⟨fun _ _ h => h.subl SB.s SB.s, fun _ h => h⟩) (fun o1' hok1' => ?_))))
                       all_goals ((refine tx_single 9 (by kernel_rfl) (to_e rfl rfl (e_appendE (enc := inE) (xs := rlN s k) (ys := [(asRF s (k : Nat)).least]) inE_len inE_one rfl rfl rfl hok2 (fun _ => by repeat constructor) (fun w' hw' => RdS.own0 inE_len hw' (b := b86) (by repeat constructor)) (by simp only [List.length_cons, List.length_nil]; omega) rfl) (.inr ⟨fun _ _ h => h.subl SB.s SB.s, fun _ h => h⟩) (fun o2' hok2' => ?_))))
                       all_goals refine tx_p 10 rfl (by kernel_rfl) (y_assign rfl) rfl (fun _ _ _ h => h) (fun _ h => h.subl SB.s SB.s) ?_; refine tx_p 11 rfl (by kernel_rfl) (y_assign rfl) rfl (fun _ _ _ h => h) (fun _ h => h.subl SB.s SB.s) ?_
                       all_goals refine tx_done (by kernel_rfl) ?_)
                      rotate_right
                      focus (
                       (refine to_e rfl rfl (e_appendE (enc := inE) (xs := rvN s k) (ys := [rverF (asRF s (k : Nat))]) inE_len inE_one rfl rfl rfl hok1 (fun _ => by repeat constructor) (fun w' hw' => RdS.own0 inE_len hw' (b := b81) (by repeat constructor)) (by simp only [List.length_cons, List.length_nil]; omega) rfl) (.inr ⟨fun _ _ h => h.subl SB.s SB.s, fun _ h => h⟩) (fun o1' hok1' => ?_))
                       all_goals (refine tx_single 8 (by kernel_rfl) (to_e rfl rfl (e_bslice rfl (by (repeat (first | exact .nil | apply PV.one rfl rfl)); done) rfl rfl) (.inr ⟨fun _ _ h => h.subl SB.s SB.s, fun _ h => h⟩) (fun b86 _ => ?_)))
                       all_goals ((refine tx_single 9 (by kernel_rfl) (to_e rfl rfl (e_appendE (enc := inE) (xs := rlN s k) (ys := [(asRF s (k : Nat)).least]) inE_len inE_one rfl rfl rfl hok2 (fun _ => by repeat constructor) (fun w' hw' => RdS.own0 inE_len hw' (b := b86) (by repeat constructor)) (by simp only [List.length_cons, List.length_nil]; omega) rfl) (.inr ⟨fun _ _ h => h.subl SB.s SB.s, fun _ h => h⟩) (fun o2' hok2' => ?_))))
                       all_goals refine tx_p 10 rfl (by kernel_rfl) (y_assign rfl) rfl (fun _ _ _ h => h) (fun _ h => h.subl SB.s SB.s) ?_; refine tx_p 11 rfl (by kernel_rfl) (y_assign rfl) rfl (fun _ _ _ h => h) (fun _ h => h.subl SB.s SB.s) ?_
                       all_goals refine tx_done (by kernel_rfl) ?_))))))
                 all_goals (
                  have hs1 := rvN_succ s k
                  have hs2 := rlN_succ s k
                  exact tk_start (o1', o2') ⟨by rw [hs1]; exact hok1', by rw [hs2]; exact hok2'⟩ (.cons rfl (.cons rfl (.cons rfl (.cons rfl (.cons rfl (.cons rfl (.cons rfl (.cons (by dsimp only; rw [hs1]; rfl) (.cons (by dsimp only; rw [hs2]; rfl) (.cons rfl (.cons rfl (.cons rfl (.cons rfl .nil))))))))))))) (fun _ h => by dsimp only; rw [hs1, hs2]; exact h.subl SB.s SB.s))
               · rintro ⟨o1', o2'⟩ ⟨hok1', hok2'⟩
                 dsimp only at hok1' hok2' ⊢
                 have hn := nvN_succ s k
                 have hm := smN_succ s k
                 rcases hnv : nvN s k with _ | _ <;> rcases hsv : smN s k with _ | _ <;> rw [hnv, Bool.or_comm] at hn <;> rw [hsv, Bool.or_comm] at hm <;> simp only [Bool.or_false, Bool.or_true] at hn hm
                 all_goals refine tc_draw (by kernel_rfl) ?_; refine tx_p 0 rfl (by kernel_rfl) (y_move rfl) rfl (fun _ _ _ h => h) (fun _ h => h) ?_; refine tx_p 1 rfl (by kernel_rfl) (y_move rfl) rfl (fun _ _ _ h => h) (fun _ h => h) ?_; (first | refine tx_sk 2 rfl (by kernel_rfl) rfl rfl rfl rfl (fun _ _ _ h => h) (fun _ h => h) ?_ | refine tx_pg 2 rfl (by kernel_rfl) rfl rfl (y_field rfl) rfl (fun _ _ _ h => h) (fun _ h => h) ?_); (first | refine tx_sk 3 rfl (by kernel_rfl) rfl rfl rfl rfl (fun _ _ _ h => h) (fun _ h => h) ?_ | refine tx_qg 3 rfl (by kernel_rfl) rfl rfl (y_load1 (v := vi (asRF s (k : Nat)).least) rfl (by repeat constructor) (cellA (getA_l hko))) rfl (fun _ _ _ h => h) (fun _ h => h) ?_); (first | refine tx_sk 4 rfl (by kernel_rfl) rfl rfl rfl rfl (fun _ _ _ h => h) (fun _ h => h) ?_ | refine tx_pg 4 rfl (by kernel_rfl) rfl rfl (y_gtr rfl rfl) rfl (fun _ _ _ h => h) (fun _ h => h) ?_); (first | refine tx_p 5 rfl (by kernel_rfl) (y_pick_t rfl rfl) rfl (fun _ _ _ h => h) (fun _ h => h) ?_ | refine tx_p 5 rfl (by kernel_rfl) (y_pick_f rfl rfl) rfl (fun _ _ _ h => h) (fun _ h => h) ?_); refine tx_p 6 rfl (by kernel_rfl) (y_move rfl) rfl (fun _ _ _ h => h) (fun _ h => h) ?_; refine tx_p 7 rfl (by kernel_rfl) (y_move rfl) rfl (fun _ _ _ h => h) (fun _ h => h) ?_; (first | refine tx_sk 8 rfl (by kernel_rfl) rfl rfl rfl rfl (fun _ _ _ h => h) (fun _ h => h) ?_ | refine tx_pg 8 rfl (by kernel_rfl) rfl rfl (y_field rfl) rfl (fun _ _ _ h => h) (fun _ h => h) ?_); (first | refine tx_sk 9 rfl (by kernel_rfl) rfl rfl rfl rfl (fun _ _ _ h => h) (fun _ h => h) ?_ | refine tx_qg 9 rfl (by kernel_rfl) rfl rfl (y_load1 (v := vi (asRF s (k : Nat)).most) rfl (by repeat constructor) (cellA (getA_m hko))) rfl (fun _ _ _ h => h) (fun _ h => h) ?_); (first | refine tx_sk 10 rfl (by kernel_rfl) rfl rfl rfl rfl (fun _ _ _ h => h) (fun _ h => h) ?_ | refine tx_pg 10 rfl (by kernel_rfl) rfl rfl (y_gtr rfl rfl) rfl (fun _ _ _ h => h) (fun _ h => h) ?_); (first | refine tx_p 11 rfl (by kernel_rfl) (y_pick_t rfl rfl) rfl (fun _ _ _ h => h) (fun _ h => h) ?_ | refine tx_p 11 rfl (by kernel_rfl) (y_pick_f rfl rfl) rfl (fun _ _ _ h => h) (fun _ h => h) ?_); refine tx_p 12 rfl (by kernel_rfl) (y_assign rfl) rfl (fun _ _ _ h => h) (fun _ h => h) ?_; refine tx_p 13 rfl (by kernel_rfl) (y_assign rfl) rfl (fun _ _ _ h => h) (fun _ h => h) ?_; refine tx_done (by kernel_rfl) ?_; ((refine hK18 ?_; try (clear hK18; clear K18)))
                 all_goals refine tc_region ?_; refine tl_q (y_move rfl) rfl ?_; refine tl_q (y_add rfl rfl (by omega)) rfl ?_; refine tl_q (y_assign rfl) rfl ?_; refine tl_nil ?_
                 all_goals (
                  exact tk_round (k + 1, o1', o2') ⟨by dsimp only; omega, hok1', hok2'⟩ (by dsimp only; omega) (.cons rfl (.cons rfl (.cons rfl (.cons rfl (.cons rfl (.cons rfl (.cons rfl (.cons rfl (.cons rfl (.cons (by dsimp only; rw [hn]; rfl) (.cons (by dsimp only; rw [hm]; rfl) (.cons rfl .nil)))))))))))) (fun _ h => h.subl SB.s SB.s)))
            · try simp only [qn1, qn2, qn3, qn4, qn5, qn6, qn7, qn8] at hc
              all_goals refine tc_exit ?_; ((refine hK14 ?_; try (clear hK14; clear K14)))
              all_goals refine tc_seq fun K20 hK20 => ?_; (obtain rfl : k = s.B.toNat := by omega)
              all_goals ((have hvL := tells_v hv hcs; have hlL := tells_l hv hcs; have hvl : (vdL s).length ≤ 4 := (by rw [hvL]; omega); have hll : (lsL s).length ≤ 4 := (by rw [hlL]; omega)))
              all_goals refine tc_region ?_; refine tl_q (y_assign rfl) rfl ?_; refine tl_nil ?_; ((refine hK20 ?_; try (clear hK20; clear K20)))
              all_goals refine tc_seq fun K21 hK21 => ?_; refine tc_seq fun K22 hK22 => ?_; refine tc_region ?_; refine tl_q (y_move rfl) rfl ?_; refine tl_nil ?_; ((refine hK22 ?_; try (clear hK22; clear K22)))
              all_goals (
               refine tc_cond rfl (fun hc => ?_) (fun hc => ?_)
               · all_goals (skip)
                 all_goals refine tc_region ?_; refine tl_q (y_assign rfl) rfl ?_; refine tl_nil ?_; ((refine hK21 ?_; try (clear hK21; clear K21)))
                 all_goals refine tc_seq fun K23 hK23 => ?_; (have hal := alF_nv hv hcs (by assumption))
                 all_goals refine tc_region ?_; refine tl_q (y_move rfl) rfl ?_; refine tl_q (y_eql rfl rfl) rfl ?_; refine tl_q (y_move rfl) rfl ?_; ((refine tl_gs rfl rfl (fun hc => ?_) (fun hc => ?_) <;> (try simp only [qn1, qn2, qn3, qn4, qn5, qn6, qn7, qn8] at hc) <;> (first | (exfalso; omega) | refine tl_qg rfl rfl (y_move rfl) rfl ?_)))
                 all_goals (refine tl_qg rfl rfl (y_eql rfl rfl) rfl ?_); refine tl_q (y_pick_t rfl rfl) rfl ?_; refine tl_q (y_move rfl) rfl ?_; ((refine tl_gs rfl rfl (fun hc => ?_) (fun hc => ?_) <;> (try simp only [qn1, qn2, qn3, qn4, qn5, qn6, qn7, qn8] at hc) <;> (first | (exfalso; omega) | refine tl_qg rfl rfl (y_move rfl) rfl ?_)))
                 all_goals (refine tl_qg rfl rfl (y_eql rfl rfl) rfl ?_); refine tl_q (y_pick_t rfl rfl) rfl ?_; refine tl_q (y_move rfl) rfl ?_; ((refine tl_gs rfl rfl (fun hc => ?_) (fun hc => ?_) <;> (try simp only [qn1, qn2, qn3, qn4, qn5, qn6, qn7, qn8] at hc) <;> (first | (exfalso; omega) | refine tl_qg rfl rfl (y_move rfl) rfl ?_)))
                 all_goals (refine tl_qg rfl rfl (y_move rfl) rfl ?_); refine tl_eg rfl rfl rfl (e_callV rfl (.cons rfl (.cons rfl .nil)) (fun w' hw' => sameK_v hvL hvl _ _ w' (hv3.1.fr (hw'.fr (w0 := v3.2) (S := []) MI.m)) (RdS.ofO inE_len hok1 hw' (by repeat constructor)).toI)) (fun _ _ => ?_); refine tl_q (y_pick_t rfl rfl) rfl ?_; refine tl_q (y_move rfl) rfl ?_; refine tl_qg rfl rfl (y_move rfl) rfl ?_; refine tl_qg rfl rfl (y_move rfl) rfl ?_; refine tl_qg rfl rfl (y_eql rfl rfl) rfl ?_; refine tl_q (y_pick_t rfl rfl) rfl ?_; refine tl_q (y_move rfl) rfl ?_; ((refine tl_gs rfl rfl (fun hc => ?_) (fun hc => ?_) <;> (try simp only [qn1, qn2, qn3, qn4, qn5, qn6, qn7, qn8] at hc) <;> (first | (exfalso; omega) | refine tl_qg rfl rfl (y_move rfl) rfl ?_)))
                 all_goals (refine tl_qg rfl rfl (y_move rfl) rfl ?_); refine tl_eg rfl rfl rfl (e_callV rfl (.cons rfl (.cons rfl .nil)) (fun w' hw' => sameK_v hlL hll _ _ w' (hl5.1.fr (hw'.fr (w0 := l5.2) (S := []) MI.m)) (RdS.ofO inE_len hok2 hw' (by repeat constructor)).toI)) (fun _ _ => ?_); refine tl_q (y_pick_t rfl rfl) rfl ?_; refine tl_q (y_move rfl) rfl ?_; refine tl_eg rfl rfl rfl (e_callV rfl .nil (fun w' _ => awake_c w')) (fun _ _ => ?_); refine tl_q (y_pick_t rfl rfl) rfl ?_; refine tl_q (y_assign rfl) rfl ?_; refine tl_nil ?_; ((refine hK23 ?_; try (clear hK23; clear K23)))
                 all_goals refine tc_ret ?_; (repeat (first | refine tk_then_ret ?_))
                 all_goals (refine tk_ret rfl rfl (.cons (.tmp rfl) .nil) ?_)
                 all_goals (
                  exact fun w' hw' => ⟨rfl, hw'.fr (w0 := w) (S := []) MI.m⟩)
               · all_goals (skip)
                 all_goals refine tc_seq fun K24 hK24 => ?_; refine tc_region ?_; refine tl_q (y_move rfl) rfl ?_; refine tl_nil ?_; ((refine hK24 ?_; try (clear hK24; clear K24)))
                 all_goals (
                  refine tc_cond rfl (fun hc => ?_) (fun hc => ?_)
                  · all_goals (skip)
                    all_goals refine tc_region ?_; refine tl_q (y_assign rfl) rfl ?_; refine tl_nil ?_; ((refine hK21 ?_; try (clear hK21; clear K21)))
                    all_goals refine tc_seq fun K25 hK25 => ?_; (have hal := alF_sm hv hcs (by assumption) (by assumption))
                    all_goals refine tc_region ?_; refine tl_q (y_move rfl) rfl ?_; refine tl_q (y_eql rfl rfl) rfl ?_; refine tl_q (y_move rfl) rfl ?_; ((refine tl_gs rfl rfl (fun hc => ?_) (fun hc => ?_) <;> (try simp only [qn1, qn2, qn3, qn4, qn5, qn6, qn7, qn8] at hc) <;> (first | (exfalso; omega) | refine tl_qg rfl rfl (y_move rfl) rfl ?_)))
                    all_goals (refine tl_qg rfl rfl (y_eql rfl rfl) rfl ?_); refine tl_q (y_pick_t rfl rfl) rfl ?_; refine tl_q (y_move rfl) rfl ?_; ((refine tl_gs rfl rfl (fun hc => ?_) (fun hc => ?_) <;> (try simp only [qn1, qn2, qn3, qn4, qn5, qn6, qn7, qn8] at hc) <;> (first | (exfalso; omega) | refine tl_qg rfl rfl (y_move rfl) rfl ?_)))
                    all_goals (refine tl_qg rfl rfl (y_eql rfl rfl) rfl ?_); refine tl_q (y_pick_t rfl rfl) rfl ?_; refine tl_q (y_move rfl) rfl ?_; ((refine tl_gs rfl rfl (fun hc => ?_) (fun hc => ?_) <;> (try simp only [qn1, qn2, qn3, qn4, qn5, qn6, qn7, qn8] at hc) <;> (first | (exfalso; omega) | refine tl_qg rfl rfl (y_move rfl) rfl ?_)))
                    all_goals (refine tl_qg rfl rfl (y_move rfl) rfl ?_); refine tl_eg rfl rfl rfl (e_callV rfl (.cons rfl (.cons rfl .nil)) (fun w' hw' => sameK_v hvL hvl _ _ w' (hv3.1.fr (hw'.fr (w0 := v3.2) (S := []) MI.m)) (RdS.ofO inE_len hok1 hw' (by repeat constructor)).toI)) (fun _ _ => ?_); refine tl_q (y_pick_t rfl rfl) rfl ?_; refine tl_q (y_move rfl) rfl ?_; refine tl_qg rfl rfl (y_move rfl) rfl ?_; refine tl_qg rfl rfl (y_move rfl) rfl ?_; refine tl_qg rfl rfl (y_eql rfl rfl) rfl ?_; refine tl_q (y_pick_t rfl rfl) rfl ?_; refine tl_q (y_move rfl) rfl ?_; ((refine tl_gs rfl rfl (fun hc => ?_) (fun hc => ?_) <;> (try simp only [qn1, qn2, qn3, qn4, qn5, qn6, qn7, qn8] at hc) <;> (first | (exfalso; omega) | refine tl_qg rfl rfl (y_move rfl) rfl ?_)))
                    all_goals (refine tl_qg rfl rfl (y_move rfl) rfl ?_); refine tl_eg rfl rfl rfl (e_callV rfl (.cons rfl (.cons rfl .nil)) (fun w' hw' => sameK_v hlL hll _ _ w' (hl5.1.fr (hw'.fr (w0 := l5.2) (S := []) MI.m)) (RdS.ofO inE_len hok2 hw' (by repeat constructor)).toI)) (fun _ _ => ?_); refine tl_q (y_pick_t rfl rfl) rfl ?_; refine tl_q (y_move rfl) rfl ?_; refine tl_eg rfl rfl rfl (e_callV rfl .nil (fun w' _ => awake_c w')) (fun _ _ => ?_); refine tl_q (y_pick_t rfl rfl) rfl ?_; refine tl_q (y_assign rfl) rfl ?_; refine tl_nil ?_; ((refine hK25 ?_; try (clear hK25; clear K25)))
                    all_goals refine tc_ret ?_; (repeat (first | refine tk_then_ret ?_))
                    all_goals (refine tk_ret rfl rfl (.cons (.tmp rfl) .nil) ?_)
                    all_goals (
                     exact fun w' hw' => ⟨rfl, hw'.fr (w0 := w) (S := []) MI.m⟩)
                  · all_goals (skip)
                    all_goals refine tc_skip ?_; ((refine hK21 ?_; try (clear hK21; clear K21)))
                    all_goals refine tc_seq fun K26 hK26 => ?_; (have hal := alF_no hv hcs (by assumption) (by assumption))
                    all_goals refine tc_region ?_; refine tl_q (y_move rfl) rfl ?_; refine tl_q (y_eql rfl rfl) rfl ?_; refine tl_q (y_move rfl) rfl ?_; ((refine tl_gs rfl rfl (fun hc => ?_) (fun hc => ?_) <;> (try simp only [qn1, qn2, qn3, qn4, qn5, qn6, qn7, qn8] at hc) <;> (first | (exfalso; omega) | refine tl_qg rfl rfl (y_move rfl) rfl ?_)))
                    all_goals (refine tl_qg rfl rfl (y_eql rfl rfl) rfl ?_); refine tl_q (y_pick_t rfl rfl) rfl ?_; refine tl_q (y_move rfl) rfl ?_; ((refine tl_gs rfl rfl (fun hc => ?_) (fun hc => ?_) <;> (try simp only [qn1, qn2, qn3, qn4, qn5, qn6, qn7, qn8] at hc) <;> (first | (exfalso; omega) | refine tl_qg rfl rfl (y_move rfl) rfl ?_)))
                    all_goals (refine tl_qg rfl rfl (y_eql rfl rfl) rfl ?_); refine tl_q (y_pick_t rfl rfl) rfl ?_; refine tl_q (y_move rfl) rfl ?_; ((refine tl_gs rfl rfl (fun hc => ?_) (fun hc => ?_) <;> (try simp only [qn1, qn2, qn3, qn4, qn5, qn6, qn7, qn8] at hc) <;> (first | (exfalso; omega) | refine tl_qg rfl rfl (y_move rfl) rfl ?_)))
                    all_goals (refine tl_qg rfl rfl (y_move rfl) rfl ?_); refine tl_eg rfl rfl rfl (e_callV rfl (.cons rfl (.cons rfl .nil)) (fun w' hw' => sameK_v hvL hvl _ _ w' (hv3.1.fr (hw'.fr (w0 := v3.2) (S := []) MI.m)) (RdS.ofO inE_len hok1 hw' (by repeat constructor)).toI)) (fun _ _ => ?_); refine tl_q (y_pick_t rfl rfl) rfl ?_; refine tl_q (y_move rfl) rfl ?_; refine tl_qg rfl rfl (y_move rfl) rfl ?_; refine tl_qg rfl rfl (y_move rfl) rfl ?_; refine tl_qg rfl rfl (y_eql rfl rfl) rfl ?_; refine tl_q (y_pick_t rfl rfl) rfl ?_; refine tl_q (y_move rfl) rfl ?_; ((refine tl_gs rfl rfl (fun hc => ?_) (fun hc => ?_) <;> (try simp only [qn1, qn2, qn3, qn4, qn5, qn6, qn7, qn8] at hc) <;> (first | (exfalso; omega) | refine tl_qg rfl rfl (y_move rfl) rfl ?_)))
                    all_goals (refine tl_qg rfl rfl (y_move rfl) rfl ?_); refine tl_eg rfl rfl rfl (e_callV rfl (.cons rfl (.cons rfl .nil)) (fun w' hw' => sameK_v hlL hll _ _ w' (hl5.1.fr (hw'.fr (w0 := l5.2) (S := []) MI.m)) (RdS.ofO inE_len hok2 hw' (by repeat constructor)).toI)) (fun _ _ => ?_); refine tl_q (y_pick_t rfl rfl) rfl ?_; refine tl_q (y_move rfl) rfl ?_; refine tl_eg rfl rfl rfl (e_callV rfl .nil (fun w' _ => awake_c w')) (fun _ _ => ?_); refine tl_q (y_pick_t rfl rfl) rfl ?_; refine tl_q (y_assign rfl) rfl ?_; refine tl_nil ?_; ((refine hK26 ?_; try (clear hK26; clear K26)))
                    all_goals refine tc_ret ?_; (repeat (first | refine tk_then_ret ?_))
                    all_goals (refine tk_ret rfl rfl (.cons (.tmp rfl) .nil) ?_)
                    all_goals (
                     exact fun w' hw' => ⟨rfl, hw'.fr (w0 := w) (S := []) MI.m⟩)))))))
end Go.Sp
/-
  From a contract of a law's function to its row: what the arguments read as, and that they read so afterwards.
-/
namespace Go.Sp
open Go Go.Proofs Go.ChangeShapes Go.WideShapes Go.RowKit
section
variable {H : Type} {enc : TypeId × Value → H} {P : Program} {w : World} {base : Nat} {spare : Nat → Bool} {held : Bool}
theorem Fr.kept {W W' : World} (h : Fr [] W W') (p : MemPlace → Prop) : W.keptBut W' p :=
  ⟨h.os, h.output, fun i hi => by
    have e := h.block i hi (by simp)
    rw [e]
    cases hb : W.heap[i]? with
    | none => trivial
    | some o => cases o <;> simp⟩
/-- What is left of a post without 'again'. -/
theorem post_na {f : Func} {s : ChangeSpec} {apart fresh handsOn : Bool} {W W' : World} {args : Array Value} {v : Value} {ds gs : List (DataW H)} {before pa pv : List MemPlace}
    (hW : DataW.Whole enc P f.params.toList s.vars apart W args.toList ds gs before)
    (hres : ∀ (b : Nat) (sp : Nat → Bool) (hd : Bool), DataW.TrodAll enc P W' b sp hd f.resultTypes.toList (v.resultList f.resultTypes.size) (s.fn H (ds ++ gs)).results [])
    (hargs : ∀ sp : Nat → Bool, (∀ p ∈ before, sp p.block = true) → DataW.TrodAll enc P W' 0 sp true f.params.toList args.toList (s.fn H (ds ++ gs)).args pa)
    (hvars : ∀ sp : Nat → Bool, (∀ p ∈ before, sp p.block = true) → DataW.TrodVars enc P W' sp s.vars (s.fn H (ds ++ gs)).vars pv)
    (hps : before = pa ++ pv) (hk : W.keptBut W' (· ∈ before)) : s.post enc P f apart fresh handsOn false W args v W' := by
  have hold : ∀ p ∈ before, (fun b => decide (b < W.heap.size)) p.block = true := fun p hp => by simpa using hW.lt p hp
  refine ⟨ds, gs, before, [], pa, pv, hW, hres _ _ _, hargs _ hold, hvars _ hold, World.keptBut_mono (fun p hp => ⟨hp, ?_⟩) hk, fun h => by cases h⟩
  rw [hps, List.mem_append] at hp
  exact Or.inr hp
theorem all_stays (hl : laidOutB P = true) {W W' : World} {sp : Nat → Bool} (hb : Below W.heap.size W W') : ∀ {ts : List TypeId} {vs : List Value} {ds : List (DataW H)} {ps : List MemPlace}, (ts.all fun t => P.readableRec t && decide (t < P.types.size)) = true →
    DataW.TrodAll enc P W 0 (fun _ => true) true ts vs ds ps → (∀ p ∈ ps, sp p.block = true) → DataW.TrodAll enc P W' 0 sp true ts vs ds ps := by
  intro ts
  induction ts with
  | nil => intro vs ds ps _ h _; cases vs <;> cases ds <;> simp [DataW.TrodAll] at h ⊢; exact h
  | cons t ts ih =>
    intro vs ds ps ht h hs
    have hlt := h.lt
    obtain ⟨v, vs', d, ds', p, q, rfl, rfl, rfl, h1, h2⟩ := trodAll_cons h
    simp only [List.all_cons, Bool.and_eq_true, decide_eq_true_eq] at ht
    exact ⟨p, q, WideElems.Trod_stays hl ht.1.1 ht.1.2 h1 (fun x hx => hb.same (hlt x (List.mem_append_left _ hx))) (fun x hx => hs x (List.mem_append_left _ hx)),
      ih (by simpa using ht.2) h2 (fun x hx => hs x (List.mem_append_right _ hx)), rfl⟩
/-- A slice reads as the cells of its elements, each of which reads. -/
theorem slice_reads {t e : TypeId} {fuel : Nat} {cs : List Value} {x : DataW H × List MemPlace} (ht : P.underlying t = some (.slice e)) (hc : 0 < P.cellsOf e) (h : DataW.trod enc P w base spare held fuel t cs = some x) :
    ∃ ad cap, ∃ ess : List (List Value), cs = [.slice ad ess.length cap] ∧ ess.length ≤ maxLen ∧ Reads w (.slice ad ess.length cap) (P.cellsOf e) ess.length ess.flatten ∧ ∀ es ∈ ess, ∃ m y, DataW.trod enc P w base spare held m e es = some y := by
  rcases DataW.trod_slice ht h with ⟨rfl, _⟩ | ⟨a, len, cap, elems, rest, n, _, rfl, _, hb, hl, hm, hlen, hel, _, _⟩
  · exact ⟨none, 0, [], rfl, Nat.zero_le _, ⟨by simp, none, 0, rfl, fun h => absurd rfl h⟩, by simp⟩
  · -- the cells of each element
    have hone : ∀ i, i < len → ∃ es y, w.cells? base (a.add (i * P.cellsOf e)) (P.cellsOf e) = some es ∧ DataW.trod enc P w base spare held n e es = some y := fun i hi => by
      have h1 := hel i hi
      rw [List.getElem?_eq_getElem (by omega)] at h1
      obtain ⟨es, h2, h3⟩ := Option.bind_eq_some_iff.1 h1
      exact ⟨es, _, h2, h3⟩
    have hadd : ∀ m, a.spot = none → a.add m = ⟨a.block, a.off + m, none⟩ := fun m hs => by
      obtain ⟨b, o, sp⟩ := a
      simp only at hs
      subst hs
      unfold Addr.add; split
      · rename_i h0; subst h0; rfl
      · rfl
    have hsp0 : 0 < len → a.spot = none := fun h0 => by
      obtain ⟨es, y, g1, g2⟩ := hone 0 h0
      obtain ⟨_, hl1, hat⟩ := World.cells?_some g1
      have := hat 0 hc
      rw [List.getElem?_eq_getElem (by omega), Nat.zero_mul, show (a.add 0).add 0 = a from rfl] at this
      unfold World.cell? at this
      split at this
      · split at this
        · cases this
        · rename_i hs; simpa using hs
      · cases this
    have hcell : ∀ k, k ≤ len → ∃ ess : List (List Value), ess.length = k ∧ (∀ es ∈ ess, ∃ m y, DataW.trod enc P w base spare held m e es = some y) ∧ ess.flatten.length = k * P.cellsOf e ∧
        (k ≠ 0 → a.spot = none) ∧ ∀ j v, ess.flatten[j]? = some v → w.cell? ⟨a.block, a.off + j, none⟩ = some v := by
      intro k
      induction k with
      | zero => intro _; exact ⟨[], rfl, by simp, by simp, fun h => absurd rfl h, by simp⟩
      | succ k ih =>
        intro hk
        obtain ⟨ess, h1, h2, h3, h4, h5⟩ := ih (by omega)
        obtain ⟨es, y, g1, g2⟩ := hone k (by omega)
        obtain ⟨_, hl1, hat⟩ := World.cells?_some g1
        have hspot : a.spot = none := hsp0 (by omega)
        refine ⟨ess ++ [es], by simp [h1], fun u hu => ?_, ?_, fun _ => hspot, fun j v hv => ?_⟩
        · rcases List.mem_append.1 hu with hu | hu
          · exact h2 u hu
          · obtain rfl := List.mem_singleton.1 hu; exact ⟨n, y, g2⟩
        · rw [List.flatten_append, List.length_append, h3]; simp [hl1]; rw [Nat.add_mul]; omega
        · rw [List.flatten_append] at hv
          by_cases hj : j < ess.flatten.length
          · rw [List.getElem?_append_left hj] at hv; exact h5 j v hv
          · rw [List.getElem?_append_right (by omega)] at hv
            simp only [List.flatten_cons, List.flatten_nil, List.append_nil] at hv
            have hjl : j - ess.flatten.length < es.length := (List.getElem?_eq_some_iff.1 hv).1
            have := hat (j - ess.flatten.length) (by omega)
            rw [hv, hadd _ hspot] at this
            have e2 : (⟨a.block, a.off + k * P.cellsOf e, none⟩ : Addr).add (j - ess.flatten.length) = ⟨a.block, a.off + j, none⟩ := by
              unfold Addr.add; split
              · rename_i h0; simp only [Addr.mk.injEq, true_and, and_true]; omega
              · simp only [Addr.mk.injEq, true_and, and_true]; omega
            rw [e2] at this
            exact this
    obtain ⟨ess, h1, h2, h3, h4, h5⟩ := hcell len (Nat.le_refl _)
    subst h1
    refine ⟨some a, cap, ess, rfl, by omega, ⟨h3, _, _, rfl, fun hn => ⟨a.block, a.off, ?_, ?_⟩⟩, h2⟩
    · have := h4 hn
      obtain ⟨b, o, sp⟩ := a
      simp only at this
      subst this
      rfl
    · rw [← h3]
      generalize ess.flatten = vs at h5
      have key : ∀ (vs : List Value) (o : Nat), (∀ j v, vs[j]? = some v → w.cell? ⟨a.block, o + j, none⟩ = some v) → CA (fun k => w.cell? ⟨a.block, k, none⟩) o vs.length vs := by
        intro vs
        induction vs with
        | nil => intro o _; exact .nil
        | cons v vs ih => intro o hv; exact .cons (hv 0 v rfl) (ih (o + 1) fun j u hu => by rw [Nat.add_assoc, Nat.add_comm 1 j]; exact hv (j + 1) u hu)
      exact key vs a.off h5
theorem exists_map {α β : Type} {f : α → β} {q : α → Prop} : ∀ (l : List β), (∀ y ∈ l, ∃ x, y = f x ∧ q x) → ∃ xs : List α, l = xs.map f ∧ ∀ x ∈ xs, q x
  | [], _ => ⟨[], rfl, by simp⟩
  | y :: l, h => by
    obtain ⟨x, rfl, hq⟩ := h y List.mem_cons_self
    obtain ⟨xs, rfl, hxs⟩ := exists_map l (fun z hz => h z (List.mem_cons_of_mem _ hz))
    exact ⟨x :: xs, rfl, fun z hz => by rcases List.mem_cons.1 hz with rfl | hz; exact hq; exact hxs z hz⟩
/-- The fields of a struct. -/
theorem fields_reads {t : TypeId} {fs : Array Field} {fuel : Nat} {cs : List Value} {x : DataW H × List MemPlace} (ht : P.underlying t = some (.struct fs)) (h : DataW.trod enc P w base spare held fuel t cs = some x) :
    cs.length = P.cellsOf t ∧ ∀ (i : Nat) (f : Field), fs[i]? = some f → ∃ m y, DataW.trod enc P w base spare held m f.type ((cs.drop f.offset).take (P.cellsOf f.type)) = some y := by
  obtain ⟨xs, n, _, _, hl, hx, hf⟩ := DataW.trod_struct ht h
  refine ⟨hl, fun i f hi => ?_⟩
  have := hf i f hi
  have hlt : i < fs.size := (Array.getElem?_eq_some_iff.1 hi).1
  rw [List.getElem?_eq_getElem (by omega)] at this
  exact ⟨n, _, this⟩
def flds (enc : TypeId × Value → H) (P : Program) (w : World) (base : Nat) (spare : Nat → Bool) (held : Bool) (cs : List Value) : List Field → Prop
  | [] => True
  | f :: fs => (∃ m y, DataW.trod enc P w base spare held m f.type ((cs.drop f.offset).take (P.cellsOf f.type)) = some y) ∧ flds enc P w base spare held cs fs
theorem fields_list {t : TypeId} {l : List Field} {fuel : Nat} {cs : List Value} {x : DataW H × List MemPlace} (ht : P.underlying t = some (.struct l.toArray)) (h : DataW.trod enc P w base spare held fuel t cs = some x) :
    cs.length = P.cellsOf t ∧ flds enc P w base spare held cs l := by
  obtain ⟨hl, hf⟩ := fields_reads ht h
  refine ⟨hl, ?_⟩
  have key : ∀ l' : List Field, (∀ f ∈ l', f ∈ l) → flds enc P w base spare held cs l' := by
    intro l'
    induction l' with
    | nil => intro _; trivial
    | cons f fs ih =>
      intro hm
      obtain ⟨i, hi, e⟩ := List.getElem_of_mem (hm f List.mem_cons_self)
      exact ⟨hf i f (by simp [hi, e]), ih fun g hg => hm g (List.mem_cons_of_mem _ hg)⟩
  exact key l fun _ h => h
end
end Go.Sp
/-
  What a sample reads as.
-/
namespace Go.Sp
open Go Go.Proofs Go.ChangeShapes Go.WideShapes Go.RowKit
theorem laidTryz : laidOutB Tryz.prog = true := by kernel_rfl
theorem cells_3 : Tryz.prog.cellsOf 3 = 1 := by kernel_rfl
theorem cells_4 : Tryz.prog.cellsOf 4 = 1 := by kernel_rfl
theorem cells_22 : Tryz.prog.cellsOf 22 = 1 := by kernel_rfl
theorem cells_23 : Tryz.prog.cellsOf 23 = 1 := by kernel_rfl
theorem cells_24 : Tryz.prog.cellsOf 24 = 1 := by kernel_rfl
theorem cells_77 : Tryz.prog.cellsOf 77 = 5 := by kernel_rfl
theorem cells_75 : Tryz.prog.cellsOf 75 = 2 := by kernel_rfl
theorem cells_65 : Tryz.prog.cellsOf 65 = 3 := by kernel_rfl
theorem cells_26 : Tryz.prog.cellsOf 26 = 7 := by kernel_rfl
theorem wf64 {n : Int} (h : (Lit.int .i64 n).wf = true) : -9223372036854775808 ≤ n ∧ n ≤ 9223372036854775807 := by
  simpa [Lit.wf, IntKind.min, IntKind.max, IntKind.signed, IntKind.bits] using h
abbrev Bd (n : Int) : Prop := -9223372036854775808 ≤ n ∧ n ≤ 9223372036854775807
theorem two' {α : Type} {l : List α} (h : l.length = 2) : ∃ a b, l = [a, b] := by
  match l, h with
  | [a, b], _ => exact ⟨a, b, rfl⟩
theorem three' {α : Type} {l : List α} (h : l.length = 3) : ∃ a b c, l = [a, b, c] := by
  match l, h with
  | [a, b, c], _ => exact ⟨a, b, c, rfl⟩
theorem five' {α : Type} {l : List α} (h : l.length = 5) : ∃ a b c d e, l = [a, b, c, d, e] := by
  match l, h with
  | [a, b, c, d, e], _ => exact ⟨a, b, c, d, e, rfl⟩
theorem seven' {α : Type} {l : List α} (h : l.length = 7) : ∃ a b c d e f g, l = [a, b, c, d, e, f, g] := by
  match l, h with
  | [a, b, c, d, e, f, g], _ => exact ⟨a, b, c, d, e, f, g, rfl⟩
theorem flatten_map {α : Type} (enc : α → List Value) (xs : List α) : (xs.map enc).flatten = xs.flatMap enc := rfl
section
variable {H : Type} {enc : TypeId × Value → H} {w : World} {base : Nat} {spare : Nat → Bool} {held : Bool}
theorem bools_reads {fuel : Nat} {cs : List Value} {x : DataW H × List MemPlace} (h : DataW.trod enc Tryz.prog w base spare held fuel 22 cs = some x) :
    ∃ (sl : Value) (l : List Bool), cs = [sl] ∧ RdS 1 boE w sl l ∧ l.length ≤ maxLen := by
  obtain ⟨ad, cap, ess, rfl, hm, hr, hes⟩ := slice_reads Tryz.underlying22 (by rw [cells_4]; decide) h
  obtain ⟨xs, rfl, hxs⟩ := exists_map (f := boE) (q := fun _ => True) ess (fun es h => by
    obtain ⟨m, y, hy⟩ := hes es h
    obtain ⟨b, rfl, _⟩ := DataW.trod_bool Tryz.underlying4 hy
    exact ⟨b, rfl, trivial⟩)
  rw [flatten_map, cells_4] at hr
  simp only [List.length_map] at hr hm
  exact ⟨_, xs, by simp, hr, hm⟩
theorem rng_reads {fuel : Nat} {cs : List Value} {x : DataW H × List MemPlace} (h : DataW.trod enc Tryz.prog w base spare held fuel 75 cs = some x) :
    ∃ a b : Int, cs = [vi a, vi b] ∧ Bd a ∧ Bd b := by
  obtain ⟨hl, hf⟩ := fields_list Tryz.underlying75 h
  rw [cells_75] at hl
  obtain ⟨c0, c1, rfl⟩ := two' hl
  obtain ⟨⟨_, _, f0⟩, ⟨_, _, f1⟩, _⟩ := hf
  rw [cells_3] at f0 f1
  obtain ⟨n0, e0, _, w0⟩ := DataW.trod_int Tryz.underlying3 f0
  obtain ⟨n1, e1, _, w1⟩ := DataW.trod_int Tryz.underlying3 f1
  simp at e0 e1
  subst e0; subst e1
  exact ⟨n0, n1, rfl, wf64 w0, wf64 w1⟩
theorem pas_reads {fuel : Nat} {cs : List Value} {x : DataW H × List MemPlace} (h : DataW.trod enc Tryz.prog w base spare held fuel 77 cs = some x) :
    ∃ p : Pas, cs = psE p := by
  obtain ⟨hl, hf⟩ := fields_list Tryz.underlying77 h
  rw [cells_77] at hl
  obtain ⟨c0, c1, c2, c3, c4, rfl⟩ := five' hl
  obtain ⟨⟨_, _, f0⟩, ⟨_, _, f1⟩, ⟨_, _, f2⟩, ⟨_, _, f3⟩, _⟩ := hf
  rw [cells_3] at f0 f1 f2
  rw [cells_75] at f3
  obtain ⟨n0, e0, _, w0⟩ := DataW.trod_int Tryz.underlying3 f0
  obtain ⟨n1, e1, _, w1⟩ := DataW.trod_int Tryz.underlying3 f1
  obtain ⟨n2, e2, _, w2⟩ := DataW.trod_int Tryz.underlying3 f2
  obtain ⟨a, b, e3, _, _⟩ := rng_reads f3
  simp at e0 e1 e2 e3
  obtain ⟨rfl, rfl⟩ := e3
  subst e0; subst e1; subst e2
  exact ⟨⟨n0, n1, n2, a, b⟩, rfl⟩
theorem sgt_reads {fuel : Nat} {cs : List Value} {x : DataW H × List MemPlace} (h : DataW.trod enc Tryz.prog w base spare held fuel 65 cs = some x) :
    ∃ g : Sgt, cs = sgE g := by
  obtain ⟨hl, hf⟩ := fields_list Tryz.underlying65 h
  rw [cells_65] at hl
  obtain ⟨c0, c1, c2, rfl⟩ := three' hl
  obtain ⟨⟨_, _, f0⟩, ⟨_, _, f1⟩, ⟨_, _, f2⟩, _⟩ := hf
  rw [cells_3] at f0 f1
  rw [cells_4] at f2
  obtain ⟨n0, e0, _, w0⟩ := DataW.trod_int Tryz.underlying3 f0
  obtain ⟨n1, e1, _, w1⟩ := DataW.trod_int Tryz.underlying3 f1
  obtain ⟨b, e2, _⟩ := DataW.trod_bool Tryz.underlying4 f2
  simp at e0 e1 e2
  subst e0; subst e1; subst e2
  exact ⟨⟨n0, n1, b⟩, rfl⟩
theorem pass_reads {fuel : Nat} {cs : List Value} {x : DataW H × List MemPlace} (h : DataW.trod enc Tryz.prog w base spare held fuel 23 cs = some x) :
    ∃ (sl : Value) (l : List Pas), cs = [sl] ∧ RdS 5 psE w sl l ∧ l.length ≤ maxLen := by
  obtain ⟨ad, cap, ess, rfl, hm, hr, hes⟩ := slice_reads Tryz.underlying23 (by rw [cells_77]; decide) h
  obtain ⟨xs, rfl, hxs⟩ := exists_map (f := psE) (q := fun _ => True) ess (fun es h => by
    obtain ⟨m, y, hy⟩ := hes es h
    obtain ⟨p, hp⟩ := pas_reads hy
    exact ⟨p, hp, trivial⟩)
  rw [flatten_map, cells_77] at hr
  simp only [List.length_map] at hr hm
  exact ⟨_, xs, by simp, hr, hm⟩
theorem sgts_reads {fuel : Nat} {cs : List Value} {x : DataW H × List MemPlace} (h : DataW.trod enc Tryz.prog w base spare held fuel 24 cs = some x) :
    ∃ (sl : Value) (l : List Sgt), cs = [sl] ∧ RdS 3 sgE w sl l ∧ l.length ≤ maxLen := by
  obtain ⟨ad, cap, ess, rfl, hm, hr, hes⟩ := slice_reads Tryz.underlying24 (by rw [cells_65]; decide) h
  obtain ⟨xs, rfl, hxs⟩ := exists_map (f := sgE) (q := fun _ => True) ess (fun es h => by
    obtain ⟨m, y, hy⟩ := hes es h
    obtain ⟨p, hp⟩ := sgt_reads hy
    exact ⟨p, hp, trivial⟩)
  rw [flatten_map, cells_65] at hr
  simp only [List.length_map] at hr hm
  exact ⟨_, xs, by simp, hr, hm⟩
theorem smp_reads {fuel : Nat} {cs : List Value} {x : DataW H × List MemPlace} (h : DataW.trod enc Tryz.prog w base spare held fuel 26 cs = some x) :
    ∃ (s : Smp) (tv pv gv : Value), cs = [vi s.B, vi s.P, vi s.L, vi s.F, tv, pv, gv] ∧ RdSm w s tv pv gv := by
  obtain ⟨hl, hf⟩ := fields_list Tryz.underlying26 h
  rw [cells_26] at hl
  obtain ⟨c0, c1, c2, c3, c4, c5, c6, rfl⟩ := seven' hl
  obtain ⟨⟨_, _, f0⟩, ⟨_, _, f1⟩, ⟨_, _, f2⟩, ⟨_, _, f3⟩, ⟨_, _, f4⟩, ⟨_, _, f5⟩, ⟨_, _, f6⟩, _⟩ := hf
  rw [cells_3] at f0 f1 f2 f3
  rw [cells_22] at f4
  rw [cells_23] at f5
  rw [cells_24] at f6
  obtain ⟨n0, e0, _, w0⟩ := DataW.trod_int Tryz.underlying3 f0
  obtain ⟨n1, e1, _, w1⟩ := DataW.trod_int Tryz.underlying3 f1
  obtain ⟨n2, e2, _, w2⟩ := DataW.trod_int Tryz.underlying3 f2
  obtain ⟨n3, e3, _, w3⟩ := DataW.trod_int Tryz.underlying3 f3
  obtain ⟨tv, st, e4, h4, _⟩ := bools_reads f4
  obtain ⟨pv, ps, e5, h5, _⟩ := pass_reads f5
  obtain ⟨gv, sg, e6, h6, _⟩ := sgts_reads f6
  simp at e0 e1 e2 e3 e4 e5 e6
  subst e0; subst e1; subst e2; subst e3; subst e4; subst e5; subst e6
  exact ⟨⟨n0, n1, n2, n3, st, ps, sg⟩, _, _, _, rfl, h4, h5, h6⟩
end
end Go.Sp
