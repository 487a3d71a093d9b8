
/-
  SampleSealed.
-/
import Derived.Test.YtgfpkpiigkcndaaGreatM4
import Derived.Test.YtgfpkpiigkcndaaGreatRows
import Derived.ProofKit
import Derived.OpenShut
import Derived.Carry
import Derived.Deep.Fields
set_option linter.unusedVariables false
set_option linter.unusedSimpArgs false
set_option linter.deprecated false
namespace Go.Sp
open Go Go.Proofs
/-- A slice of slices that lies apart from some blocks. -/
def RdLP {α : Type} (k : Nat) (enc : α → List Value) (S : List Nat) (w : World) (v : Value) (xss : List (List α)) : Prop := ∃ us : List Sv, (RdS 1 svE w v us ∧ sepS v S) ∧ (us.length = xss.length ∧ ∀ u ∈ us, sepS u.1 S) ∧ ∀ j, j < xss.length → RdS k enc w (us.getD j sv0).1 (xss.getD j [])
theorem RdLN.lp {α : Type} {k : Nat} {enc : α → List Value} {w0 w : World} {v : Value} {xss : List (List α)} (h : RdLN k enc w0 w v xss) {S : List Nat} (hS : ∀ b ∈ S, b < w0.heap.size) : RdLP k enc S w v xss := by
  obtain ⟨us, ⟨h1, h2⟩, ⟨h3, h4⟩, h5⟩ := h
  exact ⟨us, ⟨h1, h2.sepN hS⟩, ⟨h3, fun u hu => (h4 u hu).sepN hS⟩, h5⟩
theorem RdLP.fr {α : Type} {k : Nat} {enc : α → List Value} {S : List Nat} {w w' : World} {v : Value} {xss : List (List α)} (h : RdLP k enc S w v xss) (f : Fr S w w') : RdLP k enc S w' v xss := by
  obtain ⟨us, ⟨h1, h2⟩, ⟨h3, h4⟩, h5⟩ := h
  exact ⟨us, ⟨h1.frS f h2, h2⟩, ⟨h3, h4⟩, fun j hj => (h5 j hj).frS f (h4 _ (getD_memG (by omega)))⟩
theorem RdLP.sub {α : Type} {k : Nat} {enc : α → List Value} {S S' : List Nat} {w : World} {v : Value} {xss : List (List α)} (h : RdLP k enc S w v xss) (hs : ∀ b ∈ S', b ∈ S) : RdLP k enc S' w v xss := by
  obtain ⟨us, ⟨h1, h2⟩, ⟨h3, h4⟩, h5⟩ := h
  exact ⟨us, ⟨h1, fun p m c e hm => h2 p m c e (hs _ hm)⟩, ⟨h3, fun u hu p m c e hm => h4 u hu p m c e (hs _ hm)⟩, h5⟩
theorem RdLP.ll {α : Type} {k : Nat} {enc : α → List Value} {S : List Nat} {w : World} {v : Value} {xss : List (List α)} (h : RdLP k enc S w v xss) : RdLL k enc w v xss := by
  obtain ⟨us, ⟨h1, h2⟩, ⟨h3, h4⟩, h5⟩ := h
  exact ⟨us, h1, h3, h5⟩
theorem HG.lts {bs : List (World × List Nat)} {H : List (Nat × Obj)} {w : World} (hw : HG bs H w) : ∀ b ∈ H.map Prod.fst, b < w.heap.size := fun b hb => by
  obtain ⟨p, hp, rfl⟩ := List.mem_map.1 hb
  exact hw.lt hp
theorem RdLP.opens {α : Type} {k : Nat} {enc : α → List Value} {S : List Nat} {w : World} {n : Nat} {y : Option Addr × Nat} {xss : List (List α)} (h : RdLP k enc S w (slV n y) xss) :
    ∃ b o, ∃ us : List Sv, (0 < xss.length → y.1 = some ⟨b, o, none⟩) ∧ (∀ w', Fr S w w' → ∀ i, i < xss.length → w'.cell? ⟨b, o + i, none⟩ = some (us.getD i sv0).1) ∧ ∀ i, i < xss.length → sepS (us.getD i sv0).1 S ∧ RdS k enc w (us.getD i sv0).1 (xss.getD i []) := by
  obtain ⟨us, ⟨h1, h2⟩, ⟨h3, h4⟩, h5⟩ := h
  obtain ⟨ad, cap, b, o, e, had, hcell⟩ := h1.opens svE_len sv0 h2
  injection e with e1 e2 e3
  subst e1
  rw [h3] at had
  refine ⟨b, o, us, had, fun w' f i hi => ?_, fun i hi => ⟨h4 _ (getD_memG (by omega)), h5 i hi⟩⟩
  have := (hcell w' f i (by omega)).get 0 _ rfl
  rw [Nat.mul_one, Nat.add_zero] at this
  exact this
theorem sepS.sub {v : Value} {S S' : List Nat} (h : sepS v S) (hs : ∀ b ∈ S', b ∈ S) : sepS v S' := fun p m c e hm => h p m c e (hs _ hm)
theorem sepS.own {b n c : Nat} {S : List Nat} (h : b ∉ S) : sepS (.slice (some ⟨b, 0, none⟩) n c) S := fun p m c' e hm => by cases e; exact h hm
theorem rPlay_v {s : Smp} {t : Tth} {q : List (List Int) × List (List Bool)} (hq : playF s t = some q) (hf : Few s) (hv : VSm s) (hl : Lst s t) (tv pv gv hvv avv : Value) (w : World) (hr : RdSm w s tv pv gv) (hrt : RdTh w t hvv avv) :
    CnX Tryz.prog 38 #[smV s tv pv gv, tV hvv avv] w [] (fun y : (Option Addr × Nat) × (Option Addr × Nat) => .tuple #[slV q.1.length y.1, slV q.2.length y.2, .bool true])
      (fun y w' => RdLN 1 inE w w' (slV q.1.length y.1) q.1 ∧ RdLN 1 boE w w' (slV q.2.length y.2) q.2) := by
  have h := rPlay_c s hf hv t hl tv pv gv hvv avv w hr hrt
  rw [hq] at h
  exact h
abbrev noS (s : Smp) : Smp := { s with st := List.replicate s.P.toNat false }
theorem noS_few {s : Smp} (hf : Few s) (hp : s.P ≤ 4) : Few (noS s) := ⟨by rw [List.length_replicate]; omega, hf.ps, hf.sg⟩
theorem noS_vsm {s : Smp} (hv : VSm s) : VSm (noS s) := ⟨hv.b1, hv.b3, hv.p1, hv.p4, hv.l0, hv.l9, hv.f0, hv.f1, by have := hv.p1; rw [List.length_replicate]; show ((s.P.toNat : Nat) : Int) = s.P; omega, hv.n6, hv.g6, hv.ps, hv.sg, hv.many⟩
theorem rep_no (n i : Nat) : (List.replicate n false).getD i false = false := by
  rw [List.getD_eq_getElem?_getD, List.getElem?_replicate]
  split <;> rfl
theorem madeB {n : Nat} (h : n ≤ 4) : madeCells (Value.bool false).cells (n * 1) = ((List.replicate n false).flatMap boE).toArray := by
  rcases (by omega : n = 0 ∨ n = 1 ∨ n = 2 ∨ n = 3 ∨ n = 4) with rfl | rfl | rfl | rfl | rfl <;> kernel_rfl
set_option maxHeartbeats 8000000 in
theorem ssealed_c (s : Smp) (ws : List Int) (hws : ∀ x ∈ ws, 0 ≤ x ∧ x ≤ 255) (hwl : (ws.length : Int) ≤ 9223372036854775807) (n1 : Int) (w1 : 0 ≤ n1 ∧ n1 ≤ 255) (tv pv gv wv : Value) (w : World) (hr : RdSm w s tv pv gv) (hW : RdW w wv ws) :
    CnV Tryz.prog 7 #[smV s tv pv gv, wv, .int .u8 n1] w (.bool true) := by
  have hr0 := hr
  obtain ⟨adt, cpt, _, _, rfl, _, _⟩ := hr.st.open boE_len false
  obtain ⟨adp, cpp, _, _, rfl, _, _⟩ := hr.ps.open psE_len pas0
  obtain ⟨adg, cpg, _, _, rfl, _, _⟩ := hr.sg.open sgE_len sgt0
  obtain ⟨adw, cpw, _, _, rfl, _, _⟩ := rdkH_open hW
  have hWr : ∀ w', Fr [] w w' → RdW w' (.slice adw ws.length cpw) ws := fun w' f => Reads.frS hW f (by simp)
  refine cnv (vs := [_, _, _]) Tryz.func7 rfl rfl ?_
  all_goals refine tc_seq fun K1 hK1 => ?_; refine tc_region ?_; refine tl_e (e_box rfl rfl rfl) rfl (fun b3 _ => ?_); refine tl_q (y_assign rfl) rfl ?_; refine tl_nil ?_; ((refine hK1 ?_; try (clear hK1; clear K1)))
  all_goals refine tc_seq fun K2 hK2 => ?_; refine tc_seq fun K3 hK3 => ?_; refine tc_lay ([]) (SB.s .nil) (fun wl1 hl1 => ?_); refine tc_region ?_; ((refine tl_q (y_loadWf rfl (hl1.at (by repeat constructor)) (MI.m (by repeat constructor)) (by first | (simp; done) | (simp; omega)) (by rfl)) rfl ?_))
  all_goals refine tl_e (e_callV rfl (.cons rfl .nil) (fun w' hw' => ready_c s _ _ _ w' (hr0.fr (hw'.fr (w0 := w) (S := []) (MI.m (by repeat constructor)))))) rfl (fun _ _ => ?_); refine tl_q (y_not_dec rfl) rfl ?_; refine tl_nil ?_; ((refine hK3 ?_; try (clear hK3; clear K3)))
  all_goals (
   refine tc_cond rfl (fun hc => ?_) (fun hc => ?_)
   · try simp only [decide_eq_true_eq, decide_eq_false_iff_not, Int.not_lt, Int.not_le, Bool.not_eq_true', Bool.not_eq_false', Decidable.not_not, not_true_eq_false] at hc
     all_goals refine tc_seq fun K4 hK4 => ?_; refine tc_lay ([]) (SB.s .nil) (fun wl2 hl2 => ?_); refine tc_region ?_; refine tl_e (e_callV rfl .nil (fun w' _ => awake_c w')) rfl (fun _ _ => ?_); refine tl_q (y_assign rfl) rfl ?_; refine tl_nil ?_; ((refine hK4 ?_; try (clear hK4; clear K4)))
     all_goals refine tc_ret ?_; (repeat (refine tk_then_ret ?_))
     all_goals (refine tk_ret rfl rfl (.cons (.tmp rfl) .nil) ?_)
     all_goals (
      exact fun w' hw' => ⟨rfl, hw'.fr (w0 := w) (S := []) (MI.m (by repeat constructor))⟩)
   · try simp only [decide_eq_true_eq, decide_eq_false_iff_not, Int.not_lt, Int.not_le, Bool.not_eq_true', Bool.not_eq_false', Decidable.not_not, not_true_eq_false] at hc
     all_goals refine tc_skip ?_; ((refine hK2 ?_; try (clear hK2; clear K2)))
     all_goals refine tc_seq fun K5 hK5 => ?_; refine tc_lay ([]) (SB.s .nil) (fun wl3 hl3 => ?_); ((have hv := chkS_0.1 hc.2; have hf := hc.1.few; have hb1 := hv.b1; have hb3 := hv.b3; have hp1 := hv.p1; have hp4 := hv.p4; have hl0 := hv.l0; have hl9 := hv.l9))
     all_goals (obtain ⟨P, hP⟩ : ∃ P : Nat, (P : Int) = s.P := ⟨s.P.toNat, by omega⟩)
     all_goals refine tc_region ?_; ((refine tl_q (y_loadWf rfl (hl1.at (by repeat constructor)) (MI.m (by repeat constructor)) (by first | (simp; done) | (simp; omega)) (by rfl)) rfl ?_))
     all_goals refine tl_e (e_allocN rfl) rfl (fun b7 _ => ?_); refine tl_e (e_storeW rfl rfl (by repeat constructor) (by rfl) (by rfl) (smV_ones (s := s) rfl rfl rfl)) rfl (fun _ _ => ?_); refine tl_nil ?_; ((refine hK5 ?_; try (clear hK5; clear K5)))
     all_goals refine tc_seq fun K6 hK6 => ?_; refine tc_region ?_; refine tl_q (y_field rfl) rfl ?_; ((refine tl_q (y_load1f rfl (hl1.at (by repeat constructor)) (MI.m (by repeat constructor)) (by first | (simp; done) | (simp; omega)) (by rfl)) rfl ?_))
     all_goals (refine tl_e (e_mkS (sz := 1) (z := .bool false) (by_ := 1) (n := P) (out := (List.replicate P false).flatMap boE) (by kernel_rfl) rfl (by rw [hP]; rfl) (by rw [hP]; rfl) (by omega) (by omega) (by omega) (madeB (by omega))) rfl (fun b23 _ => ?_))
     all_goals refine tl_q (y_field rfl) rfl ?_; refine tl_e (e_store1 rfl rfl (by repeat constructor) (by repeat constructor) (by rfl) (by rfl)) rfl (fun _ _ => ?_); refine tl_nil ?_; ((refine hK6 ?_; try (clear hK6; clear K6)))
     all_goals refine tc_seq fun K7 hK7 => ?_; refine tc_region ?_; refine tl_q (y_loadW rfl (by repeat constructor) (by rfl)) rfl ?_; refine tl_q (y_move rfl) rfl ?_; (refine tl_e (e_callX rfl (.cons rfl (.cons rfl .nil)) (fun w' hw' => (happened_c (noS s) (noS_few hf hp4) (noS_vsm hv) ws hws hwl (.slice (some ⟨b23, 0, none⟩) P P) _ _ _ w' ⟨by have := RdS.own0 (xs := List.replicate P false) (cap := P) boE_len hw' (b := b23) (by repeat constructor); rw [List.length_replicate] at this; show RdS 1 boE w' _ (List.replicate s.P.toNat false); rw [show s.P.toNat = P from by omega]; exact this, hr0.ps.fr (hw'.fr (w0 := w) (S := []) (MI.m (by repeat constructor))), hr0.sg.fr (hw'.fr (w0 := w) (S := []) (MI.m (by repeat constructor)))⟩ (hWr w' (hw'.fr (w0 := w) (S := []) (MI.m (by repeat constructor))))).imp (val' := fun y : (Smp × Tth) × (Option Addr × Nat) × (Option Addr × Nat) × (Option Addr × Nat) => .tuple #[smV y.1.1 (.slice (some ⟨b23, 0, none⟩) P P) (slV y.1.1.ps.length y.2.1) (.slice none 0 0), tV (slV y.1.2.hs.length y.2.2.1) (slV y.1.2.ac.length y.2.2.2)]) (p' := fun y w2 => HapOk (noS s) y.1.1 y.1.2 ∧ (RdS 5 psE w2 (slV y.1.1.ps.length y.2.1) y.1.1.ps ∧ sepS (slV y.1.1.ps.length y.2.1) [b23, b7]) ∧ (RdI w2 (slV y.1.2.hs.length y.2.2.1) y.1.2.hs ∧ sepS (slV y.1.2.hs.length y.2.2.1) [b23, b7]) ∧ RdLP 1 inE [b23, b7] w2 (slV y.1.2.ac.length y.2.2.2) y.1.2.ac) id (fun _ => rfl) (fun _ h => h) (fun y w2 _ hp => ⟨hp.1, ⟨hp.2.1.1, hp.2.1.2.sep hw'⟩, ⟨hp.2.2.1.1, hp.2.2.1.2.sep hw'⟩, hp.2.2.2.lp (S := [b23, b7]) hw'.lts⟩))) rfl (fun y hy => ?_))
     all_goals refine tl_q (y_move rfl) rfl ?_; refine tl_q (y_extract rfl rfl) rfl ?_; refine tl_q (y_extract rfl rfl) rfl ?_; refine tl_e (e_allocN rfl) rfl (fun b8 _ => ?_); refine tl_e (e_storeW rfl rfl (by repeat constructor) (by rfl) (by rfl) (smV_ones (s := y.1.1.1) rfl rfl rfl)) rfl (fun _ _ => ?_); refine tl_e (e_storeW rfl rfl (by repeat constructor) (by rfl) (by rfl) (two_ones rfl rfl)) rfl (fun _ _ => ?_); refine tl_nil ?_; ((refine hK7 ?_; try (clear hK7; clear K7)))
     all_goals refine tc_seq fun K8 hK8 => ?_; refine tc_lay ([(b7, .cells #[vi y.1.1.1.B, vi y.1.1.1.P, vi y.1.1.1.L, vi y.1.1.1.F, .slice (some ⟨b23, 0, none⟩) P P, slV y.1.1.1.ps.length y.1.2.1, .slice none 0 0] 26 (0, 0))]) (SB.s (by repeat constructor)) (fun wl6 hl6 => ?_); ((obtain ⟨⟨hok, hps, hhs, hac⟩, hyw⟩ := hy; obtain ⟨q, hq⟩ := Option.isSome_iff_exists.1 hok.p))
     all_goals ((have hxB : y.1.1.1.B = s.B := hok.B; have hxL : y.1.1.1.L = s.L := hok.L; have hn6 := hok.v.n6; have hf6 := hl6.fr (w0 := y.2) (S := [b23, b7]) (MI.m (by repeat constructor))))
     all_goals ((have hne : b23 ∉ [b7] := by have hh := hl6.nodup; simp only [List.map_cons, List.map_nil, List.nodup_cons, List.mem_cons, not_or, List.not_mem_nil, not_false_eq_true, and_true] at hh ⊢; omega))
     all_goals ((have hn8 : ¬ b8 = b7 := by have hh := hl6.nodup; simp only [List.map_cons, List.map_nil, List.nodup_cons, List.mem_cons, not_or, List.not_mem_nil, not_false_eq_true, and_true] at hh; omega))
     all_goals ((have hst6 : RdS 1 boE wl6 (.slice (some ⟨b23, 0, none⟩) P P) y.1.1.1.st := by have := RdS.own0 (xs := List.replicate P false) (cap := P) boE_len hl6 (b := b23) (by repeat constructor); rw [List.length_replicate] at this; rw [hok.st]; show RdS 1 boE wl6 _ (List.replicate s.P.toNat false); rw [show s.P.toNat = P from by omega]; exact this))
     all_goals ((have hr6 : ∀ w', Fr [b7] wl6 w' → RdSm w' y.1.1.1 (.slice (some ⟨b23, 0, none⟩) P P) (slV y.1.1.1.ps.length y.1.2.1) (.slice none 0 0) := fun w' f => ⟨hst6.frS f (sepS.own hne), (hps.1.frS hf6 hps.2).frS f (hps.2.sub (fun b hb => List.mem_cons_of_mem _ hb)), by rw [hok.sg]; exact RdS.nil 3 sgE w' 0⟩))
     all_goals (have ht6 : ∀ w', Fr [b7] wl6 w' → RdTh w' y.1.1.2 (slV y.1.1.2.hs.length y.1.2.2.1) (slV y.1.1.2.ac.length y.1.2.2.2) := fun w' f => ⟨((RdI.toS hhs.1).frS hf6 hhs.2 |>.frS f (hhs.2.sub (fun b hb => List.mem_cons_of_mem _ hb))).toI, (((hac.fr hf6).sub (S' := [b7]) (fun b hb => List.mem_cons_of_mem _ hb)).fr f).ll⟩)
     all_goals ((have hfx : Few y.1.1.1 := ⟨by rw [hok.st]; show (List.replicate s.P.toNat false).length ≤ 9; rw [List.length_replicate]; omega, by omega, by rw [hok.sg]; simp⟩))
     all_goals refine tc_region ?_; refine tl_q (y_move rfl) rfl ?_; refine tl_q (y_conv64 rfl (by omega)) rfl ?_; refine tl_q (y_field rfl) rfl ?_; refine tl_q (y_load1 rfl (by repeat constructor) (by rfl)) rfl ?_; refine tl_q (y_rem rfl rfl (by omega) (by omega)) rfl ?_; refine tl_q (y_assign rfl) rfl ?_; refine tl_nil ?_; ((obtain ⟨b, hbn⟩ : ∃ b : Nat, (b : Int) = n1 % y.1.1.1.B := ⟨(n1 % y.1.1.1.B).toNat, by have := Int.emod_nonneg n1 (show y.1.1.1.B ≠ 0 by omega); omega⟩))
     all_goals ((have hbB : b < y.1.1.1.B.toNat := by have := Int.emod_lt_of_pos n1 (show 0 < y.1.1.1.B by omega); omega))
     all_goals rw [← hbn]
     all_goals ((refine hK8 ?_; try (clear hK8; clear K8)))
     all_goals refine tc_seq fun K9 hK9 => ?_; refine tc_lay ([(b7, .cells #[vi y.1.1.1.B, vi y.1.1.1.P, vi y.1.1.1.L, vi y.1.1.1.F, .slice (some ⟨b23, 0, none⟩) P P, slV y.1.1.1.ps.length y.1.2.1, .slice none 0 0] 26 (0, 0))]) (SB.s (by repeat constructor)) (fun wl7 hl7 => ?_); refine tc_region ?_; refine tl_q (y_loadW rfl (by repeat constructor) (by rfl)) rfl ?_; ((refine tl_q (y_loadWf rfl (hl6.at (by repeat constructor)) (MI.m (by repeat constructor)) (by first | (simp; done) | (simp; omega)) (by rfl)) rfl ?_))
     all_goals refine tl_e (e_callX rfl (.cons rfl (.cons rfl .nil)) (fun w' hw' => (rPlay_v hq hfx hok.v hok.l _ _ _ _ _ w' (hr6 w' (hw'.fr (w0 := wl6) (S := [b7]) (MI.m (by repeat constructor)))) (ht6 w' (hw'.fr (w0 := wl6) (S := [b7]) (MI.m (by repeat constructor))))).imp (val' := fun y : (Option Addr × Nat) × (Option Addr × Nat) => .tuple #[slV q.1.length y.1, slV q.2.length y.2, .bool true]) (p' := fun z w2 => RdLP 1 boE [b7] w2 (slV q.2.length z.2) q.2) id (fun _ => rfl) (fun _ h => h) (fun z w2 _ hp => hp.2.lp (S := [b7]) hw'.lts))) rfl (fun z hz => ?_); refine tl_q (y_move rfl) rfl ?_; refine tl_q (y_extract rfl rfl) rfl ?_; refine tl_q (y_extract rfl rfl) rfl ?_; refine tl_q (y_extract rfl rfl) rfl ?_; refine tl_q (y_assign rfl) rfl ?_; refine tl_q (y_assign rfl) rfl ?_; refine tl_q (y_assign rfl) rfl ?_; refine tl_nil ?_; ((refine hK9 ?_; try (clear hK9; clear K9)))
     all_goals refine tc_seq fun K10 hK10 => ?_; refine tc_seq fun K11 hK11 => ?_; refine tc_region ?_; refine tl_q (y_move rfl) rfl ?_; refine tl_q (y_not rfl) rfl ?_; refine tl_nil ?_; ((refine hK11 ?_; try (clear hK11; clear K11)))
     all_goals (
      refine tc_cond rfl (fun hc => ?_) (fun hc => ?_)
      · try simp only [decide_eq_true_eq, decide_eq_false_iff_not, Int.not_lt, Int.not_le, Bool.not_eq_true', Bool.not_eq_false', Decidable.not_not, not_true_eq_false] at hc
        all_goals ((exfalso; with_reducible exact btf hc))
      · try simp only [decide_eq_true_eq, decide_eq_false_iff_not, Int.not_lt, Int.not_le, Bool.not_eq_true', Bool.not_eq_false', Decidable.not_not, not_true_eq_false] at hc
        all_goals refine tc_skip ?_; ((refine hK10 ?_; try (clear hK10; clear K10)))
        all_goals refine tc_seq fun K13 hK13 => ?_; refine tc_lay ([(b7, .cells #[vi y.1.1.1.B, vi y.1.1.1.P, vi y.1.1.1.L, vi y.1.1.1.F, .slice (some ⟨b23, 0, none⟩) P P, slV y.1.1.1.ps.length y.1.2.1, .slice none 0 0] 26 (0, 0))]) (SB.s (by repeat constructor)) (fun wl10 hl10 => ?_); ((obtain ⟨hz1, hz2⟩ := hz; have hz10 := hz1.fr (hl10.fr (w0 := z.2) (S := [b7]) (MI.m (by repeat constructor))); obtain ⟨ub, uo, us, hadu, hcu, hus⟩ := hz10.opens))
        all_goals ((have hql := playN_len hq; have hb2 : b < q.2.length := (by omega); obtain ⟨hun, hur⟩ := hus b hb2; obtain ⟨_, _, _, hwlen, _⟩ := truth_run hok.v hok.r (play_at hq b hbB)))
        all_goals (obtain ⟨wh, hwh⟩ : ∃ wh, wh = (q.2.getD b []).getD y.1.1.1.L.toNat false := ⟨_, rfl⟩)
        all_goals (obtain ⟨adn, cpn, bn, on, hen, hadn, hcn⟩ := hur.opens boE_len false hun)
        all_goals refine tc_draw (by kernel_rfl) ?_; refine tx_p 0 rfl (by kernel_rfl) (y_move rfl) rfl (fun _ _ _ h => h) (fun _ h => h) ?_; refine tx_p 1 rfl (by kernel_rfl) (y_field rfl) rfl (fun _ _ _ h => h) (fun _ h => h) ?_; refine tx_q 2 rfl (by kernel_rfl) (y_load1 rfl (by repeat constructor) (by rfl)) rfl (fun _ _ _ h => h) (fun _ h => h) ?_; refine tx_p 3 rfl (by kernel_rfl) (y_move rfl) rfl (fun _ _ _ h => h) (fun _ h => h) ?_; refine tx_p 4 rfl (by kernel_rfl) (y_move rfl) rfl (fun _ _ _ h => h) (fun _ h => h) ?_; refine tx_p 5 rfl (by kernel_rfl) (y_index rfl rfl (by omega) (hadu (by omega))) rfl (fun _ _ _ h => h) (fun _ h => h) ?_; ((refine tx_q 6 rfl (by kernel_rfl) (y_load1o (v := .slice adn (q.2.getD b []).length cpn) rfl (fun w' hw' => by rw [← hen, show Int.toNat (b : Int) * 1 = b from by omega]; exact hcu w' (hw'.fr (w0 := wl10) (S := [b7]) (MI.m (by repeat constructor))) b hb2)) rfl (fun _ _ _ h => h) (fun _ h => h) ?_))
        all_goals refine tx_p 7 rfl (by kernel_rfl) (y_field rfl) rfl (fun _ _ _ h => h) (fun _ h => h) ?_; refine tx_q 8 rfl (by kernel_rfl) (y_load1 rfl (by repeat constructor) (by rfl)) rfl (fun _ _ _ h => h) (fun _ h => h) ?_; refine tx_p 9 rfl (by kernel_rfl) (y_index rfl rfl (by omega) (hadn (by omega))) rfl (fun _ _ _ h => h) (fun _ h => h) ?_; ((refine tx_q 10 rfl (by kernel_rfl) (y_load1o (v := .bool wh) rfl (fun w' hw' => by rw [hwh]; have hx := (hcn w' (hw'.fr (w0 := wl10) (S := [b7]) (MI.m (by repeat constructor))) y.1.1.1.L.toNat (by omega)).get 0 _ rfl; exact hx)) rfl (fun _ _ _ h => h) (fun _ h => h) ?_))
        all_goals refine tx_p 11 rfl (by kernel_rfl) (y_build_g (by repeat constructor)) rfl (fun _ _ _ h => h) (fun _ h => h) ?_; refine tx_e 12 rfl (by kernel_rfl) rfl (e_bsliceG rfl (.agg rfl rfl .nil) rfl rfl) (.inr qq1) (fun b58 _ => ?_); refine tx_p 13 rfl (by kernel_rfl) (y_field rfl) rfl (fun _ _ _ h => h) (fun _ h => h) ?_; refine tx_e 14 rfl (by kernel_rfl) rfl (e_store1 rfl rfl (by repeat constructor) (by repeat constructor) (by rfl) (by rfl)) (.inl (by kernel_rfl)) (fun _ _ => ?_); refine tx_done (by kernel_rfl) ?_; ((refine hK13 ?_; try (clear hK13; clear K13)))
        all_goals refine tc_seq fun K14 hK14 => ?_; refine tc_lay ([]) (SB.s .nil) (fun wl11 hl11 => ?_); (have hrx : RdSm wl11 (seS y.1.1.1 b wh) (.slice (some ⟨b23, 0, none⟩) P P) (slV y.1.1.1.ps.length y.1.2.1) (.slice (some ⟨b58, 0, none⟩) 1 1) := ⟨(hr6 wl11 (hl11.fr (w0 := wl6) (S := [b7]) (MI.m (by repeat constructor)))).st, (hr6 wl11 (hl11.fr (w0 := wl6) (S := [b7]) (MI.m (by repeat constructor)))).ps, RdS.own0 (xs := [(⟨b, y.1.1.1.L, wh⟩ : Sgt)]) (cap := 1) sgE_len hl11 (b := b58) (by repeat constructor)⟩)
        all_goals ((have hvx : VSm (seS y.1.1.1 b wh) := ⟨hok.v.b1, hok.v.b3, hok.v.p1, hok.v.p4, hok.v.l0, hok.v.l9, hok.v.f0, hok.v.f1, hok.v.st, hok.v.n6, by simp, hok.v.ps, (fun g hg => by obtain rfl := List.mem_singleton.1 hg; refine ⟨⟨?_, ?_⟩, ?_, ?_⟩ <;> (dsimp only; omega)), hok.v.many⟩))
        all_goals ((have hcx := seS_cons hok.v hok.r hq hbB hwh.symm hvx; have hvd : vdE (seS y.1.1.1 b wh) = 0 := sure_ok hvx hcx; have hfx2 : Few (seS y.1.1.1 b wh) := ⟨hfx.st, hfx.ps, by simp⟩))
        all_goals ((have hverd := seS_verd hvx (fun i => by rw [hok.st]; exact rep_no _ i) hcx hbB; have hvl : (vdL (seS y.1.1.1 b wh)).length = y.1.1.1.B.toNat := by rw [vdL_v hvd, vdN_len]))
        all_goals ((have hvg : (vdL (seS y.1.1.1 b wh)).getD b 0 = if wh = true then 2 else 1 := by rw [vdL_v hvd, vdN_get hbB]; exact hverd))
        all_goals refine tc_region ?_; refine tl_q (y_loadWf rfl (hl11.at (b := b7) (by repeat constructor)) (MI.m (by repeat constructor)) (by simp) (by rfl)) rfl ?_; refine tl_e (e_callX rfl (.cons rfl .nil) (fun w' hw' => lawSample_c (seS y.1.1.1 b wh) hfx2 _ _ _ w' (hrx.fr (hw'.fr (w0 := wl11) (S := []) (MI.m (by repeat constructor)))))) rfl (fun x hx => ?_); refine tl_e (e_callX rfl (.cons rfl .nil) (fun w' hw' => verdictsK_v hvd hfx2 _ _ _ w' (hx.1.fr (hw'.calm hx.2 (MI.m (by repeat constructor)) (SB.s (by repeat constructor)))))) rfl (fun v hv2 => ?_); refine tl_q (y_move rfl) rfl ?_; refine tl_q (y_extract rfl rfl) rfl ?_; refine tl_q (y_extract rfl rfl) rfl ?_; refine tl_q (y_assign rfl) rfl ?_; refine tl_q (y_assign rfl) rfl ?_; refine tl_nil ?_; ((refine hK14 ?_; try (clear hK14; clear K14)))
        all_goals refine tc_seq fun K15 hK15 => ?_; refine tc_lay ([]) (SB.s .nil) (fun wl12 hl12 => ?_); refine tc_region ?_; refine tl_q (y_assign rfl) rfl ?_; refine tl_nil ?_; ((refine hK15 ?_; try (clear hK15; clear K15)))
        all_goals refine tc_seq fun K16 hK16 => ?_; refine tc_seq fun K17 hK17 => ?_; refine tc_lay ([]) (SB.s .nil) (fun wl13 hl13 => ?_); (obtain ⟨vb, vo, hadv, hcv⟩ := hv2.1.opensK2)
        all_goals refine tc_draw (by kernel_rfl) ?_; refine tx_p 0 rfl (by kernel_rfl) (y_move rfl) rfl (fun _ _ _ h => h) (fun _ h => h) ?_; refine tx_p 1 rfl (by kernel_rfl) (y_move rfl) rfl (fun _ _ _ h => h) (fun _ h => h) ?_; refine tx_p 2 rfl (by kernel_rfl) (y_index rfl rfl (by omega) (hadu (by omega))) rfl (fun _ _ _ h => h) (fun _ h => h) ?_; ((refine tx_q 3 rfl (by kernel_rfl) (y_load1o (v := .slice adn (q.2.getD b []).length cpn) rfl (fun w' hw' => by rw [← hen, show Int.toNat (b : Int) * 1 = b from by omega]; exact hcu w' (hw'.fr (w0 := wl10) (S := [b7]) (MI.m (by repeat constructor))) b hb2)) rfl (fun _ _ _ h => h) (fun _ h => h) ?_))
        all_goals refine tx_p 4 rfl (by kernel_rfl) (y_field rfl) rfl (fun _ _ _ h => h) (fun _ h => h) ?_; refine tx_q 5 rfl (by kernel_rfl) (y_load1f rfl (hl11.at (b := b7) (by repeat constructor)) (MI.m (by repeat constructor)) (by simp) (by rfl)) rfl (fun _ _ _ h => h) (fun _ h => h) ?_; refine tx_p 6 rfl (by kernel_rfl) (y_index rfl rfl (by omega) (hadn (by omega))) rfl (fun _ _ _ h => h) (fun _ h => h) ?_; ((refine tx_q 7 rfl (by kernel_rfl) (y_load1o (v := .bool wh) rfl (fun w' hw' => by rw [hwh]; have hx := (hcn w' (hw'.fr (w0 := wl10) (S := [b7]) (MI.m (by repeat constructor))) y.1.1.1.L.toNat (by omega)).get 0 _ rfl; exact hx)) rfl (fun _ _ _ h => h) (fun _ h => h) ?_))
        all_goals refine tx_done (by kernel_rfl) ?_; ((refine hK17 ?_; try (clear hK17; clear K17)))
        all_goals (
         refine tc_cond rfl (fun hc => ?_) (fun hc => ?_)
         · all_goals (skip)
           all_goals refine tc_lay ([]) (SB.s .nil) (fun wl14 hl14 => ?_); refine tc_region ?_; refine tl_q (y_assign rfl) rfl ?_; refine tl_nil ?_; ((refine hK16 ?_; try (clear hK16; clear K16)))
           all_goals refine tc_seq fun K18 hK18 => ?_; refine tc_lay ([]) (SB.s .nil) (fun wl15 hl15 => ?_); (rw [if_pos (by assumption)] at hvg)
           all_goals refine tc_region ?_; refine tl_q (y_move rfl) rfl ?_; refine tl_q (y_eql rfl rfl) rfl ?_; refine tl_q (y_move rfl) rfl ?_; refine tl_qg rfl rfl (y_move rfl) rfl ?_; refine tl_qg rfl rfl (y_len rfl) rfl ?_; refine tl_qg rfl rfl (y_field rfl) rfl ?_; refine tl_qg rfl rfl (y_load1f rfl (hl11.at (b := b7) (by repeat constructor)) (MI.m (by repeat constructor)) (by simp) (by rfl)) rfl ?_; refine tl_qg rfl rfl (y_eql rfl rfl) rfl ?_; refine tl_q (y_pick_t rfl rfl) rfl ?_; refine tl_q (y_move rfl) rfl ?_; ((refine tl_gs rfl rfl (fun hc => ?_) (fun hc => ?_) <;> (try simp only [decide_eq_true_eq, decide_eq_false_iff_not, Int.not_lt, Int.not_le, Bool.not_eq_true', Bool.not_eq_false', Decidable.not_not, not_true_eq_false] at hc) <;> (first | (exfalso; omega) | refine tl_qg rfl rfl (y_move rfl) rfl ?_)))
           all_goals (refine tl_qg rfl rfl (y_move rfl) rfl ?_); refine tl_qg rfl rfl (y_index rfl rfl (by omega) (hadv (by omega))) rfl ?_; ((refine tl_qg rfl rfl (y_load1o (v := vi ((vdL (seS y.1.1.1 b wh)).getD b 0)) rfl (fun w' hw' => by rw [show Int.toNat (b : Int) * 1 = b from by omega]; exact hcv w' (hw'.fr (w0 := v.2) (S := []) (MI.m (by repeat constructor))) b (by omega))) rfl ?_))
           all_goals (refine tl_qg rfl rfl (y_move rfl) rfl ?_); refine tl_qg rfl rfl (y_eql rfl rfl) rfl ?_; refine tl_q (y_pick_t rfl rfl) rfl ?_; refine tl_q (y_move rfl) rfl ?_; ((refine tl_gs rfl rfl (fun hc => ?_) (fun hc => ?_) <;> (try simp only [decide_eq_true_eq, decide_eq_false_iff_not, Int.not_lt, Int.not_le, Bool.not_eq_true', Bool.not_eq_false', Decidable.not_not, not_true_eq_false] at hc) <;> (first | (exfalso; omega) | refine tl_eg rfl rfl rfl (e_callV rfl .nil (fun w' _ => awake_c w')) (fun _ _ => ?_))))
           all_goals (refine tl_q (y_pick_t rfl rfl) rfl ?_); refine tl_q (y_assign rfl) rfl ?_; refine tl_nil ?_; ((refine hK18 ?_; try (clear hK18; clear K18)))
           all_goals refine tc_ret ?_; (repeat (first | refine tk_then_ret ?_))
           all_goals (refine tk_ret rfl rfl (.cons (.tmp rfl) .nil) ?_)
           all_goals (
            exact fun w' hw' => ⟨rfl, hw'.fr (w0 := w) (S := []) (MI.m (by repeat constructor))⟩)
         · all_goals (skip)
           all_goals refine tc_skip ?_; ((refine hK16 ?_; try (clear hK16; clear K16)))
           all_goals refine tc_seq fun K19 hK19 => ?_; refine tc_lay ([]) (SB.s .nil) (fun wl15 hl15 => ?_); (rw [if_neg (fun g => by simp_all)] at hvg)
           all_goals refine tc_region ?_; refine tl_q (y_move rfl) rfl ?_; refine tl_q (y_eql rfl rfl) rfl ?_; refine tl_q (y_move rfl) rfl ?_; refine tl_qg rfl rfl (y_move rfl) rfl ?_; refine tl_qg rfl rfl (y_len rfl) rfl ?_; refine tl_qg rfl rfl (y_field rfl) rfl ?_; refine tl_qg rfl rfl (y_load1f rfl (hl11.at (b := b7) (by repeat constructor)) (MI.m (by repeat constructor)) (by simp) (by rfl)) rfl ?_; refine tl_qg rfl rfl (y_eql rfl rfl) rfl ?_; refine tl_q (y_pick_t rfl rfl) rfl ?_; refine tl_q (y_move rfl) rfl ?_; ((refine tl_gs rfl rfl (fun hc => ?_) (fun hc => ?_) <;> (try simp only [decide_eq_true_eq, decide_eq_false_iff_not, Int.not_lt, Int.not_le, Bool.not_eq_true', Bool.not_eq_false', Decidable.not_not, not_true_eq_false] at hc) <;> (first | (exfalso; omega) | refine tl_qg rfl rfl (y_move rfl) rfl ?_)))
           all_goals (refine tl_qg rfl rfl (y_move rfl) rfl ?_); refine tl_qg rfl rfl (y_index rfl rfl (by omega) (hadv (by omega))) rfl ?_; ((refine tl_qg rfl rfl (y_load1o (v := vi ((vdL (seS y.1.1.1 b wh)).getD b 0)) rfl (fun w' hw' => by rw [show Int.toNat (b : Int) * 1 = b from by omega]; exact hcv w' (hw'.fr (w0 := v.2) (S := []) (MI.m (by repeat constructor))) b (by omega))) rfl ?_))
           all_goals (refine tl_qg rfl rfl (y_move rfl) rfl ?_); refine tl_qg rfl rfl (y_eql rfl rfl) rfl ?_; refine tl_q (y_pick_t rfl rfl) rfl ?_; refine tl_q (y_move rfl) rfl ?_; ((refine tl_gs rfl rfl (fun hc => ?_) (fun hc => ?_) <;> (try simp only [decide_eq_true_eq, decide_eq_false_iff_not, Int.not_lt, Int.not_le, Bool.not_eq_true', Bool.not_eq_false', Decidable.not_not, not_true_eq_false] at hc) <;> (first | (exfalso; omega) | refine tl_eg rfl rfl rfl (e_callV rfl .nil (fun w' _ => awake_c w')) (fun _ _ => ?_))))
           all_goals (refine tl_q (y_pick_t rfl rfl) rfl ?_); refine tl_q (y_assign rfl) rfl ?_; refine tl_nil ?_; ((refine hK19 ?_; try (clear hK19; clear K19)))
           all_goals refine tc_ret ?_; (repeat (first | refine tk_then_ret ?_))
           all_goals (refine tk_ret rfl rfl (.cons (.tmp rfl) .nil) ?_)
           all_goals (
            exact fun w' hw' => ⟨rfl, hw'.fr (w0 := w) (S := []) (MI.m (by repeat constructor))⟩))))
end Go.Sp
/-
  From a contract of a law's function to its row: what the arguments read as, and that they read so afterwards.
-/
namespace Go.Sp
open Go Go.Proofs Go.ChangeShapes Go.WideShapes Go.RowKit
section
variable {H : Type} {enc : TypeId × Value → H} {P : Program} {w : World} {base : Nat} {spare : Nat → Bool} {held : Bool}
theorem Fr.kept {W W' : World} (h : Fr [] W W') (p : MemPlace → Prop) : W.keptBut W' p :=
  ⟨h.os, h.output, fun i hi => by
    have e := h.block i hi (by simp)
    rw [e]
    cases hb : W.heap[i]? with
    | none => trivial
    | some o => cases o <;> simp⟩
/-- What is left of a post without 'again'. -/
theorem post_na {f : Func} {s : ChangeSpec} {apart fresh handsOn : Bool} {W W' : World} {args : Array Value} {v : Value} {ds gs : List (DataW H)} {before pa pv : List MemPlace}
    (hW : DataW.Whole enc P f.params.toList s.vars apart W args.toList ds gs before)
    (hres : ∀ (b : Nat) (sp : Nat → Bool) (hd : Bool), DataW.TrodAll enc P W' b sp hd f.resultTypes.toList (v.resultList f.resultTypes.size) (s.fn H (ds ++ gs)).results [])
    (hargs : ∀ sp : Nat → Bool, (∀ p ∈ before, sp p.block = true) → DataW.TrodAll enc P W' 0 sp true f.params.toList args.toList (s.fn H (ds ++ gs)).args pa)
    (hvars : ∀ sp : Nat → Bool, (∀ p ∈ before, sp p.block = true) → DataW.TrodVars enc P W' sp s.vars (s.fn H (ds ++ gs)).vars pv)
    (hps : before = pa ++ pv) (hk : W.keptBut W' (· ∈ before)) : s.post enc P f apart fresh handsOn false W args v W' := by
  have hold : ∀ p ∈ before, (fun b => decide (b < W.heap.size)) p.block = true := fun p hp => by simpa using hW.lt p hp
  refine ⟨ds, gs, before, [], pa, pv, hW, hres _ _ _, hargs _ hold, hvars _ hold, World.keptBut_mono (fun p hp => ⟨hp, ?_⟩) hk, fun h => by cases h⟩
  rw [hps, List.mem_append] at hp
  exact Or.inr hp
theorem all_stays (hl : laidOutB P = true) {W W' : World} {sp : Nat → Bool} (hb : Below W.heap.size W W') : ∀ {ts : List TypeId} {vs : List Value} {ds : List (DataW H)} {ps : List MemPlace}, (ts.all fun t => P.readableRec t && decide (t < P.types.size)) = true →
    DataW.TrodAll enc P W 0 (fun _ => true) true ts vs ds ps → (∀ p ∈ ps, sp p.block = true) → DataW.TrodAll enc P W' 0 sp true ts vs ds ps := by
  intro ts
  induction ts with
  | nil => intro vs ds ps _ h _; cases vs <;> cases ds <;> simp [DataW.TrodAll] at h ⊢; exact h
  | cons t ts ih =>
    intro vs ds ps ht h hs
    have hlt := h.lt
    obtain ⟨v, vs', d, ds', p, q, rfl, rfl, rfl, h1, h2⟩ := trodAll_cons h
    simp only [List.all_cons, Bool.and_eq_true, decide_eq_true_eq] at ht
    exact ⟨p, q, WideElems.Trod_stays hl ht.1.1 ht.1.2 h1 (fun x hx => hb.same (hlt x (List.mem_append_left _ hx))) (fun x hx => hs x (List.mem_append_left _ hx)),
      ih (by simpa using ht.2) h2 (fun x hx => hs x (List.mem_append_right _ hx)), rfl⟩
/-- A slice reads as the cells of its elements, each of which reads. -/
theorem slice_reads {t e : TypeId} {fuel : Nat} {cs : List Value} {x : DataW H × List MemPlace} (ht : P.underlying t = some (.slice e)) (hc : 0 < P.cellsOf e) (h : DataW.trod enc P w base spare held fuel t cs = some x) :
    ∃ ad cap, ∃ ess : List (List Value), cs = [.slice ad ess.length cap] ∧ ess.length ≤ maxLen ∧ Reads w (.slice ad ess.length cap) (P.cellsOf e) ess.length ess.flatten ∧ ∀ es ∈ ess, ∃ m y, DataW.trod enc P w base spare held m e es = some y := by
  rcases DataW.trod_slice ht h with ⟨rfl, _⟩ | ⟨a, len, cap, elems, rest, n, _, rfl, _, hb, hl, hm, hlen, hel, _, _⟩
  · exact ⟨none, 0, [], rfl, Nat.zero_le _, ⟨by simp, none, 0, rfl, fun h => absurd rfl h⟩, by simp⟩
  · -- the cells of each element
    have hone : ∀ i, i < len → ∃ es y, w.cells? base (a.add (i * P.cellsOf e)) (P.cellsOf e) = some es ∧ DataW.trod enc P w base spare held n e es = some y := fun i hi => by
      have h1 := hel i hi
      rw [List.getElem?_eq_getElem (by omega)] at h1
      obtain ⟨es, h2, h3⟩ := Option.bind_eq_some_iff.1 h1
      exact ⟨es, _, h2, h3⟩
    have hadd : ∀ m, a.spot = none → a.add m = ⟨a.block, a.off + m, none⟩ := fun m hs => by
      obtain ⟨b, o, sp⟩ := a
      simp only at hs
      subst hs
      unfold Addr.add; split
      · rename_i h0; subst h0; rfl
      · rfl
    have hsp0 : 0 < len → a.spot = none := fun h0 => by
      obtain ⟨es, y, g1, g2⟩ := hone 0 h0
      obtain ⟨_, hl1, hat⟩ := World.cells?_some g1
      have := hat 0 hc
      rw [List.getElem?_eq_getElem (by omega), Nat.zero_mul, show (a.add 0).add 0 = a from rfl] at this
      unfold World.cell? at this
      split at this
      · split at this
        · cases this
        · rename_i hs; simpa using hs
      · cases this
    have hcell : ∀ k, k ≤ len → ∃ ess : List (List Value), ess.length = k ∧ (∀ es ∈ ess, ∃ m y, DataW.trod enc P w base spare held m e es = some y) ∧ ess.flatten.length = k * P.cellsOf e ∧
        (k ≠ 0 → a.spot = none) ∧ ∀ j v, ess.flatten[j]? = some v → w.cell? ⟨a.block, a.off + j, none⟩ = some v := by
      intro k
      induction k with
      | zero => intro _; exact ⟨[], rfl, by simp, by simp, fun h => absurd rfl h, by simp⟩
      | succ k ih =>
        intro hk
        obtain ⟨ess, h1, h2, h3, h4, h5⟩ := ih (by omega)
        obtain ⟨es, y, g1, g2⟩ := hone k (by omega)
        obtain ⟨_, hl1, hat⟩ := World.cells?_some g1
        have hspot : a.spot = none := hsp0 (by omega)
        refine ⟨ess ++ [es], by simp [h1], fun u hu => ?_, ?_, fun _ => hspot, fun j v hv => ?_⟩
        · rcases List.mem_append.1 hu with hu | hu
          · exact h2 u hu
          · obtain rfl := List.mem_singleton.1 hu; exact ⟨n, y, g2⟩
        · rw [List.flatten_append, List.length_append, h3]; simp [hl1]; rw [Nat.add_mul]; omega
        · rw [List.flatten_append] at hv
          by_cases hj : j < ess.flatten.length
          · rw [List.getElem?_append_left hj] at hv; exact h5 j v hv
          · rw [List.getElem?_append_right (by omega)] at hv
            simp only [List.flatten_cons, List.flatten_nil, List.append_nil] at hv
            have hjl : j - ess.flatten.length < es.length := (List.getElem?_eq_some_iff.1 hv).1
            have := hat (j - ess.flatten.length) (by omega)
            rw [hv, hadd _ hspot] at this
            have e2 : (⟨a.block, a.off + k * P.cellsOf e, none⟩ : Addr).add (j - ess.flatten.length) = ⟨a.block, a.off + j, none⟩ := by
              unfold Addr.add; split
              · rename_i h0; simp only [Addr.mk.injEq, true_and, and_true]; omega
              · simp only [Addr.mk.injEq, true_and, and_true]; omega
            rw [e2] at this
            exact this
    obtain ⟨ess, h1, h2, h3, h4, h5⟩ := hcell len (Nat.le_refl _)
    subst h1
    refine ⟨some a, cap, ess, rfl, by omega, ⟨h3, _, _, rfl, fun hn => ⟨a.block, a.off, ?_, ?_⟩⟩, h2⟩
    · have := h4 hn
      obtain ⟨b, o, sp⟩ := a
      simp only at this
      subst this
      rfl
    · rw [← h3]
      generalize ess.flatten = vs at h5
      have key : ∀ (vs : List Value) (o : Nat), (∀ j v, vs[j]? = some v → w.cell? ⟨a.block, o + j, none⟩ = some v) → CA (fun k => w.cell? ⟨a.block, k, none⟩) o vs.length vs := by
        intro vs
        induction vs with
        | nil => intro o _; exact .nil
        | cons v vs ih => intro o hv; exact .cons (hv 0 v rfl) (ih (o + 1) fun j u hu => by rw [Nat.add_assoc, Nat.add_comm 1 j]; exact hv (j + 1) u hu)
      exact key vs a.off h5
theorem exists_map {α β : Type} {f : α → β} {q : α → Prop} : ∀ (l : List β), (∀ y ∈ l, ∃ x, y = f x ∧ q x) → ∃ xs : List α, l = xs.map f ∧ ∀ x ∈ xs, q x
  | [], _ => ⟨[], rfl, by simp⟩
  | y :: l, h => by
    obtain ⟨x, rfl, hq⟩ := h y List.mem_cons_self
    obtain ⟨xs, rfl, hxs⟩ := exists_map l (fun z hz => h z (List.mem_cons_of_mem _ hz))
    exact ⟨x :: xs, rfl, fun z hz => by rcases List.mem_cons.1 hz with rfl | hz; exact hq; exact hxs z hz⟩
theorem flatten_map_one {α : Type} (f : α → Value) (xs : List α) : (xs.map fun x => [f x]).flatten = xs.map f := by
  induction xs with
  | nil => rfl
  | cons x xs ih => simp [ih]
/-- A slice of integers of one kind. -/
theorem ints_reads {t e : TypeId} {k : IntKind} {fuel : Nat} {cs : List Value} {x : DataW H × List MemPlace} (ht : P.underlying t = some (.slice e)) (he : P.underlying e = some (.int k)) (hc : P.cellsOf e = 1) (h : DataW.trod enc P w base spare held fuel t cs = some x) :
    ∃ sl, ∃ xs : List Int, cs = [sl] ∧ xs.length ≤ maxLen ∧ Reads w sl 1 xs.length (xs.map (Value.int k)) ∧ ∀ n ∈ xs, (Lit.int k n).wf = true := by
  obtain ⟨ad, cap, ess, rfl, hm, hr, hes⟩ := slice_reads ht (by omega) h
  obtain ⟨xs, rfl, hxs⟩ := exists_map (f := fun n : Int => [Value.int k n]) (q := fun n => (Lit.int k n).wf = true) ess (fun es h => by
    obtain ⟨m, y, hy⟩ := hes es h
    obtain ⟨n, rfl, _, hw⟩ := DataW.trod_int he hy
    exact ⟨n, rfl, hw⟩)
  rw [flatten_map_one, hc] at hr
  simp only [List.length_map] at hr hm
  exact ⟨_, xs, by simp, hm, hr, hxs⟩
/-- The fields of a struct. -/
theorem fields_reads {t : TypeId} {fs : Array Field} {fuel : Nat} {cs : List Value} {x : DataW H × List MemPlace} (ht : P.underlying t = some (.struct fs)) (h : DataW.trod enc P w base spare held fuel t cs = some x) :
    cs.length = P.cellsOf t ∧ ∀ (i : Nat) (f : Field), fs[i]? = some f → ∃ m y, DataW.trod enc P w base spare held m f.type ((cs.drop f.offset).take (P.cellsOf f.type)) = some y := by
  obtain ⟨xs, n, _, _, hl, hx, hf⟩ := DataW.trod_struct ht h
  refine ⟨hl, fun i f hi => ?_⟩
  have := hf i f hi
  have hlt : i < fs.size := (Array.getElem?_eq_some_iff.1 hi).1
  rw [List.getElem?_eq_getElem (by omega)] at this
  exact ⟨n, _, this⟩
def flds (enc : TypeId × Value → H) (P : Program) (w : World) (base : Nat) (spare : Nat → Bool) (held : Bool) (cs : List Value) : List Field → Prop
  | [] => True
  | f :: fs => (∃ m y, DataW.trod enc P w base spare held m f.type ((cs.drop f.offset).take (P.cellsOf f.type)) = some y) ∧ flds enc P w base spare held cs fs
theorem fields_list {t : TypeId} {l : List Field} {fuel : Nat} {cs : List Value} {x : DataW H × List MemPlace} (ht : P.underlying t = some (.struct l.toArray)) (h : DataW.trod enc P w base spare held fuel t cs = some x) :
    cs.length = P.cellsOf t ∧ flds enc P w base spare held cs l := by
  obtain ⟨hl, hf⟩ := fields_reads ht h
  refine ⟨hl, ?_⟩
  have key : ∀ l' : List Field, (∀ f ∈ l', f ∈ l) → flds enc P w base spare held cs l' := by
    intro l'
    induction l' with
    | nil => intro _; trivial
    | cons f fs ih =>
      intro hm
      obtain ⟨i, hi, e⟩ := List.getElem_of_mem (hm f List.mem_cons_self)
      exact ⟨hf i f (by simp [hi, e]), ih fun g hg => hm g (List.mem_cons_of_mem _ hg)⟩
  exact key l fun _ h => h
end
end Go.Sp
/-
  What a sample reads as.
-/
namespace Go.Sp
open Go Go.Proofs Go.ChangeShapes Go.WideShapes Go.RowKit
theorem laidTryz : laidOutB Tryz.prog = true := by kernel_rfl
theorem cells_3 : Tryz.prog.cellsOf 3 = 1 := by kernel_rfl
theorem cells_4 : Tryz.prog.cellsOf 4 = 1 := by kernel_rfl
theorem cells_22 : Tryz.prog.cellsOf 22 = 1 := by kernel_rfl
theorem cells_23 : Tryz.prog.cellsOf 23 = 1 := by kernel_rfl
theorem cells_24 : Tryz.prog.cellsOf 24 = 1 := by kernel_rfl
theorem cells_77 : Tryz.prog.cellsOf 77 = 5 := by kernel_rfl
theorem cells_75 : Tryz.prog.cellsOf 75 = 2 := by kernel_rfl
theorem cells_65 : Tryz.prog.cellsOf 65 = 3 := by kernel_rfl
theorem cells_26 : Tryz.prog.cellsOf 26 = 7 := by kernel_rfl
theorem wf64 {n : Int} (h : (Lit.int .i64 n).wf = true) : -9223372036854775808 ≤ n ∧ n ≤ 9223372036854775807 := by
  simpa [Lit.wf, IntKind.min, IntKind.max, IntKind.signed, IntKind.bits] using h
theorem wf8 {n : Int} (h : (Lit.int .u8 n).wf = true) : 0 ≤ n ∧ n ≤ 255 := by
  simpa [Lit.wf, IntKind.min, IntKind.max, IntKind.signed, IntKind.bits] using h
theorem lenOf {n : Nat} (h : n ≤ maxLen) : (n : Int) ≤ 9223372036854775807 := by
  have : maxLen = 9223372036854775807 := by kernel_rfl
  omega
abbrev Bd (n : Int) : Prop := -9223372036854775808 ≤ n ∧ n ≤ 9223372036854775807
theorem two' {α : Type} {l : List α} (h : l.length = 2) : ∃ a b, l = [a, b] := by
  match l, h with
  | [a, b], _ => exact ⟨a, b, rfl⟩
theorem three' {α : Type} {l : List α} (h : l.length = 3) : ∃ a b c, l = [a, b, c] := by
  match l, h with
  | [a, b, c], _ => exact ⟨a, b, c, rfl⟩
theorem five' {α : Type} {l : List α} (h : l.length = 5) : ∃ a b c d e, l = [a, b, c, d, e] := by
  match l, h with
  | [a, b, c, d, e], _ => exact ⟨a, b, c, d, e, rfl⟩
theorem seven' {α : Type} {l : List α} (h : l.length = 7) : ∃ a b c d e f g, l = [a, b, c, d, e, f, g] := by
  match l, h with
  | [a, b, c, d, e, f, g], _ => exact ⟨a, b, c, d, e, f, g, rfl⟩
theorem flatten_map {α : Type} (enc : α → List Value) (xs : List α) : (xs.map enc).flatten = xs.flatMap enc := rfl
section
variable {H : Type} {enc : TypeId × Value → H} {w : World} {base : Nat} {spare : Nat → Bool} {held : Bool}
theorem bools_reads {fuel : Nat} {cs : List Value} {x : DataW H × List MemPlace} (h : DataW.trod enc Tryz.prog w base spare held fuel 22 cs = some x) :
    ∃ (sl : Value) (l : List Bool), cs = [sl] ∧ RdS 1 boE w sl l ∧ l.length ≤ maxLen := by
  obtain ⟨ad, cap, ess, rfl, hm, hr, hes⟩ := slice_reads Tryz.underlying22 (by rw [cells_4]; decide) h
  obtain ⟨xs, rfl, hxs⟩ := exists_map (f := boE) (q := fun _ => True) ess (fun es h => by
    obtain ⟨m, y, hy⟩ := hes es h
    obtain ⟨b, rfl, _⟩ := DataW.trod_bool Tryz.underlying4 hy
    exact ⟨b, rfl, trivial⟩)
  rw [flatten_map, cells_4] at hr
  simp only [List.length_map] at hr hm
  exact ⟨_, xs, by simp, hr, hm⟩
theorem rng_reads {fuel : Nat} {cs : List Value} {x : DataW H × List MemPlace} (h : DataW.trod enc Tryz.prog w base spare held fuel 75 cs = some x) :
    ∃ a b : Int, cs = [vi a, vi b] ∧ Bd a ∧ Bd b := by
  obtain ⟨hl, hf⟩ := fields_list Tryz.underlying75 h
  rw [cells_75] at hl
  obtain ⟨c0, c1, rfl⟩ := two' hl
  obtain ⟨⟨_, _, f0⟩, ⟨_, _, f1⟩, _⟩ := hf
  rw [cells_3] at f0 f1
  obtain ⟨n0, e0, _, w0⟩ := DataW.trod_int Tryz.underlying3 f0
  obtain ⟨n1, e1, _, w1⟩ := DataW.trod_int Tryz.underlying3 f1
  simp at e0 e1
  subst e0; subst e1
  exact ⟨n0, n1, rfl, wf64 w0, wf64 w1⟩
theorem pas_reads {fuel : Nat} {cs : List Value} {x : DataW H × List MemPlace} (h : DataW.trod enc Tryz.prog w base spare held fuel 77 cs = some x) :
    ∃ p : Pas, cs = psE p := by
  obtain ⟨hl, hf⟩ := fields_list Tryz.underlying77 h
  rw [cells_77] at hl
  obtain ⟨c0, c1, c2, c3, c4, rfl⟩ := five' hl
  obtain ⟨⟨_, _, f0⟩, ⟨_, _, f1⟩, ⟨_, _, f2⟩, ⟨_, _, f3⟩, _⟩ := hf
  rw [cells_3] at f0 f1 f2
  rw [cells_75] at f3
  obtain ⟨n0, e0, _, w0⟩ := DataW.trod_int Tryz.underlying3 f0
  obtain ⟨n1, e1, _, w1⟩ := DataW.trod_int Tryz.underlying3 f1
  obtain ⟨n2, e2, _, w2⟩ := DataW.trod_int Tryz.underlying3 f2
  obtain ⟨a, b, e3, _, _⟩ := rng_reads f3
  simp at e0 e1 e2 e3
  obtain ⟨rfl, rfl⟩ := e3
  subst e0; subst e1; subst e2
  exact ⟨⟨n0, n1, n2, a, b⟩, rfl⟩
theorem sgt_reads {fuel : Nat} {cs : List Value} {x : DataW H × List MemPlace} (h : DataW.trod enc Tryz.prog w base spare held fuel 65 cs = some x) :
    ∃ g : Sgt, cs = sgE g := by
  obtain ⟨hl, hf⟩ := fields_list Tryz.underlying65 h
  rw [cells_65] at hl
  obtain ⟨c0, c1, c2, rfl⟩ := three' hl
  obtain ⟨⟨_, _, f0⟩, ⟨_, _, f1⟩, ⟨_, _, f2⟩, _⟩ := hf
  rw [cells_3] at f0 f1
  rw [cells_4] at f2
  obtain ⟨n0, e0, _, w0⟩ := DataW.trod_int Tryz.underlying3 f0
  obtain ⟨n1, e1, _, w1⟩ := DataW.trod_int Tryz.underlying3 f1
  obtain ⟨b, e2, _⟩ := DataW.trod_bool Tryz.underlying4 f2
  simp at e0 e1 e2
  subst e0; subst e1; subst e2
  exact ⟨⟨n0, n1, b⟩, rfl⟩
theorem pass_reads {fuel : Nat} {cs : List Value} {x : DataW H × List MemPlace} (h : DataW.trod enc Tryz.prog w base spare held fuel 23 cs = some x) :
    ∃ (sl : Value) (l : List Pas), cs = [sl] ∧ RdS 5 psE w sl l ∧ l.length ≤ maxLen := by
  obtain ⟨ad, cap, ess, rfl, hm, hr, hes⟩ := slice_reads Tryz.underlying23 (by rw [cells_77]; decide) h
  obtain ⟨xs, rfl, hxs⟩ := exists_map (f := psE) (q := fun _ => True) ess (fun es h => by
    obtain ⟨m, y, hy⟩ := hes es h
    obtain ⟨p, hp⟩ := pas_reads hy
    exact ⟨p, hp, trivial⟩)
  rw [flatten_map, cells_77] at hr
  simp only [List.length_map] at hr hm
  exact ⟨_, xs, by simp, hr, hm⟩
theorem sgts_reads {fuel : Nat} {cs : List Value} {x : DataW H × List MemPlace} (h : DataW.trod enc Tryz.prog w base spare held fuel 24 cs = some x) :
    ∃ (sl : Value) (l : List Sgt), cs = [sl] ∧ RdS 3 sgE w sl l ∧ l.length ≤ maxLen := by
  obtain ⟨ad, cap, ess, rfl, hm, hr, hes⟩ := slice_reads Tryz.underlying24 (by rw [cells_65]; decide) h
  obtain ⟨xs, rfl, hxs⟩ := exists_map (f := sgE) (q := fun _ => True) ess (fun es h => by
    obtain ⟨m, y, hy⟩ := hes es h
    obtain ⟨p, hp⟩ := sgt_reads hy
    exact ⟨p, hp, trivial⟩)
  rw [flatten_map, cells_65] at hr
  simp only [List.length_map] at hr hm
  exact ⟨_, xs, by simp, hr, hm⟩
theorem smp_reads {fuel : Nat} {cs : List Value} {x : DataW H × List MemPlace} (h : DataW.trod enc Tryz.prog w base spare held fuel 26 cs = some x) :
    ∃ (s : Smp) (tv pv gv : Value), cs = [vi s.B, vi s.P, vi s.L, vi s.F, tv, pv, gv] ∧ RdSm w s tv pv gv := by
  obtain ⟨hl, hf⟩ := fields_list Tryz.underlying26 h
  rw [cells_26] at hl
  obtain ⟨c0, c1, c2, c3, c4, c5, c6, rfl⟩ := seven' hl
  obtain ⟨⟨_, _, f0⟩, ⟨_, _, f1⟩, ⟨_, _, f2⟩, ⟨_, _, f3⟩, ⟨_, _, f4⟩, ⟨_, _, f5⟩, ⟨_, _, f6⟩, _⟩ := hf
  rw [cells_3] at f0 f1 f2 f3
  rw [cells_22] at f4
  rw [cells_23] at f5
  rw [cells_24] at f6
  obtain ⟨n0, e0, _, w0⟩ := DataW.trod_int Tryz.underlying3 f0
  obtain ⟨n1, e1, _, w1⟩ := DataW.trod_int Tryz.underlying3 f1
  obtain ⟨n2, e2, _, w2⟩ := DataW.trod_int Tryz.underlying3 f2
  obtain ⟨n3, e3, _, w3⟩ := DataW.trod_int Tryz.underlying3 f3
  obtain ⟨tv, st, e4, h4, _⟩ := bools_reads f4
  obtain ⟨pv, ps, e5, h5, _⟩ := pass_reads f5
  obtain ⟨gv, sg, e6, h6, _⟩ := sgts_reads f6
  simp at e0 e1 e2 e3 e4 e5 e6
  subst e0; subst e1; subst e2; subst e3; subst e4; subst e5; subst e6
  exact ⟨⟨n0, n1, n2, n3, st, ps, sg⟩, _, _, _, rfl, h4, h5, h6⟩
end
end Go.Sp
