
/-
  The reference of trials: all ways, walked.
-/
import Derived.Test.YtegojecjmaifdaaGreatM4
import Derived.Laws.AppendOwn
import Derived.Test.YtegojecjmaifdaaGreatRows
import Derived.ProofKit
import Derived.OpenShut
import Derived.Carry
import Derived.Deep.Fields
set_option linter.unusedVariables false
set_option linter.unusedSimpArgs false
set_option linter.deprecated false
namespace Go.Sp
open Go Go.Proofs
theorem errL_ok {t : Tr} (hv : VT t) {e : E3} (he : e ∈ everyL t) : errB t (errL t e) = true ∧ er3 (errL t e) = e := by
  have hin := every_in hv he
  have hp1 := hv.p1
  have hp3 := hv.p3
  constructor
  · unfold errB
    rw [errL_len, decide_eq_true rfl, Bool.true_and, List.all_eq_true]
    intro x hx
    unfold errL at hx
    obtain ⟨i, hi, rfl⟩ := List.mem_map.1 hx
    rw [List.mem_range] at hi
    refine decide_eq_true ?_
    rcases (by omega : i = 0 ∨ i = 1 ∨ i = 2) with rfl | rfl | rfl
    · exact hin.1
    · exact hin.2.1
    · exact hin.2.2.1
  · have hg : ∀ i : Nat, i < 3 → (errL t e).getD i 0 = get3 e i := fun i hi => by
      by_cases h : i < t.parts.length
      · exact errL_get h
      · rw [List.getD_eq_getElem?_getD, List.getElem?_eq_none (by rw [errL_len]; omega)]
        rcases (by omega : i = 1 ∨ i = 2) with rfl | rfl
        · exact (hin.2.2.2.1 (by omega)).symm
        · exact (hin.2.2.2.2 (by omega)).symm
    unfold er3
    rw [hg 0 (by omega), hg 1 (by omega), hg 2 (by omega)]; rfl
theorem canS_c (t : Tr) (hv : VT t) (l : List Int) (hl : errB t l = true) (q k d x : Int) (hk : 0 ≤ k ∧ k ≤ t.s.weights.length) (hd : 1 ≤ d ∧ d ≤ 2000) (hx : x = -1 ∨ (0 ≤ x ∧ x ≤ t.s.divisions)) (sl pl ll tl lv : Value) (w : World) (hr : RdTr w t sl pl ll tl) (hL : RdI w lv l) :
    CnV Tryz.prog 74 #[trV t sl pl ll tl, lv, vi k, vi d, vi x] w (.bool (rightF t (er3 l) (q, k, x) d)) := by
  unfold rightF
  dsimp only
  split
  · rename_i h
    subst h
    have h := canN_c t hv l hl k d hk hd sl pl ll tl lv w hr hL
    have e : noneB t (er3 l) k d = decide ((shownL t (er3 l) k d).getD 0 0 = -1) := by
      unfold noneB shownL
      by_cases h0 : (shownN t (er3 l) k d (t.s.divisions + 1).toNat).length = 0
      · rw [if_pos h0, decide_eq_true h0]; rfl
      · rw [if_neg h0, decide_eq_false h0]
        symm
        refine decide_eq_false fun g => ?_
        have hm : (shownN t (er3 l) k d (t.s.divisions + 1).toNat).getD 0 0 ∈ shownN t (er3 l) k d (t.s.divisions + 1).toNat := by rw [List.getD_eq_getElem?_getD, List.getElem?_eq_getElem (by omega)]; exact List.getElem_mem _
        rw [g] at hm
        unfold shownN at hm
        obtain ⟨a, _, ha⟩ := List.mem_map.1 hm
        omega
    rw [e] at h
    exact h
  · rename_i h
    exact can9_c t hv l hl k d x hk hd (hx.resolve_left h) sl pl ll tl lv w hr hL
theorem HG.fresh {bs : List (World × List Nat)} {H H' Hk : List (Nat × Obj)} {w : World} {b : Nat} {o : Obj} (hw : HG bs H w) (hd : HD b o H H') (hk : Hk.Sublist H') : b ∉ Hk.map Prod.fst := fun hm => by
  have hn := (hw.perm hd.perm).nodup
  rw [List.map_cons, List.nodup_cons] at hn
  exact hn.1 ((hk.map Prod.fst).subset hm)
theorem HG.owns {bs : List (World × List Nat)} {H Hk : List (Nat × Obj)} {w : World} (hw : HG bs H w) (hk : Hk.Sublist H) {w0 : World} {S : List Nat} (hb : (w0, S) ∈ bs) : ∀ x ∈ Hk.map Prod.fst, x ∈ S ∨ w0.heap.size ≤ x := fun x hx => by
  obtain ⟨p, hp, rfl⟩ := List.mem_map.1 hx
  exact hw.own p (hk.subset hp) (w0, S) hb
theorem OKI.mk {bs : List (World × List Nat)} {H Hk : List (Nat × Obj)} {w1 x2 : World} {S0 : List Nat} {v : Value} {l : List Int} (hw : HG bs H w1) (hk : Hk.Sublist H) (hb : (x2, S0) ∈ bs) (hs : sepS v S0) (hr : RdI x2 v l) (h0 : 0 < l.length) : OKI w1 (Hk.map Prod.fst) v l := by
  have hlt : ∀ p m c, v = .slice (some p) m c → p.block < x2.heap.size := fun p m c e => by
    obtain ⟨_, ad, cap, e0, hc⟩ := hr
    obtain ⟨q, o, e2, hca⟩ := hc (by omega)
    rw [e0] at e
    injection e with e1
    rw [e2] at e1
    cases e1
    have := hca.get 0 (vi (l.getD 0 0)) (by rw [List.getElem?_map, List.getElem?_eq_getElem h0, List.getD_eq_getElem?_getD, List.getElem?_eq_getElem h0]; rfl)
    rcases Nat.lt_or_ge q x2.heap.size with g | g
    · exact g
    · unfold World.cell? at this
      rw [show x2.heap[(⟨q, o + 0, none⟩ : Addr).block]? = none from Array.getElem?_eq_none g] at this
      cases this
  refine ⟨Reads.frS hr (hw.fr hb) hs, fun p m c e => ⟨Nat.lt_of_lt_of_le (hlt p m c e) (hw.fr hb).size, fun hm => ?_⟩⟩
  rcases hw.owns hk hb _ hm with g | g
  · exact hs p m c e g
  · have := hlt p m c e; omega
theorem OKI.new {bs : List (World × List Nat)} {H H' Hk : List (Nat × Obj)} {w1 : World} {b n cap : Nat} {o : Obj} {l : List Int} (hw : HG bs H w1) (hd : HD b o H H') (hk : Hk.Sublist H') (hr : RdI w1 (.slice (some ⟨b, 0, none⟩) n cap) l) : OKI w1 (Hk.map Prod.fst) (.slice (some ⟨b, 0, none⟩) n cap) l :=
  ⟨hr, fun p m c e => by cases e; exact ⟨hw.lt hd.mem, hw.fresh hd hk⟩⟩
theorem OKL.new {bs : List (World × List Nat)} {H H' Hk : List (Nat × Obj)} {w1 : World} {b cap : Nat} {us junk : List Value} {e : TypeId} {f : Nat × Nat} {ls : List (List Int)} (hw : HG bs H w1) (hd : HD b (.cells (us ++ junk).toArray e f) H H') (hk : Hk.Sublist H') (hu : OKV w1 (Hk.map Prod.fst) us ls) : OKL w1 (Hk.map Prod.fst) (.slice (some ⟨b, 0, none⟩) ls.length cap) ls := by
  refine ⟨us, ⟨⟨by rw [hu.1, Nat.mul_one], some ⟨b, 0, none⟩, cap, rfl, fun _ => ⟨b, 0, rfl, ?_⟩⟩, fun p m c e => by cases e; exact ⟨hw.lt hd.mem, hw.fresh hd hk⟩⟩, hu⟩
  have := CA_pre us junk e f
  rw [hu.1] at this
  rw [Nat.mul_one]
  exact this.cells (hw.heap _ hd.mem)
theorem HG.mv3 {bs : List (World × List Nat)} {H : List (Nat × Obj)} {w : World} {z a b : Nat × Obj} (h : HG bs (z :: a :: b :: H) w) : HG bs (a :: b :: z :: H) w := h.perm ((List.Perm.swap a z (b :: H)).trans (List.Perm.cons a (List.Perm.swap b z H)))
theorem HG.mv2 {bs : List (World × List Nat)} {H : List (Nat × Obj)} {w : World} {z a : Nat × Obj} (h : HG bs (z :: a :: H) w) : HG bs (a :: z :: H) w := h.perm (List.Perm.swap a z H)
theorem Reads.own2 {bs : List (World × List Nat)} {H : List (Nat × Obj)} {w : World} {b : Nat} {v u : Value} {e : TypeId} {f : Nat × Nat} {cap : Nat} (hw : HG bs H w) (hm : HM b (.cells #[v, u] e f) H) : Reads w (.slice (some ⟨b, 0, none⟩) 1 cap) 2 1 [v, u] :=
  ⟨rfl, _, _, rfl, fun _ => ⟨b, 0, rfl, .cons (cellAt_cell? (hw.heap _ hm.mem) rfl) (.cons (cellAt_cell? (hw.heap _ hm.mem) rfl) .nil)⟩⟩
theorem wrong_yes {t : Tr} {e : E3} {l i : Nat} {d : Int} (h1 : (t.tests.getD i (0, 0, 0)).1 = l) (h2 : rightF t e (t.tests.getD i (0, 0, 0)) d = false) : wrongB t e l d i = true := by
  unfold wrongB
  rw [decide_eq_true h1, h2]; rfl
theorem wrong_no1 {t : Tr} {e : E3} {l i : Nat} {d : Int} (h1 : ¬ (t.tests.getD i (0, 0, 0)).1 = l) : wrongB t e l d i = false := by
  unfold wrongB
  rw [decide_eq_false h1]; rfl
theorem wrong_no2 {t : Tr} {e : E3} {l i : Nat} {d : Int} (h2 : rightF t e (t.tests.getD i (0, 0, 0)) d = true) : wrongB t e l d i = false := by
  unfold wrongB
  rw [h2]; exact Bool.and_false _
theorem bitsW_yes {p : Nat → Bool} {n : Nat} (h : p n = true) : bitsW p (n + 1) = bitsW p n ||| 2 ^ n := if_pos h
theorem bitsW_no {p : Nat → Bool} {n : Nat} (h : p n = false) : bitsW p (n + 1) = bitsW p n := if_neg (by rw [h]; exact Bool.false_ne_true)
abbrev wyT : TypeId := 174
abbrev bO (t : Tr) (sl pl ll tl : Value) : Obj := .cells #[vi t.s.mass, vi t.s.volume, vi t.s.step, vi t.s.divisions, vi t.s.width, sl, pl, vi t.worst, ll, tl] 28 (0, 0)
set_option maxHeartbeats 4000000 in
theorem ways_c (t : Tr) (hv : VT t) (h14 : ∀ i : Nat, i < t.liquids.length → (lqAt t i).2 - (lqAt t i).1 ≤ 14) (sl pl ll tl : Value) (w : World) (hr : RdTr w t sl pl ll tl) :
    CnX Tryz.prog 81 #[trV t sl pl ll tl] w [] (slV (everyL t).length) (fun y w' => RdWs w' (slV (everyL t).length y) (waysN t (everyL t).length)) := by
  have hr0 := hr
  have hp1 := hv.p1
  have hp3 := hv.p3
  have hl1 := hv.l1
  have hl3 := hv.l3
  have ht6 := hv.t6
  have hel := every_len hv
  obtain ⟨aw, cw, _, _, rfl, _, _⟩ := hr.ws.open
  obtain ⟨ap, cp, _, _, rfl, _, _⟩ := hr.ps.open
  obtain ⟨aL, cL, bL, oL, rfl, hadL, hcL⟩ := hr.ls.open
  obtain ⟨at', ct, bT, oT, rfl, hadT, hcT⟩ := hr.ts.open
  have hadL' := hadL (by omega)
  refine cnx0 (vs := [_]) Tryz.func81 rfl rfl ?_
  all_goals refine tc_seq fun K1 hK1 => ?_; refine tc_region ?_; refine tl_e (e_box rfl rfl rfl) rfl (fun b1 _ => ?_); refine tl_q (y_assign rfl) rfl ?_; refine tl_nil ?_; ((refine hK1 ?_; try (clear hK1; clear K1)))
  all_goals refine tc_seq fun K2 hK2 => ?_; refine tc_region ?_; refine tl_q (y_assign rfl) rfl ?_; refine tl_nil ?_; ((refine hK2 ?_; try (clear hK2; clear K2)))
  all_goals refine tc_seq fun K3 hK3 => ?_; refine tc_seq fun K4 hK4 => ?_; refine tc_region ?_; refine tl_q (y_assign rfl) rfl ?_; refine tl_nil ?_; ((refine hK4 ?_; try (clear hK4; clear K4)))
  all_goals refine tc_block ?_
  all_goals (
   refine tc_loop (fun p : Nat × Option (Nat × Nat × List Value) × List (Value × Value) × (World × List Nat) => p.1 ≤ (everyL t).length ∧ outOkR (p.1, p.2.1) ∧ InW p.2.2.2.1 p.2.2.2.2 p.2.2.1 (waysN t p.1)) (fun p => [(1, ptr b1), (3, outV' (p.1, p.2.1)), (4, vi p.1)]) (fun p => [(p.2.2.2.1, p.2.2.2.2), (w, [])]) (fun p => (b1, bO t (.slice aw t.s.weights.length cw) (.slice ap t.parts.length cp) (.slice aL t.liquids.length cL) (.slice at' t.tests.length ct)) :: slH wyT (flatW p.2.2.1) p.2.1) (fun p => (everyL t).length - p.1) ?_ ?_
   · refine tk_lay [(b1, bO t (.slice aw t.s.weights.length cw) (.slice ap t.parts.length cp) (.slice aL t.liquids.length cL) (.slice at' t.tests.length ct))] SB.s (fun w0 h0 => ?_)
     exact tk_start (0, none, [], (w0, [b1])) ⟨Nat.zero_le _, rfl, InW.nil⟩ (.cons rfl (.cons rfl (.cons rfl .nil))) (fun _ h => h.subl SB.s SB.s)
   · rintro ⟨n, oo, us, ⟨wl, S⟩⟩ ⟨hn, hok, hin⟩
     dsimp only at hn hok hin ⊢
     all_goals refine tc_seq fun K5 hK5 => ?_; refine tc_seq fun K6 hK6 => ?_; refine tc_region ?_; refine tl_q (y_move rfl) rfl ?_; refine tl_q (y_loadW rfl (by repeat constructor) (by rfl)) rfl ?_; refine tl_e (e_callV rfl (.cons rfl .nil) (fun w' hw' => many_c t hv _ _ _ _ w' (hr0.fr (hw'.fr (w0 := w) (S := []) MI.m)))) rfl (fun _ _ => ?_); refine tl_q (y_lss rfl rfl) rfl ?_; refine tl_nil ?_; ((refine hK6 ?_; try (clear hK6; clear K6)))
     all_goals (
      refine tc_cond rfl (fun hc => ?_) (fun hc => ?_)
      · try simp only [qn1, qn2, qn3, qn4, qn5, qn6, qn7, qn8] at hc
        all_goals refine tc_skip ?_; ((refine hK5 ?_; try (clear hK5; clear K5)))
        all_goals refine tc_seq fun K7 hK7 => ?_; refine tc_block ?_; refine tc_seq fun K8 hK8 => ?_; (obtain ⟨e, he⟩ : ∃ e, e = (everyL t).getD n (0, 0, 0) := ⟨_, rfl⟩)
        all_goals ((have hem : e ∈ everyL t := by rw [he]; exact getD_memE (by omega)))
        all_goals (obtain ⟨hee, her⟩ := errL_ok hv hem)
        all_goals refine tc_region ?_; refine tl_q (y_loadW rfl (by repeat constructor) (by rfl)) rfl ?_; refine tl_q (y_move rfl) rfl ?_; (refine tl_e (e_callX rfl (.cons rfl (.cons rfl .nil)) (fun w' hw' => by have h := (nth_c t hv n (by omega) _ _ _ _ w' (hr0.fr (hw'.fr (w0 := w) (S := []) MI.m))).sepN (w0 := w) hw' MI.m; rw [← he] at h; exact h)) rfl (fun x5 hx5 => ?_))
        all_goals (refine tl_q (y_build_g (by repeat constructor)) rfl ?_); refine tl_e (e_allocN rfl) rfl (fun b5 _ => ?_); ((refine tl_e (e_storeW (cs := #[slV t.parts.length x5.1, .slice none 0 0]) rfl rfl (by repeat constructor) (by rfl) (by rfl) (by intro v hv; simp at hv; rcases hv with rfl | rfl <;> rfl)) rfl (fun _ _ => ?_)))
        all_goals refine tl_nil ?_; ((refine hK8 ?_; try (clear hK8; clear K8)))
        all_goals refine tc_seq fun K9 hK9 => ?_; refine tc_seq fun K10 hK10 => ?_; refine tc_region ?_; refine tl_q (y_assign rfl) rfl ?_; refine tl_nil ?_; ((refine hK10 ?_; try (clear hK10; clear K10)))
        all_goals refine tc_block ?_
        all_goals (
         refine tc_loop (fun p : Nat × Option (Nat × Nat × List Value) × List Value × (World × List Nat) => p.1 ≤ t.liquids.length ∧ outOk (p.1, p.2.1) ∧ OKV p.2.2.2.1 p.2.2.2.2 p.2.2.1 (wrongsN t e p.1) ∧ OKI p.2.2.2.1 p.2.2.2.2 (slV t.parts.length x5.1) (errL t e) ∧ InW p.2.2.2.1 p.2.2.2.2 us (waysN t n)) (fun p => [(1, ptr b1), (3, outV' (n, oo)), (4, vi n), (5, ptr b5), (6, vi p.1)]) (fun p => [(p.2.2.2.1, p.2.2.2.2), (w, [])]) (fun p => (b5, .cells #[slV t.parts.length x5.1, outV' (p.1, p.2.1)] wyT (0, 0)) :: (b1, bO t (.slice aw t.s.weights.length cw) (.slice ap t.parts.length cp) (.slice aL t.liquids.length cL) (.slice at' t.tests.length ct)) :: (slH 22 p.2.2.1 p.2.1 ++ slH wyT (flatW us) oo)) (fun p => t.liquids.length - p.1) ?_ ?_
         · refine tk_lay ((b5, .cells #[slV t.parts.length x5.1, .slice none 0 0] wyT (0, 0)) :: (b1, bO t (.slice aw t.s.weights.length cw) (.slice ap t.parts.length cp) (.slice aL t.liquids.length cL) (.slice at' t.tests.length ct)) :: slH wyT (flatW us) oo) SB.s (fun w1 h1 => ?_)
           exact tk_start (0, none, [], (w1, List.map Prod.fst ((b5, .cells #[slV t.parts.length x5.1, .slice none 0 0] wyT (0, 0)) :: (b1, bO t (.slice aw t.s.weights.length cw) (.slice ap t.parts.length cp) (.slice aL t.liquids.length cL) (.slice at' t.tests.length ct)) :: slH wyT (flatW us) oo))) ⟨Nat.zero_le _, rfl, OKV.nil, OKI.mk (Hk := (b5, .cells #[slV t.parts.length x5.1, .slice none 0 0] wyT (0, 0)) :: (b1, bO t (.slice aw t.s.weights.length cw) (.slice ap t.parts.length cp) (.slice aL t.liquids.length cL) (.slice at' t.tests.length ct)) :: slH wyT (flatW us) oo) h1 SB.s MI.m hx5.1.2 hx5.1.1.1 (by rw [errL_len]; omega), hin.step (h1.fr (w0 := wl) (S := S) MI.m) (h1.owns (Hk := (b5, .cells #[slV t.parts.length x5.1, .slice none 0 0] wyT (0, 0)) :: (b1, bO t (.slice aw t.s.weights.length cw) (.slice ap t.parts.length cp) (.slice aL t.liquids.length cL) (.slice at' t.tests.length ct)) :: slH wyT (flatW us) oo) SB.s MI.m)⟩ (.cons rfl (.cons rfl (.cons rfl (.cons rfl (.cons rfl .nil))))) (fun _ h => h.subl SB.s SB.s)
         · rintro ⟨l, ow, vs, ⟨w1, S1⟩⟩ ⟨hl, how, hov, hoe, hoi⟩
           dsimp only at hl how hov hoe hoi ⊢
           all_goals refine tc_seq fun K11 hK11 => ?_; refine tc_seq fun K12 hK12 => ?_; refine tc_region ?_; refine tl_q (y_move rfl) rfl ?_; refine tl_q (y_field rfl) rfl ?_; refine tl_q (y_load1 rfl (by repeat constructor) (by rfl)) rfl ?_; refine tl_q (y_len rfl) rfl ?_; refine tl_q (y_lss rfl rfl) rfl ?_; refine tl_nil ?_; ((refine hK12 ?_; try (clear hK12; clear K12)))
           all_goals (
            refine tc_cond rfl (fun hc => ?_) (fun hc => ?_)
            · try simp only [qn1, qn2, qn3, qn4, qn5, qn6, qn7, qn8] at hc
              all_goals refine tc_skip ?_; ((refine hK11 ?_; try (clear hK11; clear K11)))
              all_goals refine tc_seq fun K13 hK13 => ?_; refine tc_block ?_; refine tc_seq fun K14 hK14 => ?_; ((have hlq := hv.lqb (show l < t.liquids.length by omega); have hlw := h14 l (by omega)))
              all_goals refine tc_region ?_; refine tl_q (y_assign rfl) rfl ?_; refine tl_nil ?_; ((refine hK14 ?_; try (clear hK14; clear K14)))
              all_goals refine tc_seq fun K15 hK15 => ?_; refine tc_seq fun K16 hK16 => ?_; refine tc_region ?_; refine tl_q (y_field rfl) rfl ?_; refine tl_q (y_load1 rfl (by repeat constructor) (by rfl)) rfl ?_; refine tl_q (y_move rfl) rfl ?_; refine tl_q (y_index rfl rfl (by omega) hadL') rfl ?_; refine tl_q (y_field rfl) rfl ?_; ((refine tl_q (y_load1o (v := vi (lqAt t l).1) rfl (fun w' hw' => by rw [show Int.toNat (l : Int) * 2 = l * 2 from by omega]; exact (hcL w' [] (hw'.fr (w0 := w) (S := []) MI.m) (by simp) l (by omega)).get 0 _ rfl)) rfl ?_))
              all_goals refine tl_q (y_assign rfl) rfl ?_; refine tl_nil ?_; ((refine hK16 ?_; try (clear hK16; clear K16)))
              all_goals refine tc_block ?_
              all_goals (
               refine tc_loop (fun q : Nat × Option (Nat × Nat × List Value) => q.1 ≤ lqC t l ∧ outOk (q.1, q.2)) (fun q => [(1, ptr b1), (3, outV' (n, oo)), (4, vi n), (5, ptr b5), (6, vi l), (7, outV' (q.1, q.2)), (8, vi ((lqAt t l).1 + q.1))]) (fun q => [(w1, S1), (w, [])]) (fun q => (b5, .cells #[slV t.parts.length x5.1, outV' (l, ow)] wyT (0, 0)) :: (b1, bO t (.slice aw t.s.weights.length cw) (.slice ap t.parts.length cp) (.slice aL t.liquids.length cL) (.slice at' t.tests.length ct)) :: (slH 3 ((wrongN t e l q.1).map vi) q.2 ++ (slH 22 vs ow ++ slH wyT (flatW us) oo))) (fun q => lqC t l - q.1) ?_ ?_
               · exact tk_start (0, none) ⟨Nat.zero_le _, rfl⟩ (.cons rfl (.cons rfl (.cons rfl (.cons rfl (.cons rfl (.cons rfl (.cons (by show some (vi _) = some (vi _); congr 2; dsimp only; omega) .nil))))))) (fun _ h => h.subl SB.s SB.s)
               · rintro ⟨k, od⟩ ⟨hk, hod⟩
                 have hkb : lqC t l = ((lqAt t l).2 - (lqAt t l).1 + 1).toNat := rfl
                 dsimp only at hk hod ⊢
                 all_goals refine tc_seq fun K17 hK17 => ?_; refine tc_seq fun K18 hK18 => ?_; refine tc_region ?_; refine tl_q (y_move rfl) rfl ?_; refine tl_q (y_field rfl) rfl ?_; refine tl_q (y_load1 rfl (by repeat constructor) (by rfl)) rfl ?_; refine tl_q (y_move rfl) rfl ?_; refine tl_q (y_index rfl rfl (by omega) hadL') rfl ?_; refine tl_q (y_field rfl) rfl ?_; ((refine tl_q (y_load1o (v := vi (lqAt t l).2) rfl (fun w' hw' => by rw [show Int.toNat (l : Int) * 2 = l * 2 from by omega]; exact (hcL w' [] (hw'.fr (w0 := w) (S := []) MI.m) (by simp) l (by omega)).get 1 _ rfl)) rfl ?_))
                 all_goals (refine tl_q (y_leq rfl rfl) rfl ?_); refine tl_nil ?_; ((refine hK18 ?_; try (clear hK18; clear K18)))
                 all_goals (
                  refine tc_cond rfl (fun hc => ?_) (fun hc => ?_)
                  · try simp only [qn1, qn2, qn3, qn4, qn5, qn6, qn7, qn8] at hc
                    all_goals refine tc_skip ?_; ((refine hK17 ?_; try (clear hK17; clear K17)))
                    all_goals refine tc_seq fun K19 hK19 => ?_; refine tc_block ?_; refine tc_seq fun K20 hK20 => ?_; refine tc_region ?_; refine tl_q (y_assign rfl) rfl ?_; refine tl_nil ?_; ((refine hK20 ?_; try (clear hK20; clear K20)))
                    all_goals refine tc_seq fun K21 hK21 => ?_; refine tc_seq fun K22 hK22 => ?_; refine tc_region ?_; refine tl_q (y_assign rfl) rfl ?_; refine tl_nil ?_; ((refine hK22 ?_; try (clear hK22; clear K22)))
                    all_goals refine tc_block ?_
                    all_goals (
                     refine tc_loop (fun i : Nat => i ≤ t.tests.length) (fun i => [(1, ptr b1), (3, outV' (n, oo)), (4, vi n), (5, ptr b5), (6, vi l), (7, outV' (k, od)), (8, vi ((lqAt t l).1 + k)), (9, vi ((bitsW (wrongB t e l ((lqAt t l).1 + k)) i : Nat) : Int)), (10, vi i)]) (fun _ => [(w1, S1), (w, [])]) (fun _ => (b5, .cells #[slV t.parts.length x5.1, outV' (l, ow)] wyT (0, 0)) :: (b1, bO t (.slice aw t.s.weights.length cw) (.slice ap t.parts.length cp) (.slice aL t.liquids.length cL) (.slice at' t.tests.length ct)) :: (slH 3 ((wrongN t e l k).map vi) od ++ (slH 22 vs ow ++ slH wyT (flatW us) oo))) (fun i => t.tests.length - i) ?_ ?_
                     · exact tk_start 0 (Nat.zero_le _) (.cons rfl (.cons rfl (.cons rfl (.cons rfl (.cons rfl (.cons rfl (.cons rfl (.cons rfl (.cons rfl .nil))))))))) (fun _ h => h.subl SB.s SB.s)
                     · rintro i hi
                       all_goals refine tc_seq fun K23 hK23 => ?_; refine tc_seq fun K24 hK24 => ?_; refine tc_region ?_; refine tl_q (y_move rfl) rfl ?_; refine tl_q (y_field rfl) rfl ?_; refine tl_q (y_load1 rfl (by repeat constructor) (by rfl)) rfl ?_; refine tl_q (y_len rfl) rfl ?_; refine tl_q (y_lss rfl rfl) rfl ?_; refine tl_nil ?_; ((refine hK24 ?_; try (clear hK24; clear K24)))
                       all_goals (
                        refine tc_cond rfl (fun hc => ?_) (fun hc => ?_)
                        · try simp only [qn1, qn2, qn3, qn4, qn5, qn6, qn7, qn8] at hc
                          all_goals refine tc_skip ?_; ((refine hK23 ?_; try (clear hK23; clear K23)))
                          all_goals refine tc_seq fun K25 hK25 => ?_; refine tc_block ?_; refine tc_seq fun K26 hK26 => ?_; ((have hadT' := hadT (by omega); have hx2 := of_decide_eq_true (List.all_eq_true.1 hv.ts _ (getD_memE (show i < t.tests.length by omega)))))
                          all_goals refine tc_draw (by kernel_rfl) ?_; refine tx_p 0 rfl (by kernel_rfl) (y_field rfl) rfl (fun _ _ _ h => h) (fun _ h => h) ?_; refine tx_q 1 rfl (by kernel_rfl) (y_load1 rfl (by repeat constructor) (by rfl)) rfl (fun _ _ _ h => h) (fun _ h => h) ?_; refine tx_p 2 rfl (by kernel_rfl) (y_move rfl) rfl (fun _ _ _ h => h) (fun _ h => h) ?_; refine tx_p 3 rfl (by kernel_rfl) (y_index rfl rfl (by omega) hadT') rfl (fun _ _ _ h => h) (fun _ h => h) ?_; refine tx_p 4 rfl (by kernel_rfl) (y_field rfl) rfl (fun _ _ _ h => h) (fun _ h => h) ?_; ((refine tx_q 5 rfl (by kernel_rfl) (y_load1o (v := vi (t.tests.getD i (0, 0, 0)).1) rfl (fun w' hw' => by rw [show Int.toNat (i : Int) * 3 = i * 3 from by omega]; exact (hcT w' [] (hw'.fr (w0 := w) (S := []) MI.m) (by simp) i (by omega)).get 0 _ rfl)) rfl (fun _ _ _ h => h) (fun _ h => h) ?_))
                          all_goals refine tx_p 6 rfl (by kernel_rfl) (y_move rfl) rfl (fun _ _ _ h => h) (fun _ h => h) ?_; refine tx_p 7 rfl (by kernel_rfl) (y_eql rfl rfl) rfl (fun _ _ _ h => h) (fun _ h => h) ?_; refine tx_p 8 rfl (by kernel_rfl) (y_move rfl) rfl (fun _ _ _ h => h) (fun _ h => h) ?_; ((refine tx_gs 59 rfl (fun hc => ?_) (fun hc => ?_) <;> (try simp only [qn1, qn2, qn3, qn4, qn5, qn6, qn7, qn8] at hc) <;> (first | refine tx_sk 9 rfl (by kernel_rfl) rfl rfl rfl rfl (fun _ _ _ h => h) (fun _ h => h) ?_ | refine tx_qg 9 rfl (by kernel_rfl) rfl rfl (y_loadW rfl (by repeat constructor) (by rfl)) rfl (fun _ _ _ h => h) (fun _ h => h) ?_)))
                          all_goals (first | refine tx_sk 10 rfl (by kernel_rfl) rfl rfl rfl rfl (fun _ _ _ h => h) (fun _ h => h) ?_ | refine tx_pg 10 rfl (by kernel_rfl) rfl rfl (y_field rfl) rfl (fun _ _ _ h => h) (fun _ h => h) ?_); (first | refine tx_sk 11 rfl (by kernel_rfl) rfl rfl rfl rfl (fun _ _ _ h => h) (fun _ h => h) ?_ | refine tx_qg 11 rfl (by kernel_rfl) rfl rfl (y_load1 rfl (by repeat constructor) (by rfl)) rfl (fun _ _ _ h => h) (fun _ h => h) ?_); (first | refine tx_sk 12 rfl (by kernel_rfl) rfl rfl rfl rfl (fun _ _ _ h => h) (fun _ h => h) ?_ | refine tx_pg 12 rfl (by kernel_rfl) rfl rfl (y_field rfl) rfl (fun _ _ _ h => h) (fun _ h => h) ?_); (first | refine tx_sk 13 rfl (by kernel_rfl) rfl rfl rfl rfl (fun _ _ _ h => h) (fun _ h => h) ?_ | refine tx_qg 13 rfl (by kernel_rfl) rfl rfl (y_load1 rfl (by repeat constructor) (by rfl)) rfl (fun _ _ _ h => h) (fun _ h => h) ?_); (first | refine tx_sk 14 rfl (by kernel_rfl) rfl rfl rfl rfl (fun _ _ _ h => h) (fun _ h => h) ?_ | refine tx_pg 14 rfl (by kernel_rfl) rfl rfl (y_move rfl) rfl (fun _ _ _ h => h) (fun _ h => h) ?_); (first | refine tx_sk 15 rfl (by kernel_rfl) rfl rfl rfl rfl (fun _ _ _ h => h) (fun _ h => h) ?_ | refine tx_pg 15 rfl (by kernel_rfl) rfl rfl (y_index rfl rfl (by omega) hadT') rfl (fun _ _ _ h => h) (fun _ h => h) ?_); (first | refine tx_sk 16 rfl (by kernel_rfl) rfl rfl rfl rfl (fun _ _ _ h => h) (fun _ h => h) ?_ | refine tx_pg 16 rfl (by kernel_rfl) rfl rfl (y_field rfl) rfl (fun _ _ _ h => h) (fun _ h => h) ?_); ((first | refine tx_sk 17 rfl (by kernel_rfl) rfl rfl rfl rfl (fun _ _ _ h => h) (fun _ h => h) ?_ | refine tx_qg 17 rfl (by kernel_rfl) rfl rfl (y_load1o (v := vi (t.tests.getD i (0, 0, 0)).2.1) rfl (fun w' hw' => by rw [show Int.toNat (i : Int) * 3 = i * 3 from by omega]; exact (hcT w' [] (hw'.fr (w0 := w) (S := []) MI.m) (by simp) i (by omega)).get 1 _ rfl)) rfl (fun _ _ _ h => h) (fun _ h => h) ?_))
                          all_goals (first | refine tx_sk 18 rfl (by kernel_rfl) rfl rfl rfl rfl (fun _ _ _ h => h) (fun _ h => h) ?_ | refine tx_pg 18 rfl (by kernel_rfl) rfl rfl (y_move rfl) rfl (fun _ _ _ h => h) (fun _ h => h) ?_); (first | refine tx_sk 19 rfl (by kernel_rfl) rfl rfl rfl rfl (fun _ _ _ h => h) (fun _ h => h) ?_ | refine tx_pg 19 rfl (by kernel_rfl) rfl rfl (y_field rfl) rfl (fun _ _ _ h => h) (fun _ h => h) ?_); (first | refine tx_sk 20 rfl (by kernel_rfl) rfl rfl rfl rfl (fun _ _ _ h => h) (fun _ h => h) ?_ | refine tx_qg 20 rfl (by kernel_rfl) rfl rfl (y_load1 rfl (by repeat constructor) (by rfl)) rfl (fun _ _ _ h => h) (fun _ h => h) ?_); (first | refine tx_sk 21 rfl (by kernel_rfl) rfl rfl rfl rfl (fun _ _ _ h => h) (fun _ h => h) ?_ | refine tx_pg 21 rfl (by kernel_rfl) rfl rfl (y_move rfl) rfl (fun _ _ _ h => h) (fun _ h => h) ?_); (first | refine tx_sk 22 rfl (by kernel_rfl) rfl rfl rfl rfl (fun _ _ _ h => h) (fun _ h => h) ?_ | refine tx_pg 22 rfl (by kernel_rfl) rfl rfl (y_index rfl rfl (by omega) hadT') rfl (fun _ _ _ h => h) (fun _ h => h) ?_); (first | refine tx_sk 23 rfl (by kernel_rfl) rfl rfl rfl rfl (fun _ _ _ h => h) (fun _ h => h) ?_ | refine tx_pg 23 rfl (by kernel_rfl) rfl rfl (y_field rfl) rfl (fun _ _ _ h => h) (fun _ h => h) ?_); ((first | refine tx_sk 24 rfl (by kernel_rfl) rfl rfl rfl rfl (fun _ _ _ h => h) (fun _ h => h) ?_ | refine tx_qg 24 rfl (by kernel_rfl) rfl rfl (y_load1o (v := vi (t.tests.getD i (0, 0, 0)).2.2) rfl (fun w' hw' => by rw [show Int.toNat (i : Int) * 3 = i * 3 from by omega]; exact (hcT w' [] (hw'.fr (w0 := w) (S := []) MI.m) (by simp) i (by omega)).get 2 _ rfl)) rfl (fun _ _ _ h => h) (fun _ h => h) ?_))
                          all_goals ((first | refine tx_sk 25 rfl (by kernel_rfl) rfl rfl rfl rfl (fun _ _ _ h => h) (fun _ h => h) ?_ | refine tx_eg 25 rfl (by kernel_rfl) rfl rfl rfl (e_callV rfl (.cons rfl (.cons rfl (.cons rfl (.cons rfl (.cons rfl .nil))))) (fun w' hw' => by have h := canS_c t hv (errL t e) hee (t.tests.getD i (0, 0, 0)).1 (t.tests.getD i (0, 0, 0)).2.1 ((lqAt t l).1 + k) (t.tests.getD i (0, 0, 0)).2.2 hx2.2.1 ⟨by omega, by omega⟩ hx2.2.2 _ _ _ _ _ w' (hr0.fr (hw'.fr (w0 := w) (S := []) MI.m)) (Reads.frS hoe.1 (hw'.fr (w0 := w1) (S := S1) MI.m) (fun p m c e => (hoe.2 p m c e).2)); rw [her] at h; exact h)) (.inr fun _ _ h => h) (fun _ _ => ?_)))
                          all_goals (first | refine tx_sk 26 rfl (by kernel_rfl) rfl rfl rfl rfl (fun _ _ _ h => h) (fun _ h => h) ?_ | refine tx_pg 26 rfl (by kernel_rfl) rfl rfl (y_not rfl) rfl (fun _ _ _ h => h) (fun _ h => h) ?_); (first | refine tx_p 27 rfl (by kernel_rfl) (y_pick_t rfl rfl) rfl (fun _ _ _ h => h) (fun _ h => h) ?_ | refine tx_p 27 rfl (by kernel_rfl) (y_pick_f rfl rfl) rfl (fun _ _ _ h => h) (fun _ h => h) ?_); refine tx_done (by kernel_rfl) ?_; ((refine hK26 ?_; try (clear hK26; clear K26)))
                          all_goals (
                           refine tc_cond rfl (fun hc => ?_) (fun hc => ?_)
                           · try simp only [qn1, qn2, qn3, qn4, qn5, qn6, qn7, qn8] at hc
                             all_goals ((first | (exfalso; with_reducible exact bft hc) | skip))
                             all_goals ((have hset : bitsW (wrongB t e l ((lqAt t l).1 + k)) i < 2 ^ 62 := Nat.lt_of_lt_of_le (bitsW_lt _ i) (Nat.pow_le_pow_right (by omega) (by omega)); have hpow : 2 ^ (i : Int).toNat < 2 ^ 62 := Nat.pow_lt_pow_right (by omega) (by omega)))
                             all_goals refine tc_region ?_; refine tl_q (y_move rfl) rfl ?_; refine tl_q (y_move rfl) rfl ?_; ((refine tl_q (y_conv rfl (by simp only [IntKind.wrap, IntKind.bits, IntKind.signed, Bool.false_and, Bool.true_and, Bool.false_eq_true, if_false, decide_eq_true_eq]; omega)) rfl ?_))
                             all_goals (refine tl_q (y_shl1 rfl rfl (by omega)) rfl ?_); refine tl_q (y_orn rfl rfl hset hpow) rfl ?_; refine tl_q (y_assign rfl) rfl ?_; refine tl_nil ?_; ((refine hK25 ?_; try (clear hK25; clear K25)))
                             all_goals refine tc_region ?_; refine tl_q (y_move rfl) rfl ?_; refine tl_q (y_add rfl rfl (by omega)) rfl ?_; refine tl_q (y_assign rfl) rfl ?_; refine tl_nil ?_
                             all_goals (
                              first
                              | (have hsu := bitsW_yes (wrong_yes (by assumption) (by assumption : rightF t e (t.tests.getD i (0, 0, 0)) ((lqAt t l).1 + k) = false))
                                 exact tk_round (i + 1) (by omega) (by omega) (.cons rfl (.cons rfl (.cons rfl (.cons rfl (.cons rfl (.cons rfl (.cons rfl (.cons (by rw [hsu]; rfl) (.cons rfl .nil))))))))) (fun _ h => h.subl SB.s SB.s))
                              | (have hsu := bitsW_no (wrong_no2 (l := l) (by assumption : rightF t e (t.tests.getD i (0, 0, 0)) ((lqAt t l).1 + k) = true))
                                 exact tk_round (i + 1) (by omega) (by omega) (.cons rfl (.cons rfl (.cons rfl (.cons rfl (.cons rfl (.cons rfl (.cons rfl (.cons (by rw [hsu]; rfl) (.cons rfl .nil))))))))) (fun _ h => h.subl SB.s SB.s))
                              | (have hsu := bitsW_no (wrong_no1 (e := e) (d := (lqAt t l).1 + k) (by assumption : ¬ (t.tests.getD i (0, 0, 0)).1 = l))
                                 exact tk_round (i + 1) (by omega) (by omega) (.cons rfl (.cons rfl (.cons rfl (.cons rfl (.cons rfl (.cons rfl (.cons rfl (.cons (by rw [hsu]; rfl) (.cons rfl .nil))))))))) (fun _ h => h.subl SB.s SB.s)))
                           · try simp only [qn1, qn2, qn3, qn4, qn5, qn6, qn7, qn8] at hc
                             all_goals refine tc_skip ?_; ((refine hK25 ?_; try (clear hK25; clear K25)))
                             all_goals refine tc_region ?_; refine tl_q (y_move rfl) rfl ?_; refine tl_q (y_add rfl rfl (by omega)) rfl ?_; refine tl_q (y_assign rfl) rfl ?_; refine tl_nil ?_
                             all_goals (
                              first
                              | (have hsu := bitsW_yes (wrong_yes (by assumption) (by assumption : rightF t e (t.tests.getD i (0, 0, 0)) ((lqAt t l).1 + k) = false))
                                 exact tk_round (i + 1) (by omega) (by omega) (.cons rfl (.cons rfl (.cons rfl (.cons rfl (.cons rfl (.cons rfl (.cons rfl (.cons (by rw [hsu]; rfl) (.cons rfl .nil))))))))) (fun _ h => h.subl SB.s SB.s))
                              | (have hsu := bitsW_no (wrong_no2 (l := l) (by assumption : rightF t e (t.tests.getD i (0, 0, 0)) ((lqAt t l).1 + k) = true))
                                 exact tk_round (i + 1) (by omega) (by omega) (.cons rfl (.cons rfl (.cons rfl (.cons rfl (.cons rfl (.cons rfl (.cons rfl (.cons (by rw [hsu]; rfl) (.cons rfl .nil))))))))) (fun _ h => h.subl SB.s SB.s))
                              | (have hsu := bitsW_no (wrong_no1 (e := e) (d := (lqAt t l).1 + k) (by assumption : ¬ (t.tests.getD i (0, 0, 0)).1 = l))
                                 exact tk_round (i + 1) (by omega) (by omega) (.cons rfl (.cons rfl (.cons rfl (.cons rfl (.cons rfl (.cons rfl (.cons rfl (.cons (by rw [hsu]; rfl) (.cons rfl .nil))))))))) (fun _ h => h.subl SB.s SB.s))))
                        · try simp only [qn1, qn2, qn3, qn4, qn5, qn6, qn7, qn8] at hc
                          all_goals refine tc_exit ?_; ((refine hK21 ?_; try (clear hK21; clear K21)))
                          all_goals (have hit : i = t.tests.length := by omega)
                          all_goals subst hit
                          all_goals rcases od with _ | ⟨bd, cd, jd⟩
                          all_goals ((dsimp only [outOk] at hod; dsimp only [slH_none, slH_some, List.cons_append, List.nil_append, outV']))
                          all_goals refine tc_region ?_; refine tl_q (y_move rfl) rfl ?_; refine tl_q (y_move rfl) rfl ?_; (refine tl_e (e_bslice rfl (by (repeat (first | exact .nil | apply PV.one rfl rfl)); done) rfl rfl) rfl (fun _ _ => ?_))
                          all_goals ((first | refine tl_e (e_append_own (old := (wrongN t e l k).map vi) (junk := jd) rfl rfl rfl (by repeat constructor) (by rw [List.length_map, wrongN_len]; omega) (by omega) hod.1 (fun w' hw' => RdI.own0 (xs := [((bitsW (wrongB t e l ((lqAt t l).1 + k)) t.tests.length : Nat) : Int)]) hw' (by repeat constructor)) (fun u hu => by obtain ⟨_, _, rfl⟩ := List.mem_map.1 hu; rfl) (by simp only [List.length_cons, List.length_nil]; omega) rfl) rfl (fun y hy => ?_) | refine tl_e (e_append_nil rfl rfl rfl (fun w' hw' => RdI.own0 (xs := [((bitsW (wrongB t e l ((lqAt t l).1 + k)) t.tests.length : Nat) : Int)]) hw' (by repeat constructor)) (fun u hu => by obtain ⟨_, _, rfl⟩ := List.mem_map.1 hu; rfl) Nat.zero_lt_one (Nat.le_of_ble_eq_true rfl) rfl) rfl (fun y hy => ?_)))
                          all_goals refine tl_q (y_assign rfl) rfl ?_; refine tl_nil ?_; ((refine hK19 ?_; try (clear hK19; clear K19)))
                          all_goals refine tc_region ?_; refine tl_q (y_move rfl) rfl ?_; refine tl_q (y_add rfl rfl (by omega)) rfl ?_; refine tl_q (y_assign rfl) rfl ?_; refine tl_nil ?_
                          all_goals (
                           have hs2 := wrongN_succ t e l k
                           refine tk_round (k + 1, some (y.1, y.2.1, y.2.2)) ⟨by dsimp only; omega, ?_⟩ (by dsimp only; omega) (.cons rfl (.cons rfl (.cons rfl (.cons rfl (.cons rfl (.cons ?_ (.cons ?_ .nil))))))) (fun _ h => ?_)
                           · dsimp only [outOk]; simp only [List.length_cons, List.length_nil] at hy ⊢; omega
                           · dsimp only [outV']; first | rfl | (rw [show k = 0 from hod]; rfl)
                           · show some (vi _) = some (vi _); congr 2; dsimp only; omega
                           · dsimp only [slH_some, List.cons_append, List.nil_append]; rw [hs2, List.map_append]
                             try rw [show wrongN t e l k = [] from List.eq_nil_of_length_eq_zero (by rw [wrongN_len]; exact hod), List.map_nil, List.nil_append]
                             exact HG.mv3 (h.subl SB.s SB.s))))
                  · try simp only [qn1, qn2, qn3, qn4, qn5, qn6, qn7, qn8] at hc
                    all_goals refine tc_exit ?_; ((refine hK15 ?_; try (clear hK15; clear K15)))
                    all_goals (have hkl : k = lqC t l := by omega)
                    all_goals subst hkl
                    all_goals rcases od with _ | ⟨bd, cd, jd⟩
                    all_goals (dsimp only [outOk] at hod)
                    all_goals ((first | (exfalso; omega) | skip))
                    all_goals rcases ow with _ | ⟨bw, cw', jw⟩
                    all_goals ((dsimp only [outOk] at how; dsimp only [slH_none, slH_some, List.cons_append, List.nil_append, outV']))
                    all_goals refine tc_region ?_; refine tl_q (y_field rfl) rfl ?_; refine tl_q (y_load1 rfl (by repeat constructor) (by rfl)) rfl ?_; refine tl_q (y_move rfl) rfl ?_; (refine tl_e (e_bslice rfl (by (repeat (first | exact .nil | apply PV.one rfl rfl)); done) rfl rfl) rfl (fun _ _ => ?_))
                    all_goals ((first | refine tl_e (e_append_own (old := vs) (junk := jw) rfl rfl rfl (by repeat constructor) (by rw [hov.1, wrongsN_len, Nat.mul_one]) (by omega) how.1 (fun w' hw' => Reads.own1 hw' (by repeat constructor)) (fun u hu => by obtain rfl := List.mem_singleton.1 hu; rfl) (by omega) rfl) rfl (fun z hz => ?_) | refine tl_e (e_append_nil rfl rfl rfl (fun w' hw' => Reads.own1 hw' (by repeat constructor)) (fun u hu => by obtain rfl := List.mem_singleton.1 hu; rfl) Nat.zero_lt_one (Nat.le_of_ble_eq_true rfl) rfl) rfl (fun z hz => ?_)))
                    all_goals refine tl_q (y_field rfl) rfl ?_; refine tl_e (e_store1 rfl rfl (by repeat constructor) (by repeat constructor) (by rfl) (by rfl)) rfl (fun _ _ => ?_); refine tl_nil ?_; ((refine hK13 ?_; try (clear hK13; clear K13)))
                    all_goals refine tc_region ?_; refine tl_q (y_move rfl) rfl ?_; refine tl_q (y_add rfl rfl (by omega)) rfl ?_; refine tl_q (y_assign rfl) rfl ?_; refine tl_nil ?_
                    all_goals (
                     refine tk_lay ((z.1, _) :: (b5, _) :: (b1, bO t (.slice aw t.s.weights.length cw) (.slice ap t.parts.length cp) (.slice aL t.liquids.length cL) (.slice at' t.tests.length ct)) :: slH wyT (flatW us) oo) SB.s (fun w2 h2 => ?_)
                     have hv2 : RdI w2 (.slice (some ⟨bd, 0, none⟩) (lqC t l) cd) (wrongN t e l (lqC t l)) := by have := RdI.own (xs := wrongN t e l (lqC t l)) (cap := cd) (junk := jd) h2 (b := bd) (by repeat constructor); rw [wrongN_len] at this; exact this
                     have hs1 := wrongsN_succ t e l
                     have hov2 := (hov.step (h2.fr (w0 := w1) (S := S1) MI.m) (h2.owns (Hk := (z.1, _) :: (b5, _) :: (b1, bO t (.slice aw t.s.weights.length cw) (.slice ap t.parts.length cp) (.slice aL t.liquids.length cL) (.slice at' t.tests.length ct)) :: slH wyT (flatW us) oo) SB.s MI.m)).snoc (OKI.new h2 (b := bd) (by repeat constructor) SB.s hv2)
                     rw [← hs1] at hov2
                     have hoe2 := hoe.step (h2.fr (w0 := w1) (S := S1) MI.m) (h2.owns (Hk := (z.1, _) :: (b5, _) :: (b1, bO t (.slice aw t.s.weights.length cw) (.slice ap t.parts.length cp) (.slice aL t.liquids.length cL) (.slice at' t.tests.length ct)) :: slH wyT (flatW us) oo) SB.s MI.m)
                     have hoi2 := hoi.step (h2.fr (w0 := w1) (S := S1) MI.m) (h2.owns (Hk := (z.1, _) :: (b5, _) :: (b1, bO t (.slice aw t.s.weights.length cw) (.slice ap t.parts.length cp) (.slice aL t.liquids.length cL) (.slice at' t.tests.length ct)) :: slH wyT (flatW us) oo) SB.s MI.m)
                     refine tk_round (l + 1, some (z.1, z.2.1, z.2.2), _, (w2, _)) ⟨by dsimp only; omega, ?_, hov2, hoe2, hoi2⟩ (by dsimp only; omega) (.cons rfl (.cons rfl (.cons rfl (.cons rfl (.cons rfl .nil))))) (fun _ h => ?_)
                     · dsimp only [outOk]; omega
                     · dsimp only [slH_some, List.cons_append, List.nil_append, outV']
                       try rw [show vs = [] from List.eq_nil_of_length_eq_zero (by rw [hov.1, wrongsN_len]; exact how), List.nil_append]
                       try rw [show l = 0 from how] at h ⊢
                       exact (h.subl SB.s (List.Sublist.refl _)).mv3)))
            · try simp only [qn1, qn2, qn3, qn4, qn5, qn6, qn7, qn8] at hc
              all_goals refine tc_exit ?_; ((refine hK9 ?_; try (clear hK9; clear K9)))
              all_goals (have hll : l = t.liquids.length := by omega)
              all_goals subst hll
              all_goals rcases ow with _ | ⟨bw, cw', jw⟩
              all_goals (dsimp only [outOk] at how)
              all_goals ((first | (exfalso; omega) | skip))
              all_goals rcases oo with _ | ⟨bo, co, jo⟩
              all_goals ((dsimp only [outOkR] at hok; dsimp only [slH_none, slH_some, List.cons_append, List.nil_append, outV']))
              all_goals refine tc_region ?_; refine tl_q (y_move rfl) rfl ?_; refine tl_q (y_loadW rfl (by repeat constructor) (by rfl)) rfl ?_; (refine tl_e (e_bslice rfl (by (repeat (first | exact .nil | apply PV.two rfl)); done) rfl rfl) rfl (fun _ _ => ?_))
              all_goals ((first | refine tl_e (e_append_own (old := flatW us) (junk := jo) rfl rfl rfl (by repeat constructor) (by rw [flatW_len, hoi.1, waysN_len (by omega)]) (by omega) hok.1 (fun w' hw' => Reads.own2 hw' (by repeat constructor)) (fun u hu => by simp only [List.mem_cons, List.not_mem_nil, or_false] at hu; rcases hu with rfl | rfl <;> rfl) (by omega) rfl) rfl (fun u hu => ?_) | refine tl_e (e_append_nil rfl rfl rfl (fun w' hw' => Reads.own2 hw' (by repeat constructor)) (fun u hu => by simp only [List.mem_cons, List.not_mem_nil, or_false] at hu; rcases hu with rfl | rfl <;> rfl) Nat.zero_lt_one (Nat.le_of_ble_eq_true rfl) rfl) rfl (fun u hu => ?_)))
              all_goals refine tl_q (y_assign rfl) rfl ?_; refine tl_nil ?_; ((refine hK7 ?_; try (clear hK7; clear K7)))
              all_goals refine tc_region ?_; refine tl_q (y_move rfl) rfl ?_; refine tl_q (y_add rfl rfl (by omega)) rfl ?_; refine tl_q (y_assign rfl) rfl ?_; refine tl_nil ?_
              all_goals (
               refine tk_lay [(u.1, _), (b1, bO t (.slice aw t.s.weights.length cw) (.slice ap t.parts.length cp) (.slice aL t.liquids.length cL) (.slice at' t.tests.length ct))] SB.s (fun w2 h2 => ?_)
               have hs1 := waysN_succ (t := t) (n := n) (by omega)
               rw [← he] at hs1
               have hov2 := hov.step (h2.fr (w0 := w1) (S := S1) MI.m) (h2.owns (Hk := [(u.1, _), (b1, bO t (.slice aw t.s.weights.length cw) (.slice ap t.parts.length cp) (.slice aL t.liquids.length cL) (.slice at' t.tests.length ct))]) SB.s MI.m)
               have hol := OKL.new (cap := cw') h2 (b := bw) (by repeat constructor) SB.s hov2
               rw [wrongsN_len] at hol
               have hin2 := (hoi.step (h2.fr (w0 := w1) (S := S1) MI.m) (h2.owns (Hk := [(u.1, _), (b1, bO t (.slice aw t.s.weights.length cw) (.slice ap t.parts.length cp) (.slice aL t.liquids.length cL) (.slice at' t.tests.length ct))]) SB.s MI.m)).snoc (x := wayF t e) (hoe.step (h2.fr (w0 := w1) (S := S1) MI.m) (h2.owns SB.s MI.m)) hol
               rw [← hs1] at hin2
               refine tk_round (n + 1, some (u.1, u.2.1, u.2.2), _, (w2, _)) ⟨by dsimp only; omega, ?_, hin2⟩ (by dsimp only; omega) (.cons rfl (.cons ?_ (.cons rfl .nil))) (fun _ h => ?_)
               · dsimp only [outOkR]; omega
               · dsimp only [outV']; first | rfl | (rw [show n = 0 from hok]; rfl)
               · dsimp only [slH_some]; rw [flatW_append]
                 try rw [show us = [] from List.eq_nil_of_length_eq_zero (by rw [hoi.1, waysN_len (by omega)]; exact hok), show flatW [] = [] from rfl, List.nil_append]
                 exact (h.subl SB.s (List.Sublist.refl _)).mv2)))
      · try simp only [qn1, qn2, qn3, qn4, qn5, qn6, qn7, qn8] at hc
        all_goals refine tc_exit ?_; ((refine hK3 ?_; try (clear hK3; clear K3)))
        all_goals refine tc_seq fun K27 hK27 => ?_; (have hnn : n = (everyL t).length := by omega)
        all_goals subst hnn
        all_goals rcases oo with _ | ⟨bo, co, jo⟩
        all_goals ((dsimp only [outOkR] at hok; dsimp only [slH_none, slH_some, List.cons_append, List.nil_append, outV']))
        all_goals refine tc_region ?_; refine tl_q (y_move rfl) rfl ?_; refine tl_q (y_assign rfl) rfl ?_; refine tl_nil ?_; ((refine hK27 ?_; try (clear hK27; clear K27)))
        all_goals refine tc_ret ?_; (repeat (first | refine tk_then_ret ?_))
        all_goals (refine tk_ret rfl rfl (.cons (.tmp rfl) .nil) ?_)
        all_goals (
         refine fun w' hw' => ?_
         first
         | exact ⟨(some ⟨bo, 0, none⟩, co), rfl, hw'.fr (w0 := w) (S := []) MI.m, by have := hin.rd (cap := co) (junk := jo) hw' (b := bo) (by repeat constructor) (hw'.fr (w0 := wl) (S := S) MI.m); rw [waysN_len (Nat.le_refl _)] at this; exact this⟩
         | exact ⟨(none, 0), by unfold slV; rw [hok]; rfl, hw'.fr (w0 := w) (S := []) MI.m, by unfold slV; rw [hok, show waysN t 0 = [] from rfl]; exact RdWs.nil _⟩)))
end Go.Sp
/-
  The reference of trials: which ways are right; all lists of errors of truths.
-/
namespace Go.Sp
open Go Go.Proofs
theorem bv_andn {n : Nat} (x y : BitVec n) : x &&& ~~~y = x ^^^ (x &&& y) := by
  apply BitVec.eq_of_getLsbD_eq
  intro i hi
  rw [BitVec.getLsbD_and, BitVec.getLsbD_not, BitVec.getLsbD_xor, BitVec.getLsbD_and, decide_eq_true hi]
  cases x.getLsbD i <;> cases y.getLsbD i <;> rfl
theorem y_andn {P : Program} {F : List (Nat × Value)} {bs : List (World × List Nat)} {H : List (Nat × Obj)} {d : Option Tmp} {ty : TypeId} {pos : String} {after : Array Edge} {g : Option (Nat × Bool)} {x y : Operand} {t t' : TypeId} {a b : Nat} (hx : evalO F x = some (.int .i64 a)) (hy : evalO F y = some (.int .i64 b)) (ha : a < 2 ^ 62) (hb : b < 2 ^ 62) :
    OpY P ⟨d, .binOp .andNot t x y t', ty, pos, after, g⟩ F bs H (.int .i64 ((a ^^^ (a &&& b) : Nat) : Int)) := by
  unfold OpY
  intro N a' w ht _
  have hab : a ^^^ (a &&& b) < 2 ^ 62 := Nat.xor_lt_two_pow ha (Nat.and_lt_two_pow a hb)
  have e : (BitVec.ofInt 64 (a : Int) &&& ~~~ BitVec.ofInt 64 (b : Int)).toNat = a ^^^ (a &&& b) := by
    rw [bv_andn, BitVec.toNat_xor, BitVec.toNat_and, BitVec.ofInt_natCast, BitVec.ofInt_natCast, BitVec.toNat_ofNat, BitVec.toNat_ofNat, Nat.mod_eq_of_lt (by omega), Nat.mod_eq_of_lt (by omega)]
  have hw : IntKind.i64.wrap ((a ^^^ (a &&& b) : Nat) : Int) = ((a ^^^ (a &&& b) : Nat) : Int) := IntWalk.i64_in _ (by omega)
  simp only [execOp, ht.eval hx, ht.eval hy, Sem.run_bind, eqGuard_int, binOp_andNot, Op.intBits, IntKind.bits, e, hw, Result.andThen, Sem.run_pure, binOp, ne_eq, not_true, if_false]
  have e2 : IntKind.i64.wrap ((BitVec.ofInt IntKind.i64.bits (a : Int) &&& ~~~ BitVec.ofInt IntKind.i64.bits (b : Int)).toNat : Int) = ((a ^^^ (a &&& b) : Nat) : Int) := by
    rw [← hw]; exact congrArg (fun n : Nat => IntKind.i64.wrap (n : Int)) e
  exact congrArg (fun n => Result.ok (Next.value (Value.int .i64 n)) w) e2
/-- Whether a set of wrong tests lies in another. -/
def inB (out : Nat) (b : Int) : Bool := decide (((b.toNat ^^^ (b.toNat &&& out) : Nat) : Int) = 0)
theorem inB_e {out : Nat} {b : Int} : inB out b = decide (b.toNat &&& out = b.toNat) := by
  unfold inB
  refine decide_eq_decide.2 ⟨fun h => ?_, fun h => by rw [h, Nat.xor_self]; rfl⟩
  have h0 : b.toNat ^^^ (b.toNat &&& out) = 0 := by omega
  apply Nat.eq_of_testBit_eq
  intro i
  have h1 : (b.toNat ^^^ (b.toNat &&& out)).testBit i = false := by rw [h0, Nat.zero_testBit]
  rw [Nat.testBit_xor] at h1
  revert h1
  cases b.toNat.testBit i <;> cases (b.toNat &&& out).testBit i <;> simp
def lgB (out : Nat) (l : List Int) : Bool := l.any (inB out)
theorem okW_lg {x : Wy} {out : Nat} : okW' x out = x.2.all (lgB out) := by
  unfold okW' lgB
  congr 1
  funext l
  congr 1
  funext b
  exact inB_e.symm
theorem takeT_succ' {α : Type} {l : List α} {n : Nat} (h : n < l.length) (z : α) : l.take (n + 1) = l.take n ++ [l.getD n z] := by
  rw [List.take_succ, List.getD_eq_getElem?_getD, List.getElem?_eq_getElem h]; rfl
theorem anyT_succ {α : Type} {l : List α} {f : α → Bool} {z : α} {d : Nat} (h : d < l.length) : (l.take (d + 1)).any f = ((l.take d).any f || f (l.getD d z)) := by
  rw [takeT_succ' h z, List.any_append]; simp
theorem allT_succ {α : Type} {l : List α} {f : α → Bool} {z : α} {d : Nat} (h : d < l.length) : (l.take (d + 1)).all f = ((l.take d).all f && f (l.getD d z)) := by
  rw [takeT_succ' h z, List.all_append]; simp
theorem rightW_c (x : Wy) (out : Nat) (ho : out < 2 ^ 62) (hb : ∀ l ∈ x.2, ∀ b ∈ l, 0 ≤ b ∧ b < 4611686018427387904) (hl9 : x.2.length ≤ 9) (hl99 : ∀ l ∈ x.2, l.length ≤ 99) (ev wv : Value) (w : World) (hr : RdI w ev x.1) (hL : RdLL w wv x.2) :
    CnV Tryz.prog 111 #[.agg #[ev, wv], vi out] w (.bool (okW' x out)) := by
  rw [okW_lg]
  obtain ⟨ae, ce, _, _, rfl, _, _⟩ := hr.open
  obtain ⟨aw, cw, bw, ow, vs, rfl, hadw, hcw, hRw⟩ := hL.open
  refine cnv (vs := [_, _]) Tryz.func111 rfl rfl ?_
  all_goals refine tc_seq fun K1 hK1 => ?_; refine tc_region ?_; refine tl_e (e_box rfl rfl rfl) rfl (fun b2 _ => ?_); refine tl_q (y_assign rfl) rfl ?_; refine tl_nil ?_; ((refine hK1 ?_; try (clear hK1; clear K1)))
  all_goals refine tc_seq fun K2 hK2 => ?_; refine tc_seq fun K3 hK3 => ?_; refine tc_region ?_; refine tl_q (y_assign rfl) rfl ?_; refine tl_nil ?_; ((refine hK3 ?_; try (clear hK3; clear K3)))
  all_goals refine tc_block ?_
  all_goals (
   refine tc_loop (fun l : Nat => l ≤ x.2.length ∧ (x.2.take l).all (lgB out) = true) (fun l => [(1, vi out), (2, ptr b2), (5, vi l)]) (fun _ => [(w, [])]) (fun _ => [(b2, .cells #[.slice ae x.1.length ce, .slice aw x.2.length cw] 174 (0, 0))]) (fun l => x.2.length - l) ?_ ?_
   · exact tk_start 0 ⟨Nat.zero_le _, rfl⟩ (.cons rfl (.cons rfl (.cons rfl .nil))) (fun _ h => h.subl SB.s SB.s)
   · rintro l ⟨hl, hall⟩
     try dsimp only at hl hall ⊢
     all_goals refine tc_seq fun K4 hK4 => ?_; refine tc_seq fun K5 hK5 => ?_; refine tc_region ?_; refine tl_q (y_move rfl) rfl ?_; refine tl_q (y_field rfl) rfl ?_; refine tl_q (y_load1 rfl (by repeat constructor) (by rfl)) rfl ?_; refine tl_q (y_len rfl) rfl ?_; refine tl_q (y_lss rfl rfl) rfl ?_; refine tl_nil ?_; ((refine hK5 ?_; try (clear hK5; clear K5)))
     all_goals (
      refine tc_cond rfl (fun hc => ?_) (fun hc => ?_)
      · try simp only [qn1, qn2, qn3, qn4, qn5, qn6, qn7, qn8] at hc
        all_goals refine tc_skip ?_; ((refine hK4 ?_; try (clear hK4; clear K4)))
        all_goals refine tc_seq fun K6 hK6 => ?_; refine tc_block ?_; refine tc_seq fun K7 hK7 => ?_; ((have hadw' := hadw (by omega); have hmem := getD_memL (xs := x.2) (k := l) (by omega); have hLb := hb _ hmem; have hL99 := hl99 _ hmem))
        all_goals (obtain ⟨L, hLe⟩ : ∃ L, L = x.2.getD l [] := ⟨_, rfl⟩)
        all_goals ((have hRl := fun w' f => hRw w' f l (by omega); have hsu := allT_succ (f := lgB out) (z := []) (show l < x.2.length by omega); rw [← hLe] at hLb hL99 hRl hsu))
        all_goals (obtain ⟨aL, cL, bL, oL, eL, hadL, hcL⟩ := (hRl w (Fr.refl _ _)).open)
        all_goals refine tc_region ?_; refine tl_q (y_assign rfl) rfl ?_; refine tl_nil ?_; ((refine hK7 ?_; try (clear hK7; clear K7)))
        all_goals refine tc_seq fun K8 hK8 => ?_; refine tc_seq fun K9 hK9 => ?_; refine tc_region ?_; refine tl_q (y_assign rfl) rfl ?_; refine tl_nil ?_; ((refine hK9 ?_; try (clear hK9; clear K9)))
        all_goals refine tc_block ?_
        all_goals (
         refine tc_loop (fun d : Nat => d ≤ L.length) (fun d => [(1, vi out), (2, ptr b2), (5, vi l), (6, .bool ((L.take d).any (inB out))), (7, vi d)]) (fun _ => [(w, [])]) (fun _ => [(b2, .cells #[.slice ae x.1.length ce, .slice aw x.2.length cw] 174 (0, 0))]) (fun d => L.length - d) ?_ ?_
         · exact tk_start 0 (Nat.zero_le _) (.cons rfl (.cons rfl (.cons rfl (.cons rfl (.cons rfl .nil))))) (fun _ h => h.subl SB.s SB.s)
         · rintro d hd
           all_goals refine tc_seq fun K10 hK10 => ?_; refine tc_seq fun K11 hK11 => ?_; refine tc_region ?_; refine tl_q (y_move rfl) rfl ?_; refine tl_q (y_field rfl) rfl ?_; refine tl_q (y_load1 rfl (by repeat constructor) (by rfl)) rfl ?_; refine tl_q (y_move rfl) rfl ?_; refine tl_q (y_index rfl rfl (by omega) hadw') rfl ?_; ((refine tl_q (y_load1o (v := .slice aL L.length cL) rfl (fun w' hw' => by rw [show Int.toNat (l : Int) * 1 = l from by omega, ← eL]; exact hcw w' (hw'.fr (w0 := w) (S := []) MI.m) l (by omega))) rfl ?_))
           all_goals refine tl_q (y_len rfl) rfl ?_; refine tl_q (y_lss rfl rfl) rfl ?_; refine tl_nil ?_; ((refine hK11 ?_; try (clear hK11; clear K11)))
           all_goals (
            refine tc_cond rfl (fun hc => ?_) (fun hc => ?_)
            · try simp only [qn1, qn2, qn3, qn4, qn5, qn6, qn7, qn8] at hc
              all_goals refine tc_skip ?_; ((refine hK10 ?_; try (clear hK10; clear K10)))
              all_goals refine tc_seq fun K12 hK12 => ?_; refine tc_block ?_; ((have hadL' := hadL (by omega); have hbd := hLb (L.getD d 0) (by rw [List.getD_eq_getElem?_getD, List.getElem?_eq_getElem (by omega)]; exact List.getElem_mem _)))
              all_goals (have hsa := anyT_succ (f := inB out) (z := 0) (show d < L.length by omega))
              all_goals (obtain ⟨q, hq⟩ : ∃ q : Nat, L.getD d 0 = q := ⟨(L.getD d 0).toNat, by omega⟩)
              all_goals (rcases hf : (L.take d).any (inB out))
              all_goals refine tc_region ?_; refine tl_q (y_move rfl) rfl ?_; refine tl_q (y_move rfl) rfl ?_; (first | refine tl_sk rfl rfl rfl rfl ?_ | refine tl_qg rfl rfl (y_field rfl) rfl ?_); (first | refine tl_sk rfl rfl rfl rfl ?_ | refine tl_qg rfl rfl (y_load1 rfl (by repeat constructor) (by rfl)) rfl ?_); (first | refine tl_sk rfl rfl rfl rfl ?_ | refine tl_qg rfl rfl (y_move rfl) rfl ?_); (first | refine tl_sk rfl rfl rfl rfl ?_ | refine tl_qg rfl rfl (y_index rfl rfl (by omega) hadw') rfl ?_); ((first | refine tl_sk rfl rfl rfl rfl ?_ | refine tl_qg rfl rfl (y_load1o (v := .slice aL L.length cL) rfl (fun w' hw' => by rw [show Int.toNat (l : Int) * 1 = l from by omega, ← eL]; exact hcw w' (hw'.fr (w0 := w) (S := []) MI.m) l (by omega))) rfl ?_))
              all_goals (first | refine tl_sk rfl rfl rfl rfl ?_ | refine tl_qg rfl rfl (y_move rfl) rfl ?_); (first | refine tl_sk rfl rfl rfl rfl ?_ | refine tl_qg rfl rfl (y_index rfl rfl (by omega) hadL') rfl ?_); ((first | refine tl_sk rfl rfl rfl rfl ?_ | refine tl_qg rfl rfl (y_load1o (v := vi (q : Int)) rfl (fun w' hw' => by rw [show Int.toNat (d : Int) * 1 = d from by omega, ← hq]; exact hcL w' (hw'.fr (w0 := w) (S := []) MI.m) d (by omega))) rfl ?_))
              all_goals (first | refine tl_sk rfl rfl rfl rfl ?_ | refine tl_qg rfl rfl (y_move rfl) rfl ?_); (first | refine tl_sk rfl rfl rfl rfl ?_ | refine tl_qg rfl rfl (y_andn rfl rfl (by omega) ho) rfl ?_); (first | refine tl_sk rfl rfl rfl rfl ?_ | refine tl_qg rfl rfl (y_eql rfl rfl) rfl ?_); (first | refine tl_q (y_pick_t rfl rfl) rfl ?_ | refine tl_q (y_pick_f rfl rfl) rfl ?_); refine tl_q (y_assign rfl) rfl ?_; refine tl_nil ?_; ((refine hK12 ?_; try (clear hK12; clear K12)))
              all_goals refine tc_region ?_; refine tl_q (y_move rfl) rfl ?_; refine tl_q (y_add rfl rfl (by omega)) rfl ?_; refine tl_q (y_assign rfl) rfl ?_; refine tl_nil ?_
              all_goals (
               refine tk_round (d + 1) (by omega) (by omega) (.cons rfl (.cons rfl (.cons rfl (.cons ?_ (.cons rfl .nil))))) (fun _ h => h.subl SB.s SB.s)
               rw [hsa, hf, hq]; rfl)
            · try simp only [qn1, qn2, qn3, qn4, qn5, qn6, qn7, qn8] at hc
              all_goals refine tc_exit ?_; ((refine hK8 ?_; try (clear hK8; clear K8)))
              all_goals refine tc_seq fun K13 hK13 => ?_; (have hdl : d = L.length := by omega)
              all_goals subst hdl
              all_goals (rcases hg : (L.take L.length).any (inB out))
              all_goals (rw [List.take_length] at hg)
              all_goals refine tc_region ?_; refine tl_q (y_move rfl) rfl ?_; refine tl_q (y_not rfl) rfl ?_; refine tl_nil ?_; ((refine hK13 ?_; try (clear hK13; clear K13)))
              all_goals (
               refine tc_cond rfl (fun hc => ?_) (fun hc => ?_)
               · try simp only [qn1, qn2, qn3, qn4, qn5, qn6, qn7, qn8] at hc
                 all_goals ((first | (exfalso; with_reducible exact btf hc) | skip))
                 all_goals refine tc_seq fun K14 hK14 => ?_; refine tc_region ?_; refine tl_q (y_assign rfl) rfl ?_; refine tl_nil ?_; ((refine hK14 ?_; try (clear hK14; clear K14)))
                 all_goals refine tc_ret ?_; (repeat (first | refine tk_then_ret ?_ | refine tk_block_ret ?_))
                 all_goals (refine tk_ret rfl rfl (.cons (.tmp rfl) .nil) ?_)
                 all_goals (
                  first
                  | exact fun w' hw' => ⟨by rw [show l = x.2.length from by omega, List.take_length] at hall; rw [hall]; rfl, hw'.fr (w0 := w) (S := []) MI.m⟩
                  | exact fun w' hw' => ⟨by rw [← List.take_append_drop (l + 1) x.2, List.all_append, hsu, show lgB out L = false from hg, Bool.and_false, Bool.false_and]; rfl, hw'.fr (w0 := w) (S := []) MI.m⟩)
               · try simp only [qn1, qn2, qn3, qn4, qn5, qn6, qn7, qn8] at hc
                 all_goals ((first | (exfalso; with_reducible exact bft hc) | skip))
                 all_goals refine tc_skip ?_; ((refine hK6 ?_; try (clear hK6; clear K6)))
                 all_goals refine tc_region ?_; refine tl_q (y_move rfl) rfl ?_; refine tl_q (y_add rfl rfl (by omega)) rfl ?_; refine tl_q (y_assign rfl) rfl ?_; refine tl_nil ?_
                 all_goals (
                  exact tk_round (l + 1) ⟨by omega, by rw [hsu, hall, show lgB out L = true from hg]; rfl⟩ (by omega) (.cons rfl (.cons rfl (.cons rfl .nil))) (fun _ h => h.subl SB.s SB.s)))))
      · try simp only [qn1, qn2, qn3, qn4, qn5, qn6, qn7, qn8] at hc
        all_goals refine tc_exit ?_; ((refine hK2 ?_; try (clear hK2; clear K2)))
        all_goals refine tc_seq fun K15 hK15 => ?_; refine tc_region ?_; refine tl_q (y_assign rfl) rfl ?_; refine tl_nil ?_; ((refine hK15 ?_; try (clear hK15; clear K15)))
        all_goals refine tc_ret ?_; (repeat (first | refine tk_then_ret ?_))
        all_goals (refine tk_ret rfl rfl (.cons (.tmp rfl) .nil) ?_)
        all_goals (
         first
         | exact fun w' hw' => ⟨by rw [show l = x.2.length from by omega, List.take_length] at hall; rw [hall]; rfl, hw'.fr (w0 := w) (S := []) MI.m⟩
         | exact fun w' hw' => ⟨by rw [← List.take_append_drop (l + 1) x.2, List.all_append, hsu, show lgB out L = false from hg, Bool.and_false, Bool.false_and]; rfl, hw'.fr (w0 := w) (S := []) MI.m⟩)))
end Go.Sp
/-
  The reference of trials: all lists of errors of truths; whether there is a truth without some tests.
-/
namespace Go.Sp
open Go Go.Proofs
/-- What is asked of ways. -/
def WsOk (ws : List Wy) : Prop := ws.length ≤ 9999 ∧ ∀ x ∈ ws, x.2.length ≤ 9 ∧ (∀ l ∈ x.2, l.length ≤ 99) ∧ ∀ l ∈ x.2, ∀ b ∈ l, 0 ≤ b ∧ b < 4611686018427387904
theorem getD_memW {ws : List Wy} {k : Nat} (h : k < ws.length) : ws.getD k ([], []) ∈ ws := by rw [List.getD_eq_getElem?_getD, List.getElem?_eq_getElem h]; exact List.getElem_mem h
theorem hasW_c (ws : List Wy) (hok : WsOk ws) (out : Nat) (ho : out < 2 ^ 62) (v : Value) (w : World) (hW : RdWs w v ws) :
    CnV Tryz.prog 116 #[v, vi out] w (.bool (ws.any fun x => okW' x out)) := by
  have hl9 := hok.1
  obtain ⟨aw, cw, bw, ow, us, rfl, hadw, hcw, hRw⟩ := hW.open
  refine cnv (vs := [_, _]) Tryz.func116 rfl rfl ?_
  all_goals refine tc_seq fun K1 hK1 => ?_; refine tc_region ?_; refine tl_q (y_assign rfl) rfl ?_; refine tl_nil ?_; ((refine hK1 ?_; try (clear hK1; clear K1)))
  all_goals refine tc_seq fun K2 hK2 => ?_; refine tc_seq fun K3 hK3 => ?_; refine tc_region ?_; refine tl_q (y_assign rfl) rfl ?_; refine tl_nil ?_; ((refine hK3 ?_; try (clear hK3; clear K3)))
  all_goals refine tc_block ?_
  all_goals (
   refine tc_loop (fun i : Nat => i ≤ ws.length ∧ (ws.take i).any (fun x => okW' x out) = false) (fun i => [(0, .slice aw ws.length cw), (1, vi out), (5, vi i)]) (fun _ => [(w, [])]) (fun _ => []) (fun i => ws.length - i) ?_ ?_
   · exact tk_start 0 ⟨Nat.zero_le _, rfl⟩ (.cons rfl (.cons rfl (.cons rfl .nil))) (fun _ h => h.subl SB.s SB.s)
   · rintro i ⟨hi, hany⟩
     all_goals refine tc_seq fun K4 hK4 => ?_; refine tc_seq fun K5 hK5 => ?_; refine tc_region ?_; refine tl_q (y_move rfl) rfl ?_; refine tl_q (y_move rfl) rfl ?_; refine tl_q (y_len rfl) rfl ?_; refine tl_q (y_lss rfl rfl) rfl ?_; refine tl_nil ?_; ((refine hK5 ?_; try (clear hK5; clear K5)))
     all_goals (
      refine tc_cond rfl (fun hc => ?_) (fun hc => ?_)
      · try simp only [qn1, qn2, qn3, qn4, qn5, qn6, qn7, qn8] at hc
        all_goals refine tc_skip ?_; ((refine hK4 ?_; try (clear hK4; clear K4)))
        all_goals refine tc_seq fun K6 hK6 => ?_; refine tc_block ?_; refine tc_seq fun K7 hK7 => ?_; ((have hadw' := hadw (by omega); have hx := hok.2 _ (getD_memW (ws := ws) (k := i) (by omega))))
        all_goals ((have hsu := anyT_succ (f := fun x => okW' x out) (z := ([], [])) (show i < ws.length by omega); rw [hany, Bool.false_or] at hsu))
        all_goals (rcases hk : okW' (ws.getD i ([], [])) out)
        all_goals refine tc_region ?_; refine tl_q (y_move rfl) rfl ?_; refine tl_q (y_move rfl) rfl ?_; refine tl_q (y_index rfl rfl (by omega) hadw') rfl ?_; refine tl_q (y_loadNo (n := 2) (vs := [(us.getD i (.nilFunc, .nilFunc)).1, (us.getD i (.nilFunc, .nilFunc)).2]) rfl (fun w' hw' => .cons (hcw w' (hw'.fr (w0 := w) (S := []) MI.m) i (by omega)).1 (.cons (hcw w' (hw'.fr (w0 := w) (S := []) MI.m) i (by omega)).2 .nil))) rfl ?_; refine tl_q (y_move rfl) rfl ?_; (refine tl_e (e_callV rfl (.cons rfl (.cons rfl .nil)) (fun w' hw' => by have h := rightW_c (ws.getD i ([], [])) out ho hx.2.2 hx.1 hx.2.1 _ _ w' (hRw w' (hw'.fr (w0 := w) (S := []) MI.m) i (by omega)).1 (hRw w' (hw'.fr (w0 := w) (S := []) MI.m) i (by omega)).2; rw [hk] at h; exact h)) rfl (fun _ _ => ?_))
        all_goals refine tl_nil ?_; ((refine hK7 ?_; try (clear hK7; clear K7)))
        all_goals (
         refine tc_cond rfl (fun hc => ?_) (fun hc => ?_)
         · try simp only [qn1, qn2, qn3, qn4, qn5, qn6, qn7, qn8] at hc
           all_goals ((first | (exfalso; with_reducible exact bft hc) | skip))
           all_goals refine tc_seq fun K8 hK8 => ?_; refine tc_region ?_; refine tl_q (y_assign rfl) rfl ?_; refine tl_nil ?_; ((refine hK8 ?_; try (clear hK8; clear K8)))
           all_goals refine tc_ret ?_; (repeat (first | refine tk_then_ret ?_ | refine tk_block_ret ?_))
           all_goals (refine tk_ret rfl rfl (.cons (.tmp rfl) .nil) ?_)
           all_goals (
            first
            | exact fun w' hw' => ⟨by rw [show i = ws.length from by omega, List.take_length] at hany; rw [hany]; rfl, hw'.fr (w0 := w) (S := []) MI.m⟩
            | exact fun w' hw' => ⟨by rw [← List.take_append_drop (i + 1) ws, List.any_append, hsu, hk, Bool.true_or]; rfl, hw'.fr (w0 := w) (S := []) MI.m⟩)
         · try simp only [qn1, qn2, qn3, qn4, qn5, qn6, qn7, qn8] at hc
           all_goals ((first | (exfalso; with_reducible exact btf hc) | skip))
           all_goals refine tc_skip ?_; ((refine hK6 ?_; try (clear hK6; clear K6)))
           all_goals refine tc_region ?_; refine tl_q (y_move rfl) rfl ?_; refine tl_q (y_add rfl rfl (by omega)) rfl ?_; refine tl_q (y_assign rfl) rfl ?_; refine tl_nil ?_
           all_goals (
            exact tk_round (i + 1) ⟨by omega, by rw [hsu, hk]⟩ (by omega) (.cons rfl (.cons rfl (.cons rfl .nil))) (fun _ h => h.subl SB.s SB.s)))
      · try simp only [qn1, qn2, qn3, qn4, qn5, qn6, qn7, qn8] at hc
        all_goals refine tc_exit ?_; ((refine hK2 ?_; try (clear hK2; clear K2)))
        all_goals refine tc_seq fun K9 hK9 => ?_; refine tc_region ?_; refine tl_q (y_assign rfl) rfl ?_; refine tl_nil ?_; ((refine hK9 ?_; try (clear hK9; clear K9)))
        all_goals refine tc_ret ?_; (repeat (first | refine tk_then_ret ?_))
        all_goals (refine tk_ret rfl rfl (.cons (.tmp rfl) .nil) ?_)
        all_goals (
         first
         | exact fun w' hw' => ⟨by rw [show i = ws.length from by omega, List.take_length] at hany; rw [hany]; rfl, hw'.fr (w0 := w) (S := []) MI.m⟩
         | exact fun w' hw' => ⟨by rw [← List.take_append_drop (i + 1) ws, List.any_append, hsu, hk, Bool.true_or]; rfl, hw'.fr (w0 := w) (S := []) MI.m⟩)))
def trueN (ws : List Wy) (n : Nat) : List (List Int) := ((ws.take n).filter fun x => okW' x 0).map fun x => x.1
theorem trueN_succ {ws : List Wy} {n : Nat} (h : n < ws.length) : trueN ws (n + 1) = if okW' (ws.getD n ([], [])) 0 = true then trueN ws n ++ [(ws.getD n ([], [])).1] else trueN ws n := by
  unfold trueN
  rw [takeT_succ' h ([], []), List.filter_append, List.map_append]
  cases hk : okW' (ws.getD n ([], [])) 0
  · rw [if_neg Bool.false_ne_true, List.filter_cons_of_neg (by rw [hk]; exact Bool.false_ne_true)]; simp
  · rw [if_pos rfl, List.filter_cons_of_pos (p := fun x : Wy => okW' x 0) hk]; rfl
theorem trueN_len {ws : List Wy} {n : Nat} : (trueN ws n).length ≤ n := by
  unfold trueN
  rw [List.length_map]
  exact Nat.le_trans (List.length_filter_le _ _) (by rw [List.length_take]; omega)
def RdV (w : World) (vs : List Value) (ls : List (List Int)) : Prop := vs.length = ls.length ∧ ∀ i, i < ls.length → RdI w (vs.getD i (.slice none 0 0)) (ls.getD i [])
theorem RdV.snoc {w : World} {vs : List Value} {ls : List (List Int)} {v : Value} {l : List Int} (h : RdV w vs ls) (hv : RdI w v l) : RdV w (vs ++ [v]) (ls ++ [l]) := by
  refine ⟨by simp [h.1], fun j hj => ?_⟩
  rw [getD_snoc, getD_snoc, h.1]
  rw [List.length_append, List.length_singleton] at hj
  split
  · rename_i hj1; exact h.2 j hj1
  · rename_i hj1; rw [if_pos (by omega), if_pos (by omega)]; exact hv
theorem true_c (ws : List Wy) (hok : WsOk ws) (v : Value) (w : World) (hW : RdWs w v ws) :
    CnX Tryz.prog 82 #[v] w [] (slV (trueN ws ws.length).length) (fun y w' => RdLL w' (slV (trueN ws ws.length).length y) (trueN ws ws.length)) := by
  have hl9 := hok.1
  obtain ⟨aw, cw, bw, ow, us, rfl, hadw, hcw, hRw⟩ := hW.open
  refine cnx0 (vs := [_]) Tryz.func82 rfl rfl ?_
  all_goals refine tc_seq fun K1 hK1 => ?_; refine tc_region ?_; refine tl_q (y_assign rfl) rfl ?_; refine tl_nil ?_; ((refine hK1 ?_; try (clear hK1; clear K1)))
  all_goals refine tc_seq fun K2 hK2 => ?_; refine tc_region ?_; refine tl_q (y_assign rfl) rfl ?_; refine tl_nil ?_; ((refine hK2 ?_; try (clear hK2; clear K2)))
  all_goals refine tc_seq fun K3 hK3 => ?_; refine tc_seq fun K4 hK4 => ?_; refine tc_region ?_; refine tl_q (y_assign rfl) rfl ?_; refine tl_nil ?_; ((refine hK4 ?_; try (clear hK4; clear K4)))
  all_goals refine tc_block ?_
  all_goals (
   refine tc_loop (fun p : Nat × Option (Nat × Nat × List Value) × List Value => p.1 ≤ ws.length ∧ outOk ((trueN ws p.1).length, p.2.1) ∧ RdV w p.2.2 (trueN ws p.1)) (fun p => [(0, .slice aw ws.length cw), (3, outV' ((trueN ws p.1).length, p.2.1)), (4, vi p.1)]) (fun _ => [(w, [])]) (fun p => slH 22 p.2.2 p.2.1) (fun p => ws.length - p.1) ?_ ?_
   · exact tk_start (0, none, []) ⟨Nat.zero_le _, rfl, rfl, fun j hj => absurd hj (Nat.not_lt_zero j)⟩ (.cons rfl (.cons rfl (.cons rfl .nil))) (fun _ h => h.subl SB.s SB.s)
   · rintro ⟨n, oo, vs⟩ ⟨hn, hok', hrv⟩
     have htl := trueN_len (ws := ws) (n := n)
     rcases oo with _ | ⟨bo, cap, junk⟩
     all_goals ((dsimp only [outOk] at hn hok' hrv ⊢; dsimp only [slH_none, slH_some, List.cons_append, List.nil_append, outV']))
     all_goals refine tc_seq fun K5 hK5 => ?_; refine tc_seq fun K6 hK6 => ?_; refine tc_region ?_; refine tl_q (y_move rfl) rfl ?_; refine tl_q (y_move rfl) rfl ?_; refine tl_q (y_len rfl) rfl ?_; refine tl_q (y_lss rfl rfl) rfl ?_; refine tl_nil ?_; ((refine hK6 ?_; try (clear hK6; clear K6)))
     all_goals (
      refine tc_cond rfl (fun hc => ?_) (fun hc => ?_)
      · try simp only [qn1, qn2, qn3, qn4, qn5, qn6, qn7, qn8] at hc
        all_goals refine tc_skip ?_; ((refine hK5 ?_; try (clear hK5; clear K5)))
        all_goals refine tc_seq fun K7 hK7 => ?_; refine tc_block ?_; refine tc_seq fun K8 hK8 => ?_; ((have hadw' := hadw (by omega); have hx := hok.2 _ (getD_memW (ws := ws) (k := n) (by omega))))
        all_goals (have hsu := trueN_succ (ws := ws) (n := n) (by omega))
        all_goals (obtain ⟨aE, cE, _, _, eE, _, _⟩ := (hRw w (Fr.refl _ _) n (by omega)).1.open)
        all_goals (rcases hk : okW' (ws.getD n ([], [])) 0)
        all_goals (rw [hk] at hsu)
        all_goals refine tc_region ?_; refine tl_q (y_move rfl) rfl ?_; refine tl_q (y_move rfl) rfl ?_; refine tl_q (y_index rfl rfl (by omega) hadw') rfl ?_; refine tl_q (y_loadNo (n := 2) (vs := [(us.getD n (.nilFunc, .nilFunc)).1, (us.getD n (.nilFunc, .nilFunc)).2]) rfl (fun w' hw' => .cons (hcw w' (hw'.fr (w0 := w) (S := []) MI.m) n (by omega)).1 (.cons (hcw w' (hw'.fr (w0 := w) (S := []) MI.m) n (by omega)).2 .nil))) rfl ?_; (refine tl_e (e_callV rfl (.cons rfl (.cons rfl .nil)) (fun w' hw' => by have h := rightW_c (ws.getD n ([], [])) 0 (by omega) hx.2.2 hx.1 hx.2.1 _ _ w' (hRw w' (hw'.fr (w0 := w) (S := []) MI.m) n (by omega)).1 (hRw w' (hw'.fr (w0 := w) (S := []) MI.m) n (by omega)).2; rw [hk] at h; exact h)) rfl (fun _ _ => ?_))
        all_goals refine tl_nil ?_; ((refine hK8 ?_; try (clear hK8; clear K8)))
        all_goals (
         refine tc_cond rfl (fun hc => ?_) (fun hc => ?_)
         · try simp only [qn1, qn2, qn3, qn4, qn5, qn6, qn7, qn8] at hc
           all_goals ((first | (exfalso; with_reducible exact bft hc) | skip))
           all_goals refine tc_region ?_; refine tl_q (y_move rfl) rfl ?_; refine tl_q (y_move rfl) rfl ?_; refine tl_q (y_move rfl) rfl ?_; refine tl_q (y_index rfl rfl (by omega) hadw') rfl ?_; refine tl_q (y_field rfl) rfl ?_; ((refine tl_q (y_load1o (v := .slice aE (ws.getD n ([], [])).1.length cE) rfl (fun w' hw' => by rw [← eE]; exact (hcw w' (hw'.fr (w0 := w) (S := []) MI.m) n (by omega)).1)) rfl ?_))
           all_goals (refine tl_e (e_bslice rfl (by (repeat (first | exact .nil | apply PV.one rfl rfl)); done) rfl rfl) rfl (fun _ _ => ?_))
           all_goals ((first | refine tl_e (e_append_own (old := vs) (junk := junk) rfl rfl rfl (by repeat constructor) (by rw [hrv.1, Nat.mul_one]) (by omega) hok'.1 (fun w' hw' => Reads.own1 hw' (by repeat constructor)) (fun u hu => by obtain rfl := List.mem_singleton.1 hu; rfl) (by omega) rfl) rfl (fun y hy => ?_) | refine tl_e (e_append_nil rfl rfl rfl (fun w' hw' => Reads.own1 hw' (by repeat constructor)) (fun u hu => by obtain rfl := List.mem_singleton.1 hu; rfl) Nat.zero_lt_one (Nat.le_of_ble_eq_true rfl) rfl) rfl (fun y hy => ?_)))
           all_goals refine tl_q (y_assign rfl) rfl ?_; refine tl_nil ?_; ((refine hK7 ?_; try (clear hK7; clear K7)))
           all_goals refine tc_region ?_; refine tl_q (y_move rfl) rfl ?_; refine tl_q (y_add rfl rfl (by omega)) rfl ?_; refine tl_q (y_assign rfl) rfl ?_; refine tl_nil ?_
           all_goals (
            first
            | (rw [if_neg Bool.false_ne_true] at hsu
               first
               | exact tk_round (n + 1, some (bo, cap, junk), vs) ⟨by dsimp only; omega, by dsimp only [outOk]; rw [hsu]; exact hok', by dsimp only; rw [hsu]; exact hrv⟩ (by dsimp only; omega) (.cons rfl (.cons (by rw [hsu]; rfl) (.cons rfl .nil))) (fun _ h => h.subl SB.s SB.s)
               | exact tk_round (n + 1, none, vs) ⟨by dsimp only; omega, by dsimp only [outOk]; rw [hsu]; exact hok', by dsimp only; rw [hsu]; exact hrv⟩ (by dsimp only; omega) (.cons rfl (.cons (by rw [hsu]; rfl) (.cons rfl .nil))) (fun _ h => h.subl SB.s SB.s))
            | (rw [if_pos rfl] at hsu
               have hrv2 := hrv.snoc (v := .slice aE (ws.getD n ([], [])).1.length cE) (by rw [← eE]; exact (hRw w (Fr.refl _ _) n (by omega)).1)
               refine tk_round (n + 1, some (y.1, y.2.1, y.2.2), vs ++ [.slice aE (ws.getD n ([], [])).1.length cE]) ⟨by dsimp only; omega, ?_, by dsimp only; rw [hsu]; exact hrv2⟩ (by dsimp only; omega) (.cons rfl (.cons ?_ (.cons rfl .nil))) (fun _ h => ?_)
               · dsimp only [outOk]; rw [hsu, List.length_append, List.length_singleton]; try simp only [List.length_cons, List.length_nil] at hy
                 omega
               · dsimp only [outV']; rw [hsu, List.length_append, List.length_singleton]; first | rfl | (rw [hok']; rfl)
               · dsimp only [slH_some]
                 try rw [show vs = [] from List.eq_nil_of_length_eq_zero (by rw [hrv.1]; exact hok'), List.nil_append]
                 exact h.subl SB.s SB.s))
         · try simp only [qn1, qn2, qn3, qn4, qn5, qn6, qn7, qn8] at hc
           all_goals ((first | (exfalso; with_reducible exact btf hc) | skip))
           all_goals refine tc_skip ?_; ((refine hK7 ?_; try (clear hK7; clear K7)))
           all_goals refine tc_region ?_; refine tl_q (y_move rfl) rfl ?_; refine tl_q (y_add rfl rfl (by omega)) rfl ?_; refine tl_q (y_assign rfl) rfl ?_; refine tl_nil ?_
           all_goals (
            first
            | (rw [if_neg Bool.false_ne_true] at hsu
               first
               | exact tk_round (n + 1, some (bo, cap, junk), vs) ⟨by dsimp only; omega, by dsimp only [outOk]; rw [hsu]; exact hok', by dsimp only; rw [hsu]; exact hrv⟩ (by dsimp only; omega) (.cons rfl (.cons (by rw [hsu]; rfl) (.cons rfl .nil))) (fun _ h => h.subl SB.s SB.s)
               | exact tk_round (n + 1, none, vs) ⟨by dsimp only; omega, by dsimp only [outOk]; rw [hsu]; exact hok', by dsimp only; rw [hsu]; exact hrv⟩ (by dsimp only; omega) (.cons rfl (.cons (by rw [hsu]; rfl) (.cons rfl .nil))) (fun _ h => h.subl SB.s SB.s))
            | (rw [if_pos rfl] at hsu
               have hrv2 := hrv.snoc (v := .slice aE (ws.getD n ([], [])).1.length cE) (by rw [← eE]; exact (hRw w (Fr.refl _ _) n (by omega)).1)
               refine tk_round (n + 1, some (y.1, y.2.1, y.2.2), vs ++ [.slice aE (ws.getD n ([], [])).1.length cE]) ⟨by dsimp only; omega, ?_, by dsimp only; rw [hsu]; exact hrv2⟩ (by dsimp only; omega) (.cons rfl (.cons ?_ (.cons rfl .nil))) (fun _ h => ?_)
               · dsimp only [outOk]; rw [hsu, List.length_append, List.length_singleton]; try simp only [List.length_cons, List.length_nil] at hy
                 omega
               · dsimp only [outV']; rw [hsu, List.length_append, List.length_singleton]; first | rfl | (rw [hok']; rfl)
               · dsimp only [slH_some]
                 try rw [show vs = [] from List.eq_nil_of_length_eq_zero (by rw [hrv.1]; exact hok'), List.nil_append]
                 exact h.subl SB.s SB.s)))
      · try simp only [qn1, qn2, qn3, qn4, qn5, qn6, qn7, qn8] at hc
        all_goals refine tc_exit ?_; ((refine hK3 ?_; try (clear hK3; clear K3)))
        all_goals refine tc_seq fun K9 hK9 => ?_; (have hnn : n = ws.length := by omega)
        all_goals subst hnn
        all_goals refine tc_region ?_; refine tl_q (y_move rfl) rfl ?_; refine tl_q (y_assign rfl) rfl ?_; refine tl_nil ?_; ((refine hK9 ?_; try (clear hK9; clear K9)))
        all_goals refine tc_ret ?_; (repeat (first | refine tk_then_ret ?_))
        all_goals (refine tk_ret rfl rfl (.cons (.tmp rfl) .nil) ?_)
        all_goals (
         refine fun w' hw' => ?_
         first
         | (have hz : trueN ws ws.length = [] := List.eq_nil_of_length_eq_zero hok'
            refine ⟨(none, 0), ?_, hw'.fr (w0 := w) (S := []) MI.m, ?_⟩
            · unfold slV; rw [hz]; rfl
            · unfold slV; rw [hz]; exact RdLL.nil _)
         | (refine ⟨(some ⟨bo, 0, none⟩, cap), rfl, hw'.fr (w0 := w) (S := []) MI.m, vs, ⟨by rw [hrv.1, Nat.mul_one], _, _, rfl, fun _ => ⟨bo, 0, rfl, ?_⟩⟩, fun i hi => (hrv.2 i hi).fr (hw'.fr (w0 := w) (S := []) MI.m)⟩
            rw [← hrv.1, Nat.mul_one]
            exact (CA_pre vs junk 22 (0, 0)).cells (hw'.heap _ (HM.mem (by repeat constructor)))))))
end Go.Sp
/-
  Trials, plainly: the reference's ways are the truths; what a division means, corrected: all densities tried.
-/
namespace Go.Sp
open Go Go.Proofs
theorem bitsL_zero : bitsL 0 = [] := by decide +kernel
theorem ways_all (t : Tr) : waysN t (everyL t).length = (everyL t).map (wayF t) := by unfold waysN; rw [List.take_length]
theorem ways_any {t : Tr} (hv : VT t) {out : Nat} (ho : out < 2 ^ t.tests.length) : ((waysN t (everyL t).length).any fun x => okW' x out) = (everyL t).any fun e => denOk t e (bitsL (out : Int)) := by
  rw [ways_all, List.any_map]
  congr 1
  funext e
  exact okW_den hv ho
theorem ways_true {t : Tr} (hv : VT t) : trueN (waysN t (everyL t).length) (waysN t (everyL t).length).length = (truthsL t []).map (errL t) := by
  unfold trueN truthsL
  rw [List.take_length, ways_all, List.filter_map, List.map_map]
  have : ((fun x => okW' x 0) ∘ wayF t) = fun e => denOk t e [] := by
    funext e
    have := okW_den hv (e := e) (out := 0) (Nat.two_pow_pos _)
    rw [show ((0 : Nat) : Int) = 0 from rfl, bitsL_zero] at this
    exact this
  rw [this]; rfl
theorem ways_ok {t : Tr} (hv : VT t) (h14 : ∀ i : Nat, i < t.liquids.length → (lqAt t i).2 - (lqAt t i).1 ≤ 14) : WsOk (waysN t (everyL t).length) := by
  have hel := every_len hv
  have hl3 := hv.l3
  refine ⟨by rw [waysN_len (Nat.le_refl _)]; omega, fun x hx => ?_⟩
  rw [ways_all] at hx
  obtain ⟨e, _, rfl⟩ := List.mem_map.1 hx
  unfold wayF
  dsimp only
  refine ⟨by rw [wrongsN_len]; omega, fun l hl => ?_, fun l hl b hb => ?_⟩
  · unfold wrongsN at hl
    obtain ⟨i, hi, rfl⟩ := List.mem_map.1 hl
    rw [wrongN_len]
    have := h14 i (List.mem_range.1 hi)
    unfold lqC
    omega
  · unfold wrongsN at hl
    obtain ⟨i, hi, rfl⟩ := List.mem_map.1 hl
    unfold wrongN at hb
    obtain ⟨q, _, rfl⟩ := List.mem_map.1 hb
    have h1 := bitsW_lt (wrongB t e i ((lqAt t i).1 + q)) t.tests.length
    have h2 : 2 ^ t.tests.length ≤ 2 ^ 9 := Nat.pow_le_pow_right (by omega) (by have := hv.t6; omega)
    omega
end Go.Sp
/-
  Trials: what all truths are, walked; what a division means, by the reference.
-/
namespace Go.Sp
open Go Go.Proofs
theorem sure_f (t : Tr) (hn : NT t) (h0 : ¬ chkT t = 0) (sl pl ll tl : Value) (w : World) (hr : RdTr w t sl pl ll tl) :
    CnV Tryz.prog 28 #[trV t sl pl ll tl] w (.tuple #[.slice none 0 0, .slice none 0 0, vi (chkT t)]) := by
  have hr0 := hr
  refine cnv (vs := [_]) Tryz.func28 rfl rfl ?_
  all_goals refine tc_seq fun K1 hK1 => ?_; refine tc_region ?_; refine tl_e (e_box rfl rfl rfl) rfl (fun b1 _ => ?_); refine tl_q (y_assign rfl) rfl ?_; refine tl_q (y_assign rfl) rfl ?_; refine tl_q (y_assign rfl) rfl ?_; refine tl_nil ?_; ((refine hK1 ?_; try (clear hK1; clear K1)))
  all_goals refine tc_seq fun K2 hK2 => ?_; refine tc_seq fun K3 hK3 => ?_; refine tc_lay ([]) (SB.s .nil) (fun wl1 hl1 => ?_); refine tc_region ?_; refine tl_q (y_loadWf rfl (hl1.at (by repeat constructor)) MI.m (by simp) (by rfl)) rfl ?_; refine tl_e (e_callV rfl (.cons rfl .nil) (fun w' hw' => fault9_c t hn _ _ _ _ w' (hr0.fr (hw'.fr (w0 := w) (S := []) MI.m)))) rfl (fun _ _ => ?_); refine tl_q (y_assign rfl) rfl ?_; refine tl_nil ?_; ((refine hK3 ?_; try (clear hK3; clear K3)))
  all_goals refine tc_seq fun K4 hK4 => ?_; refine tc_lay ([]) (SB.s .nil) (fun wl2 hl2 => ?_); refine tc_region ?_; refine tl_q (y_move rfl) rfl ?_; refine tl_q (y_neq rfl rfl) rfl ?_; refine tl_nil ?_; ((refine hK4 ?_; try (clear hK4; clear K4)))
  all_goals (
   refine tc_cond rfl (fun hc => ?_) (fun hc => ?_)
   · try simp only [qn1, qn2, qn3, qn4, qn5, qn6, qn7, qn8] at hc
     all_goals refine tc_seq fun K5 hK5 => ?_; refine tc_lay ([]) (SB.s .nil) (fun wl3 hl3 => ?_); refine tc_region ?_; refine tl_q (y_move rfl) rfl ?_; refine tl_q (y_assign rfl) rfl ?_; refine tl_q (y_assign rfl) rfl ?_; refine tl_q (y_assign rfl) rfl ?_; refine tl_nil ?_; ((refine hK5 ?_; try (clear hK5; clear K5)))
     all_goals refine tc_ret ?_; (repeat (refine tk_then_ret ?_))
     all_goals (refine tk_ret rfl rfl (.cons (.tmp rfl) (.cons (.tmp rfl) (.cons (.tmp rfl) .nil))) ?_)
     all_goals (
      first
      | exact fun w' hw' => ⟨rfl, hw'.fr (w0 := w) (S := []) MI.m⟩
      | (exfalso; omega))
   · try simp only [qn1, qn2, qn3, qn4, qn5, qn6, qn7, qn8] at hc
     all_goals ((exfalso; omega))
     all_goals (
      refine tc_cond rfl (fun hc => ?_) (fun hc => ?_)
      · skip
      · skip
        all_goals (
         first
         | exact fun w' hw' => ⟨rfl, hw'.fr (w0 := w) (S := []) MI.m⟩
         | (exfalso; omega))))
theorem errL_map_len (t : Tr) : ((truthsL t []).map (errL t)).length = (truthsL t []).length := List.length_map _
theorem sure_v (t : Tr) (hn : NT t) (hv : VT t) (h14 : ∀ i : Nat, i < t.liquids.length → (lqAt t i).2 - (lqAt t i).1 ≤ 14) (sl pl ll tl : Value) (w : World) (hr : RdTr w t sl pl ll tl) :
    CnX Tryz.prog 28 #[trV t sl pl ll tl] w [] (fun y : (Option Addr × Nat) × (Option Addr × Nat) => .tuple #[slV (everyL t).length y.1, slV (truthsL t []).length y.2, vi (askedE t)]) (fun y w' => RdWs w' (slV (everyL t).length y.1) (waysN t (everyL t).length) ∧ RdLL w' (slV (truthsL t []).length y.2) ((truthsL t []).map (errL t))) := by
  have hr0 := hr
  have h0 := chkT_0.2 hv
  have hA := asked_v hv
  have hok := ways_ok hv h14
  have htr := ways_true hv
  have hel := every_len hv
  have hml := errL_map_len t
  have htl : (truthsL t []).length ≤ 343 := Nat.le_trans (List.length_filter_le _ _) hel
  refine cnx0 (vs := [_]) Tryz.func28 rfl rfl ?_
  all_goals refine tc_seq fun K1 hK1 => ?_; refine tc_region ?_; refine tl_e (e_box rfl rfl rfl) rfl (fun b1 _ => ?_); refine tl_q (y_assign rfl) rfl ?_; refine tl_q (y_assign rfl) rfl ?_; refine tl_q (y_assign rfl) rfl ?_; refine tl_nil ?_; ((refine hK1 ?_; try (clear hK1; clear K1)))
  all_goals refine tc_seq fun K2 hK2 => ?_; refine tc_seq fun K3 hK3 => ?_; refine tc_lay ([]) (SB.s .nil) (fun wl1 hl1 => ?_); refine tc_region ?_; refine tl_q (y_loadWf rfl (hl1.at (by repeat constructor)) MI.m (by simp) (by rfl)) rfl ?_; refine tl_e (e_callV rfl (.cons rfl .nil) (fun w' hw' => fault9_c t hn _ _ _ _ w' (hr0.fr (hw'.fr (w0 := w) (S := []) MI.m)))) rfl (fun _ _ => ?_); refine tl_q (y_assign rfl) rfl ?_; refine tl_nil ?_; ((refine hK3 ?_; try (clear hK3; clear K3)))
  all_goals refine tc_seq fun K4 hK4 => ?_; refine tc_lay ([]) (SB.s .nil) (fun wl2 hl2 => ?_); refine tc_region ?_; refine tl_q (y_move rfl) rfl ?_; refine tl_q (y_neq rfl rfl) rfl ?_; refine tl_nil ?_; ((refine hK4 ?_; try (clear hK4; clear K4)))
  all_goals (
   refine tc_cond rfl (fun hc => ?_) (fun hc => ?_)
   · try simp only [qn1, qn2, qn3, qn4, qn5, qn6, qn7, qn8] at hc
     all_goals ((exfalso; omega))
   · try simp only [qn1, qn2, qn3, qn4, qn5, qn6, qn7, qn8] at hc
     all_goals refine tc_skip ?_; ((refine hK2 ?_; try (clear hK2; clear K2)))
     all_goals refine tc_seq fun K6 hK6 => ?_; refine tc_lay ([]) (SB.s .nil) (fun wl4 hl4 => ?_); refine tc_region ?_; refine tl_q (y_loadWf rfl (hl1.at (by repeat constructor)) MI.m (by simp) (by rfl)) rfl ?_; refine tl_e (e_callX rfl (.cons rfl .nil) (fun w' hw' => ways_c t hv h14 _ _ _ _ w' (hr0.fr (hw'.fr (w0 := w) (S := []) MI.m)))) rfl (fun x4 hx4 => ?_); refine tl_q (y_assign rfl) rfl ?_; refine tl_nil ?_; ((refine hK6 ?_; try (clear hK6; clear K6)))
     all_goals refine tc_seq fun K7 hK7 => ?_; refine tc_lay ([]) (SB.s .nil) (fun wl5 hl5 => ?_); refine tc_region ?_; refine tl_q (y_move rfl) rfl ?_; (refine tl_e (e_callX rfl (.cons rfl .nil) (fun w' hw' => by have h := true_c (waysN t (everyL t).length) hok _ w' (RdWs.fr hx4.1 (hw'.fr (w0 := x4.2) (S := []) MI.m)); rw [htr, hml] at h; exact h)) rfl (fun x5 hx5 => ?_))
     all_goals refine tl_q (y_assign rfl) rfl ?_; refine tl_nil ?_; ((refine hK7 ?_; try (clear hK7; clear K7)))
     all_goals refine tc_seq fun K8 hK8 => ?_; refine tc_seq fun K9 hK9 => ?_; refine tc_lay ([]) (SB.s .nil) (fun wl6 hl6 => ?_); refine tc_region ?_; refine tl_q (y_move rfl) rfl ?_; refine tl_q (y_len rfl) rfl ?_; refine tl_q (y_eql rfl rfl) rfl ?_; refine tl_nil ?_; ((refine hK9 ?_; try (clear hK9; clear K9)))
     all_goals (
      refine tc_cond rfl (fun hc => ?_) (fun hc => ?_)
      · try simp only [qn1, qn2, qn3, qn4, qn5, qn6, qn7, qn8] at hc
        all_goals refine tc_seq fun K10 hK10 => ?_; refine tc_lay ([]) (SB.s .nil) (fun wl7 hl7 => ?_); refine tc_region ?_; refine tl_q (y_move rfl) rfl ?_; refine tl_q (y_assign rfl) rfl ?_; refine tl_q (y_assign rfl) rfl ?_; refine tl_q (y_assign rfl) rfl ?_; refine tl_nil ?_; ((refine hK10 ?_; try (clear hK10; clear K10)))
        all_goals refine tc_ret ?_; (repeat (refine tk_then_ret ?_))
        all_goals (refine tk_ret rfl rfl (.cons (.tmp rfl) (.cons (.tmp rfl) (.cons (.tmp rfl) .nil))) ?_)
        all_goals (
         first
         | (exfalso; omega)
         | (rcases hA with ⟨hA, hz⟩ | ⟨hA, hz⟩
            · exact fun w' hw' => ⟨(x4.1, x5.1), by rw [hA]; rfl, hw'.fr (w0 := w) (S := []) MI.m, RdWs.fr hx4.1 (hw'.fr (w0 := x4.2) (S := []) MI.m), RdLL.frF hx5.1 (hw'.fr (w0 := x5.2) (S := []) MI.m)⟩
            · exfalso; omega)
         | (rcases hA with ⟨hA, hz⟩ | ⟨hA, hz⟩
            · exfalso; omega
            · have hnil : truthsL t [] = [] := List.eq_nil_of_length_eq_zero hz
              refine fun w' hw' => ⟨(x4.1, (none, 0)), by rw [hA]; unfold slV; rw [hz]; rfl, hw'.fr (w0 := w) (S := []) MI.m, RdWs.fr hx4.1 (hw'.fr (w0 := x4.2) (S := []) MI.m), ?_⟩
              unfold slV
              rw [hnil]; exact RdLL.nil _))
      · try simp only [qn1, qn2, qn3, qn4, qn5, qn6, qn7, qn8] at hc
        all_goals refine tc_skip ?_; ((refine hK8 ?_; try (clear hK8; clear K8)))
        all_goals refine tc_seq fun K11 hK11 => ?_; refine tc_lay ([]) (SB.s .nil) (fun wl8 hl8 => ?_); refine tc_region ?_; refine tl_q (y_move rfl) rfl ?_; refine tl_q (y_move rfl) rfl ?_; refine tl_q (y_assign rfl) rfl ?_; refine tl_q (y_assign rfl) rfl ?_; refine tl_q (y_assign rfl) rfl ?_; refine tl_nil ?_; ((refine hK11 ?_; try (clear hK11; clear K11)))
        all_goals refine tc_ret ?_; (repeat (first | refine tk_then_ret ?_))
        all_goals (refine tk_ret rfl rfl (.cons (.tmp rfl) (.cons (.tmp rfl) (.cons (.tmp rfl) .nil))) ?_)
        all_goals (
         first
         | (exfalso; omega)
         | (rcases hA with ⟨hA, hz⟩ | ⟨hA, hz⟩
            · exact fun w' hw' => ⟨(x4.1, x5.1), by rw [hA]; rfl, hw'.fr (w0 := w) (S := []) MI.m, RdWs.fr hx4.1 (hw'.fr (w0 := x4.2) (S := []) MI.m), RdLL.frF hx5.1 (hw'.fr (w0 := x5.2) (S := []) MI.m)⟩
            · exfalso; omega)
         | (rcases hA with ⟨hA, hz⟩ | ⟨hA, hz⟩
            · exfalso; omega
            · have hnil : truthsL t [] = [] := List.eq_nil_of_length_eq_zero hz
              refine fun w' hw' => ⟨(x4.1, (none, 0)), by rw [hA]; unfold slV; rw [hz]; rfl, hw'.fr (w0 := w) (S := []) MI.m, RdWs.fr hx4.1 (hw'.fr (w0 := x4.2) (S := []) MI.m), ?_⟩
              unfold slV
              rw [hnil]; exact RdLL.nil _))))
end Go.Sp
/-
  TrialLeft: the law's function returns true.
-/
namespace Go.Sp
open Go Go.Proofs
theorem slicedX {P : Program} {f : FuncId} {args : Array Value} {w : World} {g : Value → Value} {xs : List Int} (h : CnX P f args w [] g (fun v w' => RdI w' v xs)) :
    CnX P f args w [] (fun x : Option Addr × Nat => g (slV xs.length x)) (fun x w' => RdI w' (slV xs.length x) xs) :=
  CnX.of (h.out.mono fun e w' he => by
    obtain ⟨v, rfl, hf, hr⟩ := he
    obtain ⟨hl, ad, cap, rfl, h2⟩ := hr
    exact ⟨(ad, cap), rfl, hf, ⟨hl, ad, cap, rfl, h2⟩⟩)
theorem leaveT_sx (t : Tr) (hv : VT t) (sl pl ll tl : Value) (w : World) (hr : RdTr w t sl pl ll tl) :
    CnX Tryz.prog 37 #[trV t sl pl ll tl] w [] (fun x : Option Addr × Nat => .tuple #[slV (leaveTL t).length x, vi 0]) (fun x w' => RdI w' (slV (leaveTL t).length x) (leaveTL t)) :=
  slicedX (leaveT_ok t hv sl pl ll tl w hr)
theorem show_sl (t : Tr) (hn : NT t) (he : askedE t = 0) (sl pl ll tl : Value) (w : World) (hr : RdTr w t sl pl ll tl) :
    CnX Tryz.prog 51 #[trV t sl pl ll tl] w [] (fun y : (Option Addr × Nat) × (Option Addr × Nat) => .tuple #[.agg #[slV t.parts.length y.1, slV t.liquids.length y.2], vi 0]) (fun y w' => RdI w' (slV t.parts.length y.1) (errL t (e0L t)) ∧ RdI w' (slV t.liquids.length y.2) (dlN t (e0L t) [] t.liquids.length)) :=
  CnX.of ((show_ok t hn he sl pl ll tl w hr).out.mono fun e w' he => by
    obtain ⟨⟨y1, y2⟩, rfl, hf, h1, h2⟩ := he
    have h2' := h2
    obtain ⟨_, ad, cap, e2, _⟩ := h2
    rw [dlN_len] at e2
    dsimp only at e2 h1 h2' ⊢
    rw [e2] at h2' ⊢
    exact ⟨(y1, (ad, cap)), rfl, hf, h1, h2'⟩)
end Go.Sp
/-
  The reference's smallest set of tests: what it is; its walk.
-/
namespace Go.Sp
open Go Go.Proofs
def rlStep (t : Tr) (best : List Int) (n : Nat) : List Int := if lessF (bitsL n) best = true ∧ fitsT t (bitsL n) = true then bitsL n else best
def rlN (t : Tr) (n : Nat) : List Int := (List.range n).foldl (rlStep t) (bitsL (2 ^ t.tests.length - 1))
theorem rlN_succ (t : Tr) (n : Nat) : rlN t (n + 1) = rlStep t (rlN t n) n := by simp [rlN, List.range_succ]
theorem rlN_len (t : Tr) (n : Nat) : (rlN t n).length ≤ 16 := by
  induction n with
  | zero => exact bitsL_len _
  | succ n ih => rw [rlN_succ]; unfold rlStep; split; exact bitsL_len _; exact ih
theorem rlN_yes {t : Tr} {n : Nat} (h1 : lessF (bitsL n) (rlN t n) = true) (h2 : fitsT t (bitsL n) = true) : rlN t (n + 1) = bitsL n := by
  rw [rlN_succ]; exact if_pos ⟨h1, h2⟩
theorem rlN_no1 {t : Tr} {n : Nat} (h1 : lessF (bitsL n) (rlN t n) = false) : rlN t (n + 1) = rlN t n := by
  rw [rlN_succ]; exact if_neg (fun h => by rw [h1] at h; exact Bool.noConfusion h.1)
theorem rlN_no2 {t : Tr} {n : Nat} (h2 : fitsT t (bitsL n) = false) : rlN t (n + 1) = rlN t n := by
  rw [rlN_succ]; exact if_neg (fun h => by rw [h2] at h; exact Bool.noConfusion h.2)
theorem rl_least {t : Tr} (hv : VT t) : rlN t (2 ^ t.tests.length) = leaveTL t := by
  have h6 := hv.t6
  have hfull : fitsT t (bitsL ((2 ^ t.tests.length - 1 : Nat) : Int)) = true := fits_full hv (fun i hi => by rw [bitsL_iff (by omega), Nat.testBit_two_pow_sub_one]; exact decide_eq_true hi)
  have hpos : 0 < 2 ^ t.tests.length := Nat.two_pow_pos _
  have key : ∀ n : Nat, n ≤ 2 ^ t.tests.length → (∃ m : Nat, m < 2 ^ t.tests.length ∧ rlN t n = bitsL m) ∧ fitsT t (rlN t n) = true ∧ ∀ m : Nat, m < n → fitsT t (bitsL m) = true → lessF (bitsL m) (rlN t n) = false := by
    intro n
    induction n with
    | zero =>
      intro _
      have e : rlN t 0 = bitsL ((2 ^ t.tests.length - 1 : Nat) : Int) := by
        show bitsL (2 ^ t.tests.length - 1) = _
        congr 1
        have : ((2 ^ t.tests.length : Nat) : Int) = 2 ^ t.tests.length := by simp
        omega
      exact ⟨⟨2 ^ t.tests.length - 1, by omega, e⟩, by rw [e]; exact hfull, fun m hm => absurd hm (Nat.not_lt_zero m)⟩
    | succ n ih =>
      intro hn
      obtain ⟨g1, g2, g3⟩ := ih (by omega)
      rw [rlN_succ]
      unfold rlStep
      by_cases hc : lessF (bitsL n) (rlN t n) = true ∧ fitsT t (bitsL n) = true
      · rw [if_pos hc]
        refine ⟨⟨n, by omega, rfl⟩, hc.2, fun m hmn hp => ?_⟩
        rcases Nat.lt_succ_iff_lt_or_eq.1 hmn with h | rfl
        · cases hh : lessF (bitsL m) (bitsL n)
          · rfl
          · have := g3 m h hp
            rw [less_trans hh hc.1] at this; cases this
        · exact less_irr _
      · rw [if_neg hc]
        refine ⟨g1, g2, fun m hmn hp => ?_⟩
        rcases Nat.lt_succ_iff_lt_or_eq.1 hmn with h | rfl
        · exact g3 m h hp
        · cases hh : lessF (bitsL m) (rlN t m)
          · rfl
          · exact absurd ⟨hh, hp⟩ hc
  obtain ⟨g1, g2, g3⟩ := key (2 ^ t.tests.length) (Nat.le_refl _)
  exact (fold_least (N := t.tests.length) (by omega) g1 g2 g3).uniq (leaveTL_some hv).2
theorem ways_fits {t : Tr} (hv : VT t) {out : Nat} (ho : out < 2 ^ t.tests.length) : ((waysN t (everyL t).length).any fun x => okW' x out) = fitsT t (bitsL (out : Int)) := by
  rw [ways_any hv ho, Bool.eq_iff_iff, fitsT_iffT, List.any_eq_true]
  exact ⟨fun ⟨e, h1, h2⟩ => ⟨e, mem_truths.2 ⟨h1, h2⟩⟩, fun ⟨e, h⟩ => ⟨e, mem_truths.1 h⟩⟩
theorem refLeaveT_c (t : Tr) (hv : VT t) (h14 : ∀ i : Nat, i < t.liquids.length → (lqAt t i).2 - (lqAt t i).1 ≤ 14) (sl pl ll tl lv : Value) (w : World) (hr : RdTr w t sl pl ll tl) (hW : RdWs w lv (waysN t (everyL t).length)) :
    CnX Tryz.prog 56 #[trV t sl pl ll tl, lv] w [] (fun v : Value => v) (fun v w' => RdI w' v (leaveTL t)) := by
  have hr0 := hr
  have h6 := hv.t6
  have hok := ways_ok hv h14
  have hp : 1 ≤ (2 : Int) ^ (t.tests.length : Int).toNat ∧ (2 : Int) ^ (t.tests.length : Int).toNat ≤ 64 := pow_bd (m := 6) (by omega)
  have hpn : ((2 ^ t.tests.length : Nat) : Int) = (2 : Int) ^ (t.tests.length : Int).toNat := by rw [Int.toNat_natCast]; simp
  obtain ⟨at', ct, _, _, rfl, _, _⟩ := hr.ts.open
  obtain ⟨aw, cw, _, _, _, rfl, _, _, _⟩ := hW.open
  rw [← rl_least hv]
  refine cnx0 (vs := [_, _]) Tryz.func56 rfl rfl ?_
  all_goals refine tc_seq fun K1 hK1 => ?_; refine tc_region ?_; refine tl_e (e_box rfl rfl rfl) rfl (fun b2 _ => ?_); refine tl_q (y_assign rfl) rfl ?_; refine tl_nil ?_; ((refine hK1 ?_; try (clear hK1; clear K1)))
  all_goals refine tc_seq fun K2 hK2 => ?_
  refine tc_lay [] (List.nil_sublist _) (fun w1 hw1 => ?_)
  have hb2 := hw1.heap (b2, _) (HM.mem (by repeat constructor))
  all_goals refine tc_region ?_; refine tl_q (y_field rfl) rfl ?_; refine tl_q (y_load1f rfl hb2 MI.m (by simp) (by rfl)) rfl ?_; refine tl_q (y_len rfl) rfl ?_; ((refine tl_q (y_conv rfl (by simp only [IntKind.wrap, IntKind.bits, IntKind.signed, Bool.false_and, Bool.true_and, Bool.false_eq_true, if_false, decide_eq_true_eq]; omega)) rfl ?_))
  all_goals refine tl_q (y_shl rfl rfl (by omega) (by omega)) rfl ?_; refine tl_q (y_sub rfl rfl (by omega)) rfl ?_; refine tl_e (e_callX rfl (.cons rfl .nil) (fun w' _ => bits_c _ (by omega) w')) rfl (fun y hy => ?_); refine tl_q (y_assign rfl) rfl ?_; refine tl_nil ?_; ((refine hK2 ?_; try (clear hK2; clear K2)))
  all_goals refine tc_seq fun K3 hK3 => ?_; refine tc_seq fun K4 hK4 => ?_; refine tc_region ?_; refine tl_q (y_assign rfl) rfl ?_; refine tl_nil ?_; ((refine hK4 ?_; try (clear hK4; clear K4)))
  all_goals refine tc_block ?_
  all_goals (
   refine tc_loop (fun p : Nat × Value × World => p.1 ≤ 2 ^ t.tests.length ∧ RdI p.2.2 p.2.1 (rlN t p.1)) (fun p => [(1, .slice aw (waysN t (everyL t).length).length cw), (2, ptr b2), (5, p.2.1), (6, vi p.1)]) (fun p => [(p.2.2, []), (w1, []), (w, [])]) (fun _ => []) (fun p => 2 ^ t.tests.length - p.1) ?_ ?_
   · refine tk_start (0, y.1, y.2) ⟨Nat.zero_le _, ?_⟩ (.cons rfl (.cons rfl (.cons rfl (.cons rfl .nil)))) (fun _ h => h)
     have h1 := hy.1
     rw [show (1 : Int) * 2 ^ (t.tests.length : Int).toNat - 1 = 2 ^ t.tests.length - 1 from by rw [Int.toNat_natCast, Int.one_mul]] at h1
     exact h1
   · rintro ⟨n, v, wv⟩ ⟨hn, hv'⟩
     dsimp only at hn hv' ⊢
     have hlen := rlN_len t n
     all_goals refine tc_seq fun K5 hK5 => ?_; refine tc_seq fun K6 hK6 => ?_; refine tc_region ?_; refine tl_q (y_move rfl) rfl ?_; refine tl_q (y_field rfl) rfl ?_; refine tl_q (y_load1f rfl hb2 MI.m (by simp) (by rfl)) rfl ?_; refine tl_q (y_len rfl) rfl ?_; ((refine tl_q (y_conv rfl (by simp only [IntKind.wrap, IntKind.bits, IntKind.signed, Bool.false_and, Bool.true_and, Bool.false_eq_true, if_false, decide_eq_true_eq]; omega)) rfl ?_))
     all_goals refine tl_q (y_shl rfl rfl (by omega) (by omega)) rfl ?_; refine tl_q (y_lss rfl rfl) rfl ?_; refine tl_nil ?_; ((refine hK6 ?_; try (clear hK6; clear K6)))
     all_goals (
      refine tc_cond rfl (fun hc => ?_) (fun hc => ?_)
      · try simp only [qn1, qn2, qn3, qn4, qn5, qn6, qn7, qn8] at hc
        all_goals refine tc_skip ?_; ((refine hK5 ?_; try (clear hK5; clear K5)))
        all_goals refine tc_seq fun K7 hK7 => ?_; refine tc_block ?_; refine tc_seq fun K8 hK8 => ?_; refine tc_region ?_; refine tl_q (y_move rfl) rfl ?_; refine tl_e (e_callX rfl (.cons rfl .nil) (fun w' _ => bits_c _ (by omega) w')) rfl (fun x hx => ?_); refine tl_q (y_assign rfl) rfl ?_; refine tl_nil ?_; ((refine hK8 ?_; try (clear hK8; clear K8)))
        all_goals refine tc_seq fun K9 hK9 => ?_; ((rcases hF : fitsT t (bitsL (n : Int)) <;> rcases hLs : lessF (bitsL (n : Int)) (rlN t n)))
        all_goals refine tc_region ?_; refine tl_q (y_move rfl) rfl ?_; refine tl_q (y_move rfl) rfl ?_; (refine tl_e (e_callV rfl (.cons rfl (.cons rfl .nil)) (fun w' hw' => by have h := less_c _ _ (by have := bitsL_len n; omega) (by omega) _ _ w' (hx.1.fr (hw'.fr (by simp))) (hv'.fr (hw'.fr (by simp))); rw [hLs] at h; exact h)) rfl (fun _ _ => ?_))
        all_goals refine tl_q (y_move rfl) rfl ?_; (first | refine tl_sk rfl rfl rfl rfl ?_ | refine tl_qg rfl rfl (y_move rfl) rfl ?_); (first | refine tl_sk rfl rfl rfl rfl ?_ | refine tl_qg rfl rfl (y_move rfl) rfl ?_); ((first | refine tl_sk rfl rfl rfl rfl ?_ | refine tl_eg rfl rfl rfl (e_callV rfl (.cons rfl (.cons rfl .nil)) (fun w' hw' => by have h := hasW_c (waysN t (everyL t).length) hok n (by omega) _ w' (hW.fr (hw'.fr (w0 := w) (S := []) (by simp))); rw [ways_fits hv (by omega), hF] at h; exact h)) (fun _ _ => ?_)))
        all_goals (first | refine tl_q (y_pick_t rfl rfl) rfl ?_ | refine tl_q (y_pick_f rfl rfl) rfl ?_); refine tl_nil ?_; ((refine hK9 ?_; try (clear hK9; clear K9)))
        all_goals (
         refine tc_cond rfl (fun hc => ?_) (fun hc => ?_)
         · try simp only [qn1, qn2, qn3, qn4, qn5, qn6, qn7, qn8] at hc
           all_goals ((first | (exfalso; with_reducible exact bft hc) | skip))
           all_goals refine tc_region ?_; refine tl_q (y_move rfl) rfl ?_; refine tl_q (y_assign rfl) rfl ?_; refine tl_nil ?_; ((refine hK7 ?_; try (clear hK7; clear K7)))
           all_goals refine tc_region ?_; refine tl_q (y_move rfl) rfl ?_; refine tl_q (y_add rfl rfl (by omega)) rfl ?_; refine tl_q (y_assign rfl) rfl ?_; refine tl_nil ?_
           all_goals (
            first
            | (have hst := rlN_yes hLs hF
               exact tk_round (n + 1, x.1, x.2) ⟨by omega, by show RdI x.2 x.1 (rlN t (n + 1)); rw [hst]; exact hx.1⟩ (by omega) (.cons rfl (.cons rfl (.cons rfl (.cons rfl .nil)))) (fun _ h => h.sub (fun β hβ => by simp at hβ ⊢; rcases hβ with rfl | rfl | rfl <;> simp) SB.s))
            | (first
               | have hst := rlN_no1 hLs
               | have hst := rlN_no2 hF
               exact tk_round (n + 1, v, wv) ⟨by omega, by show RdI wv v (rlN t (n + 1)); rw [hst]; exact hv'⟩ (by omega) (.cons rfl (.cons rfl (.cons rfl (.cons rfl .nil)))) (fun _ h => h.sub (fun β hβ => by simp at hβ ⊢; rcases hβ with rfl | rfl | rfl <;> simp) SB.s)))
         · try simp only [qn1, qn2, qn3, qn4, qn5, qn6, qn7, qn8] at hc
           all_goals ((first | (exfalso; with_reducible exact btf hc) | skip))
           all_goals refine tc_skip ?_; ((refine hK7 ?_; try (clear hK7; clear K7)))
           all_goals refine tc_region ?_; refine tl_q (y_move rfl) rfl ?_; refine tl_q (y_add rfl rfl (by omega)) rfl ?_; refine tl_q (y_assign rfl) rfl ?_; refine tl_nil ?_
           all_goals (
            first
            | (have hst := rlN_yes hLs hF
               exact tk_round (n + 1, x.1, x.2) ⟨by omega, by show RdI x.2 x.1 (rlN t (n + 1)); rw [hst]; exact hx.1⟩ (by omega) (.cons rfl (.cons rfl (.cons rfl (.cons rfl .nil)))) (fun _ h => h.sub (fun β hβ => by simp at hβ ⊢; rcases hβ with rfl | rfl | rfl <;> simp) SB.s))
            | (first
               | have hst := rlN_no1 hLs
               | have hst := rlN_no2 hF
               exact tk_round (n + 1, v, wv) ⟨by omega, by show RdI wv v (rlN t (n + 1)); rw [hst]; exact hv'⟩ (by omega) (.cons rfl (.cons rfl (.cons rfl (.cons rfl .nil)))) (fun _ h => h.sub (fun β hβ => by simp at hβ ⊢; rcases hβ with rfl | rfl | rfl <;> simp) SB.s))))
      · try simp only [qn1, qn2, qn3, qn4, qn5, qn6, qn7, qn8] at hc
        all_goals refine tc_exit ?_; ((refine hK3 ?_; try (clear hK3; clear K3)))
        all_goals refine tc_seq fun K10 hK10 => ?_; refine tc_region ?_; refine tl_q (y_move rfl) rfl ?_; refine tl_q (y_assign rfl) rfl ?_; refine tl_nil ?_; ((refine hK10 ?_; try (clear hK10; clear K10)))
        all_goals refine tc_ret ?_; (repeat (first | refine tk_then_ret ?_))
        all_goals (refine tk_ret rfl rfl (.cons (.tmp rfl) .nil) ?_)
        all_goals (
         have hnn : n = 2 ^ t.tests.length := by omega
         subst hnn
         exact fun w' hw' => ⟨v, rfl, hw'.fr (w0 := w) (S := []) (by simp), hv'.fr (hw'.fr (by simp))⟩)))
end Go.Sp
/-
  Helpers of the statements about trials: what is picked and tried, by words.
-/
namespace Go.Sp
open Go Go.Proofs
end Go.Sp
/-
  Helpers of the statements about trials: what is tried, by words.
-/
namespace Go.Sp
open Go Go.Proofs
theorem RdTr.tests {w : World} {t : Tr} {sl pl ll tl tl2 : Value} {ts : List E3} (h : RdTr w t sl pl ll tl) (h2 : RdT w tl2 ts) : RdTr w { t with tests := ts } sl pl ll tl2 := ⟨h.ws, h.ps, h.ls, h2⟩
end Go.Sp
/-
  What several statements about trials use: answers as slices; appending to slices that may be long.
-/
namespace Go.Sp
open Go Go.Proofs
end Go.Sp
/-
  TrialTruth: the law's function returns true.
-/
namespace Go.Sp
open Go Go.Proofs
theorem truthC_c (xe xd : List Int) (n1 n2 : Nat) (h1 : xe.length = n1) (h2 : xd.length = n2) (g1 : n1 ≤ 1000) (g2 : n2 ≤ 1000) (y1 y2 : Option Addr × Nat) (w : World) (hE : RdI w (slV n1 y1) xe) (hD : RdI w (slV n2 y2) xd) :
    CnX Tryz.prog 53 #[.agg #[slV n1 y1, slV n2 y2]] w [] (fun x : (Option Addr × Nat) × (Option Addr × Nat) => .agg #[slV n1 x.1, slV n2 x.2]) (fun x w' => RdI w' (slV n1 x.1) xe ∧ RdI w' (slV n2 x.2) xd) := by
  subst h1; subst h2
  refine cnx0 (vs := [_]) Tryz.func53 rfl rfl ?_
  all_goals refine tc_seq fun K1 hK1 => ?_; refine tc_region ?_; refine tl_e (e_box rfl rfl rfl) rfl (fun b1 _ => ?_); refine tl_e (e_allocN rfl) rfl (fun b2 _ => ?_); refine tl_nil ?_; ((refine hK1 ?_; try (clear hK1; clear K1)))
  all_goals refine tc_seq fun K2 hK2 => ?_; refine tc_drawS ([(b1, .cells #[slV xe.length y1, slV xd.length y2] 92 (0, 0))]) (by kernel_rfl) ?_; refine tx_p 0 rfl (by kernel_rfl) (y_field rfl) rfl (fun _ _ _ h => h) (fun _ h => h.subl SB.s SB.s) ?_; refine tx_qS 1 rfl (by kernel_rfl) (y_load1 rfl (by repeat constructor) (by rfl)) rfl (fun _ _ _ h => h) (fun _ h => h.subl SB.s SB.s) ?_; refine tx_p 3 rfl (by kernel_rfl) (y_field rfl) rfl (fun _ _ _ h => h) (fun _ h => h.subl SB.s SB.s) ?_; refine tx_qS 4 rfl (by kernel_rfl) (y_load1 rfl (by repeat constructor) (by rfl)) rfl (fun _ _ _ h => h) (fun _ h => h.subl SB.s SB.s) ?_; ((refine tx_single 2 (by kernel_rfl) (to_e rfl rfl (e_callX rfl (.cons rfl .nil) (fun w' hw' => ((list9_c xe g1 _ w' (hE.fr (hw'.fr (w0 := w) (S := []) MI.m))).imp (val' := slV xe.length) (p' := fun x w2 => RdI w2 (slV xe.length x) xe ∧ sepS (slV xe.length x) [b2, b1]) id (fun _ => rfl) (fun _ h => h) (fun x w2 _ h => ⟨h.1, fun p m c e hb => by have q1 := h.2 p m c e; have q2 := hw'.lt (HM.mem (b := b1) (by repeat constructor)); have q3 := hw'.lt (HM.mem (b := b2) (by repeat constructor)); simp only [List.mem_cons, List.not_mem_nil, or_false] at hb; omega⟩)))) (.inr ⟨fun _ _ h => h.subl SB.s SB.s, fun _ h => h⟩) (fun x hx => ?_))))
  all_goals ((refine tx_single 5 (by kernel_rfl) (to_e rfl rfl (e_callX rfl (.cons rfl .nil) (fun w' hw' => ((list9_c xd g2 _ w' (hD.fr (hw'.fr (w0 := w) (S := []) MI.m))).imp (val' := slV xd.length) (p' := fun x w2 => RdI w2 (slV xd.length x) xd ∧ sepS (slV xd.length x) [b2, b1]) id (fun _ => rfl) (fun _ h => h) (fun x w2 _ h => ⟨h.1, fun p m c e hb => by have q1 := h.2 p m c e; have q2 := hw'.lt (HM.mem (b := b1) (by repeat constructor)); have q3 := hw'.lt (HM.mem (b := b2) (by repeat constructor)); simp only [List.mem_cons, List.not_mem_nil, or_false] at hb; omega⟩)))) (.inr ⟨fun _ _ h => h.subl SB.s SB.s, fun _ h => h⟩) (fun y hy => ?_))))
  all_goals (refine tx_p 6 rfl (by kernel_rfl) (y_build_g (by repeat constructor)) rfl (fun _ _ _ h => h) (fun _ h => h.subl SB.s SB.s) ?_); ((refine tx_single 7 (by kernel_rfl) (to_e (S' := HG [] []) rfl rfl (e_storeW (cs := #[slV xe.length x.1, slV xd.length y.1]) rfl rfl (by repeat constructor) (by rfl) (by rfl) (by intro v hv; simp at hv; rcases hv with rfl | rfl <;> rfl)) (.inl (by kernel_rfl)) (fun _ _ => ?_))))
  all_goals refine tx_done (by kernel_rfl) ?_; ((refine hK2 ?_; try (clear hK2; clear K2)))
  all_goals refine tc_ret ?_; (repeat (first | refine tk_then_ret ?_))
  all_goals (refine tk_ret rfl rfl (.cons (.agg inferInstance rfl (by repeat constructor) (by rfl)) .nil) ?_)
  all_goals (
   exact fun w' hw' => ⟨(x.1, y.1), rfl, hw'.fr (w0 := w) (S := []) MI.m, Reads.frS hx.1.1 (hw'.fr (w0 := x.2) (S := [b2, b1]) MI.m) hx.1.2, Reads.frS hy.1.1 (hw'.fr (w0 := y.2) (S := [b2, b1]) MI.m) hy.1.2⟩)
end Go.Sp
/-
  The reference of trials: which truths are one; a truth turned back.
-/
namespace Go.Sp
open Go Go.Proofs
theorem backC_c (xe xd : List Int) (n1 n2 : Nat) (h1 : xe.length = n1) (h2 : xd.length = n2) (g1 : n1 ≤ 1000) (g2 : n2 ≤ 1000) (y1 y2 : Option Addr × Nat) (w : World) (hE : RdI w (slV n1 y1) xe) (hD : RdI w (slV n2 y2) xd) :
    CnX Tryz.prog 55 #[.agg #[slV n1 y1, slV n2 y2]] w [] (fun x : (Option Addr × Nat) × (Option Addr × Nat) => .agg #[slV n1 x.1, slV n2 x.2]) (fun x w' => RdI w' (slV n1 x.1) xe ∧ RdI w' (slV n2 x.2) xd) := by
  subst h1; subst h2
  refine cnx0 (vs := [_]) Tryz.func55 rfl rfl ?_
  all_goals refine tc_seq fun K1 hK1 => ?_; refine tc_region ?_; refine tl_e (e_box rfl rfl rfl) rfl (fun b1 _ => ?_); refine tl_e (e_allocN rfl) rfl (fun b2 _ => ?_); refine tl_nil ?_; ((refine hK1 ?_; try (clear hK1; clear K1)))
  all_goals refine tc_seq fun K2 hK2 => ?_; refine tc_drawS ([(b1, .cells #[slV xe.length y1, slV xd.length y2] 106 (0, 0))]) (by kernel_rfl) ?_; refine tx_p 0 rfl (by kernel_rfl) (y_field rfl) rfl (fun _ _ _ h => h) (fun _ h => h.subl SB.s SB.s) ?_; refine tx_qS 1 rfl (by kernel_rfl) (y_load1 rfl (by repeat constructor) (by rfl)) rfl (fun _ _ _ h => h) (fun _ h => h.subl SB.s SB.s) ?_; refine tx_p 3 rfl (by kernel_rfl) (y_field rfl) rfl (fun _ _ _ h => h) (fun _ h => h.subl SB.s SB.s) ?_; refine tx_qS 4 rfl (by kernel_rfl) (y_load1 rfl (by repeat constructor) (by rfl)) rfl (fun _ _ _ h => h) (fun _ h => h.subl SB.s SB.s) ?_; ((refine tx_single 2 (by kernel_rfl) (to_e rfl rfl (e_callX rfl (.cons rfl .nil) (fun w' hw' => ((list9_c xe g1 _ w' (hE.fr (hw'.fr (w0 := w) (S := []) MI.m))).imp (val' := slV xe.length) (p' := fun x w2 => RdI w2 (slV xe.length x) xe ∧ sepS (slV xe.length x) [b2, b1]) id (fun _ => rfl) (fun _ h => h) (fun x w2 _ h => ⟨h.1, fun p m c e hb => by have q1 := h.2 p m c e; have q2 := hw'.lt (HM.mem (b := b1) (by repeat constructor)); have q3 := hw'.lt (HM.mem (b := b2) (by repeat constructor)); simp only [List.mem_cons, List.not_mem_nil, or_false] at hb; omega⟩)))) (.inr ⟨fun _ _ h => h.subl SB.s SB.s, fun _ h => h⟩) (fun x hx => ?_))))
  all_goals ((refine tx_single 5 (by kernel_rfl) (to_e rfl rfl (e_callX rfl (.cons rfl .nil) (fun w' hw' => ((list9_c xd g2 _ w' (hD.fr (hw'.fr (w0 := w) (S := []) MI.m))).imp (val' := slV xd.length) (p' := fun x w2 => RdI w2 (slV xd.length x) xd ∧ sepS (slV xd.length x) [b2, b1]) id (fun _ => rfl) (fun _ h => h) (fun x w2 _ h => ⟨h.1, fun p m c e hb => by have q1 := h.2 p m c e; have q2 := hw'.lt (HM.mem (b := b1) (by repeat constructor)); have q3 := hw'.lt (HM.mem (b := b2) (by repeat constructor)); simp only [List.mem_cons, List.not_mem_nil, or_false] at hb; omega⟩)))) (.inr ⟨fun _ _ h => h.subl SB.s SB.s, fun _ h => h⟩) (fun y hy => ?_))))
  all_goals (refine tx_p 6 rfl (by kernel_rfl) (y_build_g (by repeat constructor)) rfl (fun _ _ _ h => h) (fun _ h => h.subl SB.s SB.s) ?_); ((refine tx_single 7 (by kernel_rfl) (to_e (S' := HG [] []) rfl rfl (e_storeW (cs := #[slV xe.length x.1, slV xd.length y.1]) rfl rfl (by repeat constructor) (by rfl) (by rfl) (by intro v hv; simp at hv; rcases hv with rfl | rfl <;> rfl)) (.inl (by kernel_rfl)) (fun _ _ => ?_))))
  all_goals refine tx_done (by kernel_rfl) ?_; ((refine hK2 ?_; try (clear hK2; clear K2)))
  all_goals refine tc_ret ?_; (repeat (first | refine tk_then_ret ?_))
  all_goals (refine tk_ret rfl rfl (.cons (.agg inferInstance rfl (by repeat constructor) (by rfl)) .nil) ?_)
  all_goals (
   exact fun w' hw' => ⟨(x.1, y.1), rfl, hw'.fr (w0 := w) (S := []) MI.m, Reads.frS hx.1.1 (hw'.fr (w0 := x.2) (S := [b2, b1]) MI.m) hx.1.2, Reads.frS hy.1.1 (hw'.fr (w0 := y.2) (S := [b2, b1]) MI.m) hy.1.2⟩)
/-- Whether lists of errors and of densities are a truth; the trial is valid. -/
def isT (t : Tr) (xe xd : List Int) : Bool := decide (xd.length = t.liquids.length) && ((errB t xe && inN t xd t.liquids.length) && t.tests.all (prP t (er3 xe) xd))
theorem isT_prove {t : Tr} (h : chkT t = 0) (xe xd : List Int) : proveB t xe xd = isT t xe xd := by
  unfold proveB isT
  rw [decide_eq_true h, Bool.true_and]
theorem isT_1 {t : Tr} {xe xd : List Int} (h : errB t xe = false) : isT t xe xd = false := by
  unfold isT; rw [h]; simp
theorem isT_2 {t : Tr} {xe xd : List Int} (h : ¬ (xd.length : Int) = t.liquids.length) : isT t xe xd = false := by
  unfold isT; rw [decide_eq_false (show ¬ xd.length = t.liquids.length by omega)]; rfl
theorem isT_3 {t : Tr} {xe xd : List Int} (h : inN t xd t.liquids.length = false) : isT t xe xd = false := by
  unfold isT; rw [h]; simp
theorem isT_4 {t : Tr} {xe xd : List Int} (h : t.tests.all (prP t (er3 xe) xd) = false) : isT t xe xd = false := by
  unfold isT; rw [h]; simp
theorem isT_5 {t : Tr} {xe xd : List Int} (h1 : (xd.length : Int) = t.liquids.length) (h2 : errB t xe = true) (h3 : inN t xd t.liquids.length = true) (h4 : t.tests.all (prP t (er3 xe) xd) = true) : isT t xe xd = true := by
  unfold isT; rw [h2, h3, h4, decide_eq_true (by omega)]; rfl
theorem inN_no {t : Tr} {xd : List Int} {i : Nat} (hi : i < t.liquids.length) (h : ¬ ((lqAt t i).1 ≤ xd.getD i 0 ∧ xd.getD i 0 ≤ (lqAt t i).2)) : inN t xd t.liquids.length = false := by
  unfold inN
  rw [List.all_eq_false]
  exact ⟨i, List.mem_range.2 hi, by rw [decide_eq_true_eq]; exact h⟩
theorem inN_at {t : Tr} {xd : List Int} {i : Nat} (hi : i < t.liquids.length) (h : inN t xd t.liquids.length = true) : (lqAt t i).1 ≤ xd.getD i 0 ∧ xd.getD i 0 ≤ (lqAt t i).2 := by
  unfold inN at h
  exact of_decide_eq_true (List.all_eq_true.1 h i (List.mem_range.2 hi))
end Go.Sp
/-
  The reference of trials: which truths are one, walked; the error of the smallest set.
-/
namespace Go.Sp
open Go Go.Proofs
theorem leave_noT (t : Tr) (hn : NT t) (h0 : ¬ chkT t = 0) (sl pl ll tl : Value) (w : World) (hr : RdTr w t sl pl ll tl) : CnV Tryz.prog 37 #[trV t sl pl ll tl] w (.tuple #[.slice none 0 0, vi (chkT t)]) := by
  have hr0 := hr
  refine cnv (vs := [_]) Tryz.func37 rfl rfl ?_
  all_goals refine tc_seq fun K1 hK1 => ?_; refine tc_region ?_; refine tl_e (e_box rfl rfl rfl) rfl (fun b1 _ => ?_); refine tl_q (y_assign rfl) rfl ?_; refine tl_q (y_assign rfl) rfl ?_; refine tl_nil ?_; ((refine hK1 ?_; try (clear hK1; clear K1)))
  all_goals refine tc_seq fun K2 hK2 => ?_; refine tc_seq fun K3 hK3 => ?_; refine tc_region ?_; refine tl_q (y_loadW rfl (by repeat constructor) (by rfl)) rfl ?_; refine tl_e (e_callV rfl (.cons rfl .nil) (fun w' hw' => checkTrial_c t hn _ _ _ _ w' (hr0.fr (hw'.fr (by simp))))) rfl (fun _ _ => ?_); refine tl_q (y_assign rfl) rfl ?_; refine tl_nil ?_; ((refine hK3 ?_; try (clear hK3; clear K3)))
  all_goals refine tc_seq fun K4 hK4 => ?_; refine tc_region ?_; refine tl_q (y_move rfl) rfl ?_; refine tl_q (y_neq rfl rfl) rfl ?_; refine tl_nil ?_; ((refine hK4 ?_; try (clear hK4; clear K4)))
  all_goals (
   refine tc_cond rfl (fun hc => ?_) (fun hc => ?_)
   · try simp only [qn1, qn2, qn3, qn4, qn5, qn6, qn7, qn8] at hc
     all_goals refine tc_seq fun K5 hK5 => ?_; refine tc_region ?_; refine tl_q (y_move rfl) rfl ?_; refine tl_q (y_assign rfl) rfl ?_; refine tl_q (y_assign rfl) rfl ?_; refine tl_nil ?_; ((refine hK5 ?_; try (clear hK5; clear K5)))
     all_goals refine tc_ret ?_; (repeat (refine tk_then_ret ?_))
     all_goals (refine tk_ret rfl rfl (.cons (.tmp rfl) (.cons (.tmp rfl) .nil)) ?_)
     all_goals (
      refine fun w' hw' => ⟨rfl, hw'.fr (by simp)⟩)
   · try simp only [qn1, qn2, qn3, qn4, qn5, qn6, qn7, qn8] at hc
     all_goals ((exfalso; omega))
     all_goals (
      refine fun w' hw' => ⟨rfl, hw'.fr (by simp)⟩))
set_option maxHeartbeats 2000000 in
theorem isTruth_c (t : Tr) (hv : VT t) (xe xd : List Int) (he9 : (xe.length : Int) ≤ 9) (hd9 : (xd.length : Int) ≤ 9) (sl pl ll tl ev dv : Value) (w : World) (hr : RdTr w t sl pl ll tl) (hE : RdI w ev xe) (hD : RdI w dv xd) :
    CnV Tryz.prog 54 #[trV t sl pl ll tl, .agg #[ev, dv]] w (.bool (isT t xe xd)) := by
  have hr0 := hr
  have hE0 := hE
  have hl1 := hv.l1
  have hl3 := hv.l3
  have ht6 := hv.t6
  obtain ⟨aw, cw, _, _, rfl, _, _⟩ := hr.ws.open
  obtain ⟨ap, cp, _, _, rfl, _, _⟩ := hr.ps.open
  obtain ⟨aL, cL, bL, oL, rfl, hadL, hcL⟩ := hr.ls.open
  obtain ⟨at', ct, bT, oT, rfl, hadT, hcT⟩ := hr.ts.open
  obtain ⟨aE, cE, _, _, rfl, _, _⟩ := hE.open
  obtain ⟨aD, cD, bD, oD, rfl, hadD, hcD⟩ := hD.open
  have hadL' := hadL (by omega)
  refine cnv (vs := [_, _]) Tryz.func54 rfl rfl ?_
  all_goals refine tc_seq fun K1 hK1 => ?_; refine tc_region ?_; refine tl_e (e_box rfl rfl rfl) rfl (fun b2 _ => ?_); refine tl_e (e_box rfl rfl rfl) rfl (fun b3 _ => ?_); refine tl_q (y_assign rfl) rfl ?_; refine tl_nil ?_; ((refine hK1 ?_; try (clear hK1; clear K1)))
  all_goals refine tc_seq fun K2 hK2 => ?_; refine tc_seq fun K3 hK3 => ?_; rcases heb : errB t xe
  all_goals refine tc_region ?_; refine tl_q (y_loadW rfl (by repeat constructor) (by rfl)) rfl ?_; refine tl_q (y_field rfl) rfl ?_; refine tl_q (y_load1 rfl (by repeat constructor) (by rfl)) rfl ?_; (refine tl_e (e_callV rfl (.cons rfl (.cons rfl .nil)) (fun w' hw' => by have h := areErrors_c t hv xe (by omega) (.slice aw t.s.weights.length cw) (.slice ap t.parts.length cp) (.slice aL t.liquids.length cL) (.slice at' t.tests.length ct) (.slice aE xe.length cE) w' (hr0.fr (hw'.fr (w0 := w) (S := []) MI.m)).ps (hE0.fr (hw'.fr (w0 := w) (S := []) MI.m)); rw [heb] at h; exact h)) rfl (fun _ _ => ?_))
  all_goals (refine tl_q (y_not rfl) rfl ?_); refine tl_q (y_move rfl) rfl ?_; (first | refine tl_sk rfl rfl rfl rfl ?_ | refine tl_qg rfl rfl (y_field rfl) rfl ?_); (first | refine tl_sk rfl rfl rfl rfl ?_ | refine tl_qg rfl rfl (y_load1 rfl (by repeat constructor) (by rfl)) rfl ?_); (first | refine tl_sk rfl rfl rfl rfl ?_ | refine tl_qg rfl rfl (y_len rfl) rfl ?_); (first | refine tl_sk rfl rfl rfl rfl ?_ | refine tl_qg rfl rfl (y_field rfl) rfl ?_); (first | refine tl_sk rfl rfl rfl rfl ?_ | refine tl_qg rfl rfl (y_load1 rfl (by repeat constructor) (by rfl)) rfl ?_); (first | refine tl_sk rfl rfl rfl rfl ?_ | refine tl_qg rfl rfl (y_len rfl) rfl ?_); (first | refine tl_sk rfl rfl rfl rfl ?_ | refine tl_qg rfl rfl (y_neq rfl rfl) rfl ?_); (first | refine tl_q (y_pick_t rfl rfl) rfl ?_ | refine tl_q (y_pick_f rfl rfl) rfl ?_); refine tl_nil ?_; ((refine hK3 ?_; try (clear hK3; clear K3)))
  all_goals (
   refine tc_cond rfl (fun hc => ?_) (fun hc => ?_)
   · try simp only [qn1, qn2, qn3, qn4, qn5, qn6, qn7, qn8] at hc
     all_goals refine tc_seq fun K4 hK4 => ?_; refine tc_region ?_; refine tl_q (y_assign rfl) rfl ?_; refine tl_nil ?_; ((refine hK4 ?_; try (clear hK4; clear K4)))
     all_goals refine tc_ret ?_; (repeat (refine tk_then_ret ?_))
     all_goals (refine tk_ret rfl rfl (.cons (.tmp rfl) .nil) ?_)
     all_goals (
      first
      | exact fun w' hw' => ⟨by rw [isT_1 heb]; rfl, hw'.fr (w0 := w) (S := []) MI.m⟩
      | exact fun w' hw' => ⟨by rw [isT_2 (by omega)]; rfl, hw'.fr (w0 := w) (S := []) MI.m⟩
      | exact fun w' hw' => ⟨by rw [isT_4 (by rw [← List.take_append_drop (j + 1) t.tests, List.all_append, hsu2, hpr, hrt, Bool.false_and])]; rfl, hw'.fr (w0 := w) (S := []) MI.m⟩
      | exact fun w' hw' => ⟨by rw [isT_5 (by omega) heb hin (by rw [show j = t.tests.length from by omega, List.take_length] at hall; exact hall)]; rfl, hw'.fr (w0 := w) (S := []) MI.m⟩
      | exact fun w' hw' => ⟨by rw [isT_3 (inN_no (i := i) (by omega) (by omega))]; rfl, hw'.fr (w0 := w) (S := []) MI.m⟩)
   · try simp only [qn1, qn2, qn3, qn4, qn5, qn6, qn7, qn8] at hc
     all_goals ((first | (exfalso; with_reducible exact btf hc) | skip))
     all_goals refine tc_skip ?_; ((refine hK2 ?_; try (clear hK2; clear K2)))
     all_goals refine tc_seq fun K5 hK5 => ?_; refine tc_seq fun K6 hK6 => ?_; refine tc_region ?_; refine tl_q (y_assign rfl) rfl ?_; refine tl_nil ?_; ((refine hK6 ?_; try (clear hK6; clear K6)))
     all_goals refine tc_block ?_
     all_goals (
      refine tc_loop (fun i : Nat => i ≤ t.liquids.length ∧ inN t xd i = true) (fun i => [(2, ptr b2), (3, ptr b3), (5, vi i)]) (fun _ => [(w, [])]) (fun _ => [(b3, .cells #[.slice aE xe.length cE, .slice aD xd.length cD] 92 (0, 0)), (b2, .cells (trV t (.slice aw t.s.weights.length cw) (.slice ap t.parts.length cp) (.slice aL t.liquids.length cL) (.slice at' t.tests.length ct)).cells 28 (0, 0))]) (fun i => t.liquids.length - i) ?_ ?_
      · exact tk_start 0 ⟨Nat.zero_le _, rfl⟩ (.cons rfl (.cons rfl (.cons rfl .nil))) (fun _ h => h.subl SB.s SB.s)
      · rintro i ⟨hi, hin⟩
        all_goals refine tc_seq fun K7 hK7 => ?_; refine tc_seq fun K8 hK8 => ?_; refine tc_region ?_; refine tl_q (y_move rfl) rfl ?_; refine tl_q (y_field rfl) rfl ?_; refine tl_q (y_load1 rfl (by repeat constructor) (by rfl)) rfl ?_; refine tl_q (y_len rfl) rfl ?_; refine tl_q (y_lss rfl rfl) rfl ?_; refine tl_nil ?_; ((refine hK8 ?_; try (clear hK8; clear K8)))
        all_goals (
         refine tc_cond rfl (fun hc => ?_) (fun hc => ?_)
         · try simp only [qn1, qn2, qn3, qn4, qn5, qn6, qn7, qn8] at hc
           all_goals refine tc_skip ?_; ((refine hK7 ?_; try (clear hK7; clear K7)))
           all_goals refine tc_seq fun K9 hK9 => ?_; refine tc_block ?_; refine tc_seq fun K10 hK10 => ?_; ((have hadD' := hadD (by omega); have hsu := inN_succ t xd i))
           all_goals refine tc_draw (by kernel_rfl) ?_; refine tx_p 0 rfl (by kernel_rfl) (y_field rfl) rfl (fun _ _ _ h => h) (fun _ h => h) ?_; refine tx_q 1 rfl (by kernel_rfl) (y_load1 rfl (by repeat constructor) (by rfl)) rfl (fun _ _ _ h => h) (fun _ h => h) ?_; refine tx_p 2 rfl (by kernel_rfl) (y_move rfl) rfl (fun _ _ _ h => h) (fun _ h => h) ?_; refine tx_p 3 rfl (by kernel_rfl) (y_index rfl rfl (by omega) hadD') rfl (fun _ _ _ h => h) (fun _ h => h) ?_; ((refine tx_q 4 rfl (by kernel_rfl) (y_load1o (v := vi (xd.getD i 0)) rfl (fun w' hw' => by rw [show Int.toNat (i : Int) * 1 = i from by omega]; exact hcD w' (hw'.fr (w0 := w) (S := []) MI.m) i (by omega))) rfl (fun _ _ _ h => h) (fun _ h => h) ?_))
           all_goals refine tx_p 5 rfl (by kernel_rfl) (y_field rfl) rfl (fun _ _ _ h => h) (fun _ h => h) ?_; refine tx_q 6 rfl (by kernel_rfl) (y_load1 rfl (by repeat constructor) (by rfl)) rfl (fun _ _ _ h => h) (fun _ h => h) ?_; refine tx_p 7 rfl (by kernel_rfl) (y_move rfl) rfl (fun _ _ _ h => h) (fun _ h => h) ?_; refine tx_p 8 rfl (by kernel_rfl) (y_index rfl rfl (by omega) hadL') rfl (fun _ _ _ h => h) (fun _ h => h) ?_; refine tx_p 9 rfl (by kernel_rfl) (y_field rfl) rfl (fun _ _ _ h => h) (fun _ h => h) ?_; ((refine tx_q 10 rfl (by kernel_rfl) (y_load1o (v := vi (lqAt t i).1) rfl (fun w' hw' => by rw [show Int.toNat (i : Int) * 2 = i * 2 from by omega]; exact (hcL w' [] (hw'.fr (w0 := w) (S := []) MI.m) (by simp) i (by omega)).get 0 _ rfl)) rfl (fun _ _ _ h => h) (fun _ h => h) ?_))
           all_goals refine tx_p 11 rfl (by kernel_rfl) (y_field rfl) rfl (fun _ _ _ h => h) (fun _ h => h) ?_; refine tx_q 12 rfl (by kernel_rfl) (y_load1 rfl (by repeat constructor) (by rfl)) rfl (fun _ _ _ h => h) (fun _ h => h) ?_; refine tx_p 13 rfl (by kernel_rfl) (y_move rfl) rfl (fun _ _ _ h => h) (fun _ h => h) ?_; refine tx_p 14 rfl (by kernel_rfl) (y_index rfl rfl (by omega) hadL') rfl (fun _ _ _ h => h) (fun _ h => h) ?_; refine tx_p 15 rfl (by kernel_rfl) (y_field rfl) rfl (fun _ _ _ h => h) (fun _ h => h) ?_; ((refine tx_q 16 rfl (by kernel_rfl) (y_load1o (v := vi (lqAt t i).2) rfl (fun w' hw' => by rw [show Int.toNat (i : Int) * 2 = i * 2 from by omega]; exact (hcL w' [] (hw'.fr (w0 := w) (S := []) MI.m) (by simp) i (by omega)).get 1 _ rfl)) rfl (fun _ _ _ h => h) (fun _ h => h) ?_))
           all_goals refine tx_e 17 rfl (by kernel_rfl) rfl (e_callV rfl (.cons rfl (.cons rfl (.cons rfl .nil))) (fun w' _ => in_c _ _ _ w')) (.inr fun _ _ h => h) (fun _ _ => ?_); refine tx_p 18 rfl (by kernel_rfl) (y_not_dec rfl) rfl (fun _ _ _ h => h) (fun _ h => h) ?_; refine tx_done (by kernel_rfl) ?_; ((refine hK10 ?_; try (clear hK10; clear K10)))
           all_goals (
            refine tc_cond rfl (fun hc => ?_) (fun hc => ?_)
            · try simp only [qn1, qn2, qn3, qn4, qn5, qn6, qn7, qn8] at hc
              all_goals refine tc_seq fun K11 hK11 => ?_; refine tc_region ?_; refine tl_q (y_assign rfl) rfl ?_; refine tl_nil ?_; ((refine hK11 ?_; try (clear hK11; clear K11)))
              all_goals refine tc_ret ?_; (repeat (first | refine tk_then_ret ?_ | refine tk_block_ret ?_))
              all_goals (refine tk_ret rfl rfl (.cons (.tmp rfl) .nil) ?_)
              all_goals (
               first
               | exact fun w' hw' => ⟨by rw [isT_1 heb]; rfl, hw'.fr (w0 := w) (S := []) MI.m⟩
               | exact fun w' hw' => ⟨by rw [isT_2 (by omega)]; rfl, hw'.fr (w0 := w) (S := []) MI.m⟩
               | exact fun w' hw' => ⟨by rw [isT_4 (by rw [← List.take_append_drop (j + 1) t.tests, List.all_append, hsu2, hpr, hrt, Bool.false_and])]; rfl, hw'.fr (w0 := w) (S := []) MI.m⟩
               | exact fun w' hw' => ⟨by rw [isT_5 (by omega) heb hin (by rw [show j = t.tests.length from by omega, List.take_length] at hall; exact hall)]; rfl, hw'.fr (w0 := w) (S := []) MI.m⟩
               | exact fun w' hw' => ⟨by rw [isT_3 (inN_no (i := i) (by omega) (by omega))]; rfl, hw'.fr (w0 := w) (S := []) MI.m⟩)
            · try simp only [qn1, qn2, qn3, qn4, qn5, qn6, qn7, qn8] at hc
              all_goals refine tc_skip ?_; ((refine hK9 ?_; try (clear hK9; clear K9)))
              all_goals refine tc_region ?_; refine tl_q (y_move rfl) rfl ?_; refine tl_q (y_add rfl rfl (by omega)) rfl ?_; refine tl_q (y_assign rfl) rfl ?_; refine tl_nil ?_
              all_goals (
               exact tk_round (i + 1) ⟨by omega, by rw [hsu, hin, decide_eq_true (by omega)]; rfl⟩ (by omega) (.cons rfl (.cons rfl (.cons rfl .nil))) (fun _ h => h.subl SB.s SB.s)))
         · try simp only [qn1, qn2, qn3, qn4, qn5, qn6, qn7, qn8] at hc
           all_goals refine tc_exit ?_; ((refine hK5 ?_; try (clear hK5; clear K5)))
           all_goals refine tc_seq fun K12 hK12 => ?_; refine tc_seq fun K13 hK13 => ?_; (have hiL : i = t.liquids.length := by omega)
           all_goals subst hiL
           all_goals refine tc_region ?_; refine tl_q (y_assign rfl) rfl ?_; refine tl_nil ?_; ((refine hK13 ?_; try (clear hK13; clear K13)))
           all_goals refine tc_block ?_
           all_goals (
            refine tc_loop (fun j : Nat => j ≤ t.tests.length ∧ (t.tests.take j).all (prP t (er3 xe) xd) = true) (fun j => [(2, ptr b2), (3, ptr b3), (6, vi j)]) (fun _ => [(w, [])]) (fun _ => [(b3, .cells #[.slice aE xe.length cE, .slice aD xd.length cD] 92 (0, 0)), (b2, .cells (trV t (.slice aw t.s.weights.length cw) (.slice ap t.parts.length cp) (.slice aL t.liquids.length cL) (.slice at' t.tests.length ct)).cells 28 (0, 0))]) (fun j => t.tests.length - j) ?_ ?_
            · exact tk_start 0 ⟨Nat.zero_le _, rfl⟩ (.cons rfl (.cons rfl (.cons rfl .nil))) (fun _ h => h.subl SB.s SB.s)
            · rintro j ⟨hj, hall⟩
              all_goals refine tc_seq fun K14 hK14 => ?_; refine tc_seq fun K15 hK15 => ?_; refine tc_region ?_; refine tl_q (y_move rfl) rfl ?_; refine tl_q (y_field rfl) rfl ?_; refine tl_q (y_load1 rfl (by repeat constructor) (by rfl)) rfl ?_; refine tl_q (y_len rfl) rfl ?_; refine tl_q (y_lss rfl rfl) rfl ?_; refine tl_nil ?_; ((refine hK15 ?_; try (clear hK15; clear K15)))
              all_goals (
               refine tc_cond rfl (fun hc => ?_) (fun hc => ?_)
               · try simp only [qn1, qn2, qn3, qn4, qn5, qn6, qn7, qn8] at hc
                 all_goals refine tc_skip ?_; ((refine hK14 ?_; try (clear hK14; clear K14)))
                 all_goals refine tc_seq fun K16 hK16 => ?_; refine tc_block ?_; refine tc_seq fun K17 hK17 => ?_; ((have hadT' := hadT (by omega); have hadD' := hadD (by omega); have hx2 := of_decide_eq_true (List.all_eq_true.1 hv.ts _ (getD_memE (show j < t.tests.length by omega)))))
                 all_goals ((have hsu2 := allT_succ (f := prP t (er3 xe) xd) (z := (0, 0, 0)) (show j < t.tests.length by omega); rw [hall, Bool.true_and] at hsu2))
                 all_goals (have hx1 := hx2.1)
                 all_goals (obtain ⟨q, hq⟩ : ∃ q : Nat, (t.tests.getD j (0, 0, 0)).1 = q := ⟨(t.tests.getD j (0, 0, 0)).1.toNat, by omega⟩)
                 all_goals ((have hdq := inN_at (i := q) (by omega) hin; have hlq := hv.lqb (show q < t.liquids.length by omega)))
                 all_goals ((have hpr : prP t (er3 xe) xd (t.tests.getD j (0, 0, 0)) = rightF t (er3 xe) (t.tests.getD j (0, 0, 0)) (xd.getD q 0) := by unfold prP; rw [hq]; rfl))
                 all_goals (rcases hrt : rightF t (er3 xe) (t.tests.getD j (0, 0, 0)) (xd.getD q 0))
                 all_goals refine tc_draw (by kernel_rfl) ?_; refine tx_q 0 rfl (by kernel_rfl) (y_loadW rfl (by repeat constructor) (by rfl)) rfl (fun _ _ _ h => h) (fun _ h => h) ?_; refine tx_p 1 rfl (by kernel_rfl) (y_field rfl) rfl (fun _ _ _ h => h) (fun _ h => h) ?_; refine tx_q 2 rfl (by kernel_rfl) (y_load1 rfl (by repeat constructor) (by rfl)) rfl (fun _ _ _ h => h) (fun _ h => h) ?_; refine tx_p 3 rfl (by kernel_rfl) (y_field rfl) rfl (fun _ _ _ h => h) (fun _ h => h) ?_; refine tx_q 4 rfl (by kernel_rfl) (y_load1 rfl (by repeat constructor) (by rfl)) rfl (fun _ _ _ h => h) (fun _ h => h) ?_; refine tx_p 5 rfl (by kernel_rfl) (y_move rfl) rfl (fun _ _ _ h => h) (fun _ h => h) ?_; refine tx_p 6 rfl (by kernel_rfl) (y_index rfl rfl (by omega) hadT') rfl (fun _ _ _ h => h) (fun _ h => h) ?_; refine tx_p 7 rfl (by kernel_rfl) (y_field rfl) rfl (fun _ _ _ h => h) (fun _ h => h) ?_; ((refine tx_q 8 rfl (by kernel_rfl) (y_load1o (v := vi (t.tests.getD j (0, 0, 0)).2.1) rfl (fun w' hw' => by rw [show Int.toNat (j : Int) * 3 = j * 3 from by omega]; exact (hcT w' [] (hw'.fr (w0 := w) (S := []) MI.m) (by simp) j (by omega)).get 1 _ rfl)) rfl (fun _ _ _ h => h) (fun _ h => h) ?_))
                 all_goals refine tx_p 9 rfl (by kernel_rfl) (y_field rfl) rfl (fun _ _ _ h => h) (fun _ h => h) ?_; refine tx_q 10 rfl (by kernel_rfl) (y_load1 rfl (by repeat constructor) (by rfl)) rfl (fun _ _ _ h => h) (fun _ h => h) ?_; refine tx_p 11 rfl (by kernel_rfl) (y_field rfl) rfl (fun _ _ _ h => h) (fun _ h => h) ?_; refine tx_q 12 rfl (by kernel_rfl) (y_load1 rfl (by repeat constructor) (by rfl)) rfl (fun _ _ _ h => h) (fun _ h => h) ?_; refine tx_p 13 rfl (by kernel_rfl) (y_move rfl) rfl (fun _ _ _ h => h) (fun _ h => h) ?_; refine tx_p 14 rfl (by kernel_rfl) (y_index rfl rfl (by omega) hadT') rfl (fun _ _ _ h => h) (fun _ h => h) ?_; refine tx_p 15 rfl (by kernel_rfl) (y_field rfl) rfl (fun _ _ _ h => h) (fun _ h => h) ?_; ((refine tx_q 16 rfl (by kernel_rfl) (y_load1o (v := vi (t.tests.getD j (0, 0, 0)).1) rfl (fun w' hw' => by rw [show Int.toNat (j : Int) * 3 = j * 3 from by omega]; exact (hcT w' [] (hw'.fr (w0 := w) (S := []) MI.m) (by simp) j (by omega)).get 0 _ rfl)) rfl (fun _ _ _ h => h) (fun _ h => h) ?_))
                 all_goals (refine tx_p 17 rfl (by kernel_rfl) (y_index rfl rfl (by omega) hadD') rfl (fun _ _ _ h => h) (fun _ h => h) ?_); ((refine tx_q 18 rfl (by kernel_rfl) (y_load1o (v := vi (xd.getD q 0)) rfl (fun w' hw' => by rw [hq, show Int.toNat (q : Int) * 1 = q from by omega]; exact hcD w' (hw'.fr (w0 := w) (S := []) MI.m) q (by omega))) rfl (fun _ _ _ h => h) (fun _ h => h) ?_))
                 all_goals refine tx_p 19 rfl (by kernel_rfl) (y_field rfl) rfl (fun _ _ _ h => h) (fun _ h => h) ?_; refine tx_q 20 rfl (by kernel_rfl) (y_load1 rfl (by repeat constructor) (by rfl)) rfl (fun _ _ _ h => h) (fun _ h => h) ?_; refine tx_p 21 rfl (by kernel_rfl) (y_move rfl) rfl (fun _ _ _ h => h) (fun _ h => h) ?_; refine tx_p 22 rfl (by kernel_rfl) (y_index rfl rfl (by omega) hadT') rfl (fun _ _ _ h => h) (fun _ h => h) ?_; refine tx_p 23 rfl (by kernel_rfl) (y_field rfl) rfl (fun _ _ _ h => h) (fun _ h => h) ?_; ((refine tx_q 24 rfl (by kernel_rfl) (y_load1o (v := vi (t.tests.getD j (0, 0, 0)).2.2) rfl (fun w' hw' => by rw [show Int.toNat (j : Int) * 3 = j * 3 from by omega]; exact (hcT w' [] (hw'.fr (w0 := w) (S := []) MI.m) (by simp) j (by omega)).get 2 _ rfl)) rfl (fun _ _ _ h => h) (fun _ h => h) ?_))
                 all_goals (refine tx_e 25 rfl (by kernel_rfl) rfl (e_callV rfl (.cons rfl (.cons rfl (.cons rfl (.cons rfl (.cons rfl .nil))))) (fun w' hw' => by have h := canS_c t hv xe heb (t.tests.getD j (0, 0, 0)).1 (t.tests.getD j (0, 0, 0)).2.1 (xd.getD q 0) (t.tests.getD j (0, 0, 0)).2.2 hx2.2.1 ⟨by omega, by omega⟩ hx2.2.2 _ _ _ _ _ w' (hr0.fr (hw'.fr (w0 := w) (S := []) MI.m)) (hE0.fr (hw'.fr (w0 := w) (S := []) MI.m)); rw [show ((t.tests.getD j (0, 0, 0)).1, (t.tests.getD j (0, 0, 0)).2.1, (t.tests.getD j (0, 0, 0)).2.2) = t.tests.getD j (0, 0, 0) from rfl, hrt] at h; exact h)) (.inr fun _ _ h => h) (fun _ _ => ?_))
                 all_goals (refine tx_p 26 rfl (by kernel_rfl) (y_not rfl) rfl (fun _ _ _ h => h) (fun _ h => h) ?_); refine tx_done (by kernel_rfl) ?_; ((refine hK17 ?_; try (clear hK17; clear K17)))
                 all_goals (
                  refine tc_cond rfl (fun hc => ?_) (fun hc => ?_)
                  · try simp only [qn1, qn2, qn3, qn4, qn5, qn6, qn7, qn8] at hc
                    all_goals ((first | (exfalso; with_reducible exact btf hc) | skip))
                    all_goals refine tc_seq fun K18 hK18 => ?_; refine tc_region ?_; refine tl_q (y_assign rfl) rfl ?_; refine tl_nil ?_; ((refine hK18 ?_; try (clear hK18; clear K18)))
                    all_goals refine tc_ret ?_; (repeat (first | refine tk_then_ret ?_ | refine tk_block_ret ?_))
                    all_goals (refine tk_ret rfl rfl (.cons (.tmp rfl) .nil) ?_)
                    all_goals (
                     first
                     | exact fun w' hw' => ⟨by rw [isT_1 heb]; rfl, hw'.fr (w0 := w) (S := []) MI.m⟩
                     | exact fun w' hw' => ⟨by rw [isT_2 (by omega)]; rfl, hw'.fr (w0 := w) (S := []) MI.m⟩
                     | exact fun w' hw' => ⟨by rw [isT_4 (by rw [← List.take_append_drop (j + 1) t.tests, List.all_append, hsu2, hpr, hrt, Bool.false_and])]; rfl, hw'.fr (w0 := w) (S := []) MI.m⟩
                     | exact fun w' hw' => ⟨by rw [isT_5 (by omega) heb hin (by rw [show j = t.tests.length from by omega, List.take_length] at hall; exact hall)]; rfl, hw'.fr (w0 := w) (S := []) MI.m⟩
                     | exact fun w' hw' => ⟨by rw [isT_3 (inN_no (i := i) (by omega) (by omega))]; rfl, hw'.fr (w0 := w) (S := []) MI.m⟩)
                  · try simp only [qn1, qn2, qn3, qn4, qn5, qn6, qn7, qn8] at hc
                    all_goals ((first | (exfalso; with_reducible exact bft hc) | skip))
                    all_goals refine tc_skip ?_; ((refine hK16 ?_; try (clear hK16; clear K16)))
                    all_goals refine tc_region ?_; refine tl_q (y_move rfl) rfl ?_; refine tl_q (y_add rfl rfl (by omega)) rfl ?_; refine tl_q (y_assign rfl) rfl ?_; refine tl_nil ?_
                    all_goals (
                     exact tk_round (j + 1) ⟨by omega, by rw [hsu2, hpr, hrt]⟩ (by omega) (.cons rfl (.cons rfl (.cons rfl .nil))) (fun _ h => h.subl SB.s SB.s)))
               · try simp only [qn1, qn2, qn3, qn4, qn5, qn6, qn7, qn8] at hc
                 all_goals refine tc_exit ?_; ((refine hK12 ?_; try (clear hK12; clear K12)))
                 all_goals refine tc_seq fun K19 hK19 => ?_; refine tc_region ?_; refine tl_q (y_assign rfl) rfl ?_; refine tl_nil ?_; ((refine hK19 ?_; try (clear hK19; clear K19)))
                 all_goals refine tc_ret ?_; (repeat (first | refine tk_then_ret ?_))
                 all_goals (refine tk_ret rfl rfl (.cons (.tmp rfl) .nil) ?_)
                 all_goals (
                  first
                  | exact fun w' hw' => ⟨by rw [isT_1 heb]; rfl, hw'.fr (w0 := w) (S := []) MI.m⟩
                  | exact fun w' hw' => ⟨by rw [isT_2 (by omega)]; rfl, hw'.fr (w0 := w) (S := []) MI.m⟩
                  | exact fun w' hw' => ⟨by rw [isT_4 (by rw [← List.take_append_drop (j + 1) t.tests, List.all_append, hsu2, hpr, hrt, Bool.false_and])]; rfl, hw'.fr (w0 := w) (S := []) MI.m⟩
                  | exact fun w' hw' => ⟨by rw [isT_5 (by omega) heb hin (by rw [show j = t.tests.length from by omega, List.take_length] at hall; exact hall)]; rfl, hw'.fr (w0 := w) (S := []) MI.m⟩
                  | exact fun w' hw' => ⟨by rw [isT_3 (inN_no (i := i) (by omega) (by omega))]; rfl, hw'.fr (w0 := w) (S := []) MI.m⟩))))))
end Go.Sp
/-
  TrialProves: the law's function returns true.
-/
namespace Go.Sp
open Go Go.Proofs
theorem asked_cases (t : Tr) : (¬ chkT t = 0 ∧ askedE t = chkT t) ∨ (chkT t = 0 ∧ askedE t = 11) ∨ (chkT t = 0 ∧ askedE t = 0) := by
  by_cases h0 : chkT t = 0
  · rcases asked_v (chkT_0.1 h0) with ⟨h, _⟩ | ⟨h, _⟩
    · exact .inr (.inr ⟨h0, h⟩)
    · exact .inr (.inl ⟨h0, h⟩)
  · exact .inl ⟨h0, if_pos h0⟩
theorem proveB_no {t : Tr} (h : ¬ chkT t = 0) (xe xd : List Int) : proveB t xe xd = false := by
  unfold proveB; rw [decide_eq_false h]; rfl
set_option maxHeartbeats 4000000 in
theorem proves_law (t : Tr) (xe xd : List Int) (sl pl ll tl ev dv : Value) (w : World) (hr : RdTr w t sl pl ll tl) (hE : RdI w ev xe) (hD : RdI w dv xd) :
    CnV Tryz.prog 11 #[trV t sl pl ll tl, .agg #[ev, dv]] w (.bool true) := by
  have hr0 := hr
  have hE0 := hE
  have hD0 := hD
  obtain ⟨aE, cE, _, _, rfl, _, _⟩ := hE.open
  obtain ⟨aD, cD, _, _, rfl, _, _⟩ := hD.open
  refine cnv (vs := [_, _]) Tryz.func11 rfl rfl ?_
  all_goals refine tc_seq fun K1 hK1 => ?_; refine tc_region ?_; refine tl_e (e_box rfl rfl rfl) rfl (fun b2 _ => ?_); refine tl_e (e_box rfl rfl rfl) rfl (fun b3 _ => ?_); refine tl_q (y_assign rfl) rfl ?_; refine tl_nil ?_; ((refine hK1 ?_; try (clear hK1; clear K1)))
  all_goals refine tc_seq fun K2 hK2 => ?_; refine tc_seq fun K3 hK3 => ?_; refine tc_lay ([]) (SB.s .nil) (fun wl1 hl1 => ?_); rcases hF : fewV t 343
  all_goals refine tc_region ?_; refine tl_q (y_loadWf rfl (hl1.at (by repeat constructor)) MI.m (by simp) (by rfl)) rfl ?_; (refine tl_e (e_callV rfl (.cons rfl (.cons rfl .nil)) (fun w' hw' => by have h := few_c t 343 _ _ _ _ w' (hr0.fr (hw'.fr (w0 := w) (S := []) MI.m)); rw [hF] at h; exact h)) rfl (fun _ _ => ?_))
  all_goals (refine tl_q (y_not rfl) rfl ?_); refine tl_q (y_move rfl) rfl ?_; (first | refine tl_sk rfl rfl rfl rfl ?_ | refine tl_qg rfl rfl (y_field rfl) rfl ?_); (first | refine tl_sk rfl rfl rfl rfl ?_ | refine tl_qg rfl rfl (y_load1f rfl (hl1.at (by repeat constructor)) MI.m (by simp) (by rfl)) rfl ?_); (first | refine tl_sk rfl rfl rfl rfl ?_ | refine tl_qg rfl rfl (y_len rfl) rfl ?_); (first | refine tl_sk rfl rfl rfl rfl ?_ | refine tl_qg rfl rfl (y_gtr rfl rfl) rfl ?_); (first | refine tl_q (y_pick_t rfl rfl) rfl ?_ | refine tl_q (y_pick_f rfl rfl) rfl ?_); refine tl_q (y_move rfl) rfl ?_; ((first | refine tl_sk rfl rfl rfl rfl ?_ | (refine tl_gs rfl rfl (fun hc => ?_) (fun hc => ?_) <;> (try simp only [bne_iff_ne, ne_eq, bne_eq_false_iff_eq, decide_eq_decide, true_iff, false_iff, decide_eq_true_eq, decide_eq_false_iff_not, Int.not_lt, Int.not_le, Bool.not_eq_true', Bool.not_eq_false', Decidable.not_not, not_true_eq_false] at hc) <;> (first | refine tl_sk rfl rfl rfl rfl ?_ | refine tl_qg rfl rfl (y_field rfl) rfl ?_))))
  all_goals (first | refine tl_sk rfl rfl rfl rfl ?_ | refine tl_qg rfl rfl (y_load1f rfl (hl1.at (by repeat constructor)) MI.m (by simp) (by rfl)) rfl ?_); (first | refine tl_sk rfl rfl rfl rfl ?_ | refine tl_qg rfl rfl (y_len rfl) rfl ?_); (first | refine tl_sk rfl rfl rfl rfl ?_ | refine tl_qg rfl rfl (y_gtr rfl rfl) rfl ?_); (first | refine tl_q (y_pick_t rfl rfl) rfl ?_ | refine tl_q (y_pick_f rfl rfl) rfl ?_); refine tl_nil ?_; ((refine hK3 ?_; try (clear hK3; clear K3)))
  all_goals (
   refine tc_cond rfl (fun hc => ?_) (fun hc => ?_)
   · try simp only [bne_iff_ne, ne_eq, bne_eq_false_iff_eq, decide_eq_decide, true_iff, false_iff, decide_eq_true_eq, decide_eq_false_iff_not, Int.not_lt, Int.not_le, Bool.not_eq_true', Bool.not_eq_false', Decidable.not_not, not_true_eq_false] at hc
     all_goals refine tc_seq fun K4 hK4 => ?_; refine tc_lay ([]) (SB.s .nil) (fun wl2 hl2 => ?_); refine tc_region ?_; refine tl_e (e_callV rfl .nil (fun w' _ => awake9_c w')) rfl (fun _ _ => ?_); refine tl_q (y_assign rfl) rfl ?_; refine tl_nil ?_; ((refine hK4 ?_; try (clear hK4; clear K4)))
     all_goals refine tc_ret ?_; (repeat (refine tk_then_ret ?_))
     all_goals (refine tk_ret rfl rfl (.cons (.tmp rfl) .nil) ?_)
     all_goals (
      first
      | exact fun w' hw' => ⟨rfl, hw'.fr (w0 := w) (S := []) MI.m⟩
      | skip)
   · try simp only [bne_iff_ne, ne_eq, bne_eq_false_iff_eq, decide_eq_decide, true_iff, false_iff, decide_eq_true_eq, decide_eq_false_iff_not, Int.not_lt, Int.not_le, Bool.not_eq_true', Bool.not_eq_false', Decidable.not_not, not_true_eq_false] at hc
     all_goals ((first | (exfalso; with_reducible exact btf hc) | skip))
     all_goals refine tc_skip ?_; ((refine hK2 ?_; try (clear hK2; clear K2)))
     all_goals refine tc_seq fun K5 hK5 => ?_; refine tc_lay ([]) (SB.s .nil) (fun wl3 hl3 => ?_); (obtain ⟨hth, hfe⟩ := few_ok hF)
     all_goals ((have hn := thin9P.nt hth; obtain ⟨ht1, ht2, ht3, ht4⟩ := hth))
     all_goals rcases asked_cases t with ⟨h0, hA⟩ | ⟨h0, hA⟩ | ⟨h0, hA⟩
     all_goals refine tc_region ?_; refine tl_q (y_loadWf rfl (hl1.at (by repeat constructor)) MI.m (by simp) (by rfl)) rfl ?_; refine tl_e (e_callX rfl (.cons rfl .nil) (fun w' hw' => trial9_c t (by omega) (by omega) (by omega) (by omega) _ _ _ _ w' (hr0.fr (hw'.fr (w0 := w) (S := []) MI.m)))) rfl (fun x3 hx3 => ?_); ((first | refine tl_e (e_callV rfl (.cons rfl .nil) (fun w' hw' => by have h := show_no t hn (by omega) _ _ _ _ w' (hx3.1.fr (hw'.fr (w0 := x3.2) (S := []) MI.m)); rw [hA] at h; exact h)) rfl (fun y3 hy3 => ?_) | refine tl_e (e_callX rfl (.cons rfl .nil) (fun w' hw' => show_sl t hn hA _ _ _ _ w' (hx3.1.fr (hw'.fr (w0 := x3.2) (S := []) MI.m)))) rfl (fun y3 hy3 => ?_)))
     all_goals refine tl_q (y_move rfl) rfl ?_; refine tl_q (y_extract rfl rfl) rfl ?_; refine tl_q (y_extract rfl rfl) rfl ?_; refine tl_e (e_allocN rfl) rfl (fun b5 _ => ?_); ((first | refine tl_e (e_storeW (cs := #[.slice none 0 0, .slice none 0 0]) rfl rfl (by repeat constructor) (by rfl) (by rfl) (by intro v hv; simp at hv; rcases hv with rfl | rfl <;> rfl)) rfl (fun _ _ => ?_) | refine tl_e (e_storeW (cs := #[slV t.parts.length y3.1.1, slV t.liquids.length y3.1.2]) rfl rfl (by repeat constructor) (by rfl) (by rfl) (by intro v hv; simp at hv; rcases hv with rfl | rfl <;> rfl)) rfl (fun _ _ => ?_)))
     all_goals refine tl_q (y_assign rfl) rfl ?_; refine tl_nil ?_; ((refine hK5 ?_; try (clear hK5; clear K5)))
     all_goals refine tc_seq fun K6 hK6 => ?_; refine tc_lay ([]) (SB.s .nil) (fun wl4 hl4 => ?_); refine tc_region ?_; refine tl_q (y_loadWf rfl (hl1.at (by repeat constructor)) MI.m (by simp) (by rfl)) rfl ?_; refine tl_e (e_callX rfl (.cons rfl .nil) (fun w' hw' => trial9_c t (by omega) (by omega) (by omega) (by omega) _ _ _ _ w' (hr0.fr (hw'.fr (w0 := w) (S := []) MI.m)))) rfl (fun x4 hx4 => ?_); (first | refine tl_e (e_callV rfl (.cons rfl .nil) (fun w' hw' => leave_noT t hn h0 _ _ _ _ w' (hx4.1.fr (hw'.fr (w0 := x4.2) (S := []) MI.m)))) rfl (fun y4 hy4 => ?_) | refine tl_e (e_callX rfl (.cons rfl .nil) (fun w' hw' => leaveT_sx t (chkT_0.1 h0) _ _ _ _ w' (hx4.1.fr (hw'.fr (w0 := x4.2) (S := []) MI.m)))) rfl (fun y4 hy4 => ?_)); refine tl_q (y_move rfl) rfl ?_; refine tl_q (y_extract rfl rfl) rfl ?_; refine tl_q (y_extract rfl rfl) rfl ?_; refine tl_q (y_assign rfl) rfl ?_; refine tl_q (y_assign rfl) rfl ?_; refine tl_nil ?_; ((refine hK6 ?_; try (clear hK6; clear K6)))
     all_goals refine tc_seq fun K7 hK7 => ?_; refine tc_lay ([]) (SB.s .nil) (fun wl5 hl5 => ?_); (rcases hT : isT t xe xd)
     all_goals refine tc_draw (by kernel_rfl) ?_; refine tx_q 0 rfl (by kernel_rfl) (y_loadWf rfl (hl1.at (by repeat constructor)) MI.m (by simp) (by rfl)) rfl (fun _ _ _ h => h) (fun _ h => h) ?_; refine tx_q 2 rfl (by kernel_rfl) (y_loadWf rfl (hl1.at (by repeat constructor)) MI.m (by simp) (by rfl)) rfl (fun _ _ _ h => h) (fun _ h => h) ?_; refine tx_e 1 rfl (by kernel_rfl) rfl (e_callX rfl (.cons rfl .nil) (fun w' hw' => trial9_c t (by omega) (by omega) (by omega) (by omega) _ _ _ _ w' (hr0.fr (hw'.fr (w0 := w) (S := []) MI.m)))) (.inr fun _ _ h => h.sub (fun _ h => List.mem_cons_of_mem _ h) (List.Sublist.refl _)) (fun x5 hx5 => ?_); refine tx_e 3 rfl (by kernel_rfl) rfl (e_callX rfl (.cons rfl .nil) (fun w' hw' => truthC_c xe xd xe.length xd.length rfl rfl (by omega) (by omega) (aE, cE) (aD, cD) w' (hE0.fr (hw'.fr (w0 := w) (S := []) MI.m)) (hD0.fr (hw'.fr (w0 := w) (S := []) MI.m)))) (.inr fun _ _ h => h.sub (fun _ h => List.mem_cons_of_mem _ h) (List.Sublist.refl _)) (fun z5 hz5 => ?_); ((first | refine tx_e 4 rfl (by kernel_rfl) rfl (e_callV rfl (.cons rfl (.cons rfl .nil)) (fun w' hw' => by have h := prove_c t hn xe xd (by omega) _ _ _ _ _ _ w' (hx5.1.fr (hw'.fr (w0 := x5.2) (S := []) MI.m)) (hz5.1.1.fr (hw'.fr (w0 := z5.2) (S := []) MI.m)) (hz5.1.2.fr (hw'.fr (w0 := z5.2) (S := []) MI.m)); rw [proveB_no h0 xe xd] at h; exact h)) (.inr fun _ _ h => h) (fun _ _ => ?_) | refine tx_e 4 rfl (by kernel_rfl) rfl (e_callV rfl (.cons rfl (.cons rfl .nil)) (fun w' hw' => by have h := prove_c t hn xe xd (by omega) _ _ _ _ _ _ w' (hx5.1.fr (hw'.fr (w0 := x5.2) (S := []) MI.m)) (hz5.1.1.fr (hw'.fr (w0 := z5.2) (S := []) MI.m)) (hz5.1.2.fr (hw'.fr (w0 := z5.2) (S := []) MI.m)); rw [isT_prove h0 xe xd, hT] at h; exact h)) (.inr fun _ _ h => h) (fun _ _ => ?_)))
     all_goals refine tx_p 5 rfl (by kernel_rfl) (y_assign rfl) rfl (fun _ _ _ h => h) (fun _ h => h) ?_; refine tx_done (by kernel_rfl) ?_; ((refine hK7 ?_; try (clear hK7; clear K7)))
     all_goals refine tc_seq fun K8 hK8 => ?_; refine tc_lay ([]) (SB.s .nil) (fun wl6 hl6 => ?_); refine tc_region ?_; refine tl_q (y_loadWf rfl (hl1.at (by repeat constructor)) MI.m (by simp) (by rfl)) rfl ?_; (first | refine tl_e (e_callV rfl (.cons rfl .nil) (fun w' hw' => sure_f t hn h0 _ _ _ _ w' (hr0.fr (hw'.fr (w0 := w) (S := []) MI.m)))) rfl (fun x6 hx6 => ?_) | refine tl_e (e_callX rfl (.cons rfl .nil) (fun w' hw' => sure_v t hn (chkT_0.1 h0) (hfe h0).1 _ _ _ _ w' (hr0.fr (hw'.fr (w0 := w) (S := []) MI.m)))) rfl (fun x6 hx6 => ?_)); refine tl_q (y_move rfl) rfl ?_; refine tl_q (y_extract rfl rfl) rfl ?_; refine tl_q (y_extract rfl rfl) rfl ?_; refine tl_q (y_extract rfl rfl) rfl ?_; refine tl_q (y_assign rfl) rfl ?_; refine tl_q (y_assign rfl) rfl ?_; refine tl_q (y_assign rfl) rfl ?_; refine tl_nil ?_; ((refine hK8 ?_; try (clear hK8; clear K8)))
     all_goals refine tc_seq fun K9 hK9 => ?_; refine tc_seq fun K10 hK10 => ?_; refine tc_region ?_; refine tl_q (y_move rfl) rfl ?_; refine tl_q (y_move rfl) rfl ?_; refine tl_q (y_neq rfl rfl) rfl ?_; refine tl_q (y_move rfl) rfl ?_; ((refine tl_gs rfl rfl (fun hc => ?_) (fun hc => ?_) <;> (try simp only [bne_iff_ne, ne_eq, bne_eq_false_iff_eq, decide_eq_decide, true_iff, false_iff, decide_eq_true_eq, decide_eq_false_iff_not, Int.not_lt, Int.not_le, Bool.not_eq_true', Bool.not_eq_false', Decidable.not_not, not_true_eq_false] at hc) <;> (first | (exfalso; omega) | refine tl_qg rfl rfl (y_move rfl) rfl ?_)))
     all_goals (refine tl_qg rfl rfl (y_loadWf rfl (hl1.at (by repeat constructor)) MI.m (by simp) (by rfl)) rfl ?_); refine tl_eg rfl rfl rfl (e_callV rfl (.cons rfl .nil) (fun w' hw' => fault9_c t hn _ _ _ _ w' (hr0.fr (hw'.fr (w0 := w) (S := []) MI.m)))) (fun _ _ => ?_); refine tl_qg rfl rfl (y_eql rfl rfl) rfl ?_; refine tl_qg rfl rfl (y_move rfl) rfl ?_; ((refine tl_gs rfl rfl (fun hc => ?_) (fun hc => ?_) <;> (try simp only [bne_iff_ne, ne_eq, bne_eq_false_iff_eq, decide_eq_decide, true_iff, false_iff, decide_eq_true_eq, decide_eq_false_iff_not, Int.not_lt, Int.not_le, Bool.not_eq_true', Bool.not_eq_false', Decidable.not_not, not_true_eq_false] at hc) <;> (first | (exfalso; omega) | refine tl_sk rfl rfl rfl rfl ?_ | refine tl_qg rfl rfl (y_loadWf rfl (hl1.at (by repeat constructor)) MI.m (by simp) (by rfl)) rfl ?_)))
     all_goals (first | refine tl_sk rfl rfl rfl rfl ?_ | refine tl_qg rfl rfl (y_loadWf rfl (hl1.at (by repeat constructor)) MI.m (by simp) (by rfl)) rfl ?_); ((first | refine tl_sk rfl rfl rfl rfl ?_ | refine tl_eg rfl rfl rfl (e_callV rfl (.cons rfl (.cons rfl .nil)) (fun w' hw' => by have h := isTruth_c t (chkT_0.1 h0) xe xd (by omega) (by omega) _ _ _ _ _ _ w' (hr0.fr (hw'.fr (w0 := w) (S := []) MI.m)) (hE0.fr (hw'.fr (w0 := w) (S := []) MI.m)) (hD0.fr (hw'.fr (w0 := w) (S := []) MI.m)); rw [hT] at h; exact h)) (fun _ _ => ?_)))
     all_goals (first | refine tl_qg rfl rfl (y_pick_t rfl rfl) rfl ?_ | refine tl_qg rfl rfl (y_pick_f rfl rfl) rfl ?_); refine tl_qg rfl rfl (y_neqb rfl rfl) rfl ?_; refine tl_q (y_pick_f rfl rfl) rfl ?_; refine tl_nil ?_; ((refine hK10 ?_; try (clear hK10; clear K10)))
     all_goals (
      refine tc_cond rfl (fun hc => ?_) (fun hc => ?_)
      · try simp only [bne_iff_ne, ne_eq, bne_eq_false_iff_eq, decide_eq_decide, true_iff, false_iff, decide_eq_true_eq, decide_eq_false_iff_not, Int.not_lt, Int.not_le, Bool.not_eq_true', Bool.not_eq_false', Decidable.not_not, not_true_eq_false] at hc
      · try simp only [bne_iff_ne, ne_eq, bne_eq_false_iff_eq, decide_eq_decide, true_iff, false_iff, decide_eq_true_eq, decide_eq_false_iff_not, Int.not_lt, Int.not_le, Bool.not_eq_true', Bool.not_eq_false', Decidable.not_not, not_true_eq_false] at hc
        all_goals refine tc_skip ?_; ((refine hK9 ?_; try (clear hK9; clear K9)))
        all_goals refine tc_seq fun K12 hK12 => ?_; refine tc_seq fun K13 hK13 => ?_; ((first | (have hvv := chkT_0.1 (show chkT t = 0 by omega); have hp3 := hvv.p3; have hl3 := hvv.l3; have ht6 := hvv.t6; have hll := (leaveTL_some hvv).2.inc.len (by omega)) | skip))
        all_goals refine tc_draw (by kernel_rfl) ?_; refine tx_p 0 rfl (by kernel_rfl) (y_move rfl) rfl (fun _ _ _ h => h) (fun _ h => h) ?_; refine tx_p 1 rfl (by kernel_rfl) (y_eql rfl rfl) rfl (fun _ _ _ h => h) (fun _ h => h) ?_; refine tx_p 2 rfl (by kernel_rfl) (y_move rfl) rfl (fun _ _ _ h => h) (fun _ h => h) ?_; ((refine tx_gs 69 rfl (fun hc => ?_) (fun hc => ?_) <;> (try simp only [bne_iff_ne, ne_eq, bne_eq_false_iff_eq, decide_eq_decide, true_iff, false_iff, decide_eq_true_eq, decide_eq_false_iff_not, Int.not_lt, Int.not_le, Bool.not_eq_true', Bool.not_eq_false', Decidable.not_not, not_true_eq_false] at hc) <;> (first | (exfalso; omega) | refine tx_sk 3 rfl (by kernel_rfl) rfl rfl rfl rfl (fun _ _ _ h => h) (fun _ h => h) ?_ | refine tx_qg 3 rfl (by kernel_rfl) rfl rfl (y_loadWf rfl (hl1.at (by repeat constructor)) MI.m (by simp) (by rfl)) rfl (fun _ _ _ h => h) (fun _ h => h) ?_)))
        all_goals (first | refine tx_sk 4 rfl (by kernel_rfl) rfl rfl rfl rfl (fun _ _ _ h => h) (fun _ h => h) ?_ | refine tx_qg 4 rfl (by kernel_rfl) rfl rfl (y_loadWf rfl (hl4.at (b := b5) (by repeat constructor)) MI.m (by simp) (by rfl)) rfl (fun _ _ _ h => h) (fun _ h => h) ?_); (first | refine tx_sk 5 rfl (by kernel_rfl) rfl rfl rfl rfl (fun _ _ _ h => h) (fun _ h => h) ?_ | refine tx_eg 5 rfl (by kernel_rfl) rfl rfl rfl (e_callX rfl (.cons rfl .nil) (fun w' hw' => backC_c (errL t (e0L t)) (dlN t (e0L t) [] t.liquids.length) t.parts.length t.liquids.length (errL_len _ _) (dlN_len _ _ _ _) (by omega) (by omega) y3.1.1 y3.1.2 w' (hy3.1.1.fr (hw'.fr (w0 := y3.2) (S := []) MI.m)) (hy3.1.2.fr (hw'.fr (w0 := y3.2) (S := []) MI.m)))) (.inr fun _ _ h => h.sub (fun _ h => List.mem_cons_of_mem _ h) (List.Sublist.refl _)) (fun z9 hz9 => ?_)); ((first | refine tx_sk 6 rfl (by kernel_rfl) rfl rfl rfl rfl (fun _ _ _ h => h) (fun _ h => h) ?_ | refine tx_eg 6 rfl (by kernel_rfl) rfl rfl rfl (e_callV rfl (.cons rfl (.cons rfl .nil)) (fun w' hw' => by have h := isTruth_c t (chkT_0.1 h0) (errL t (e0L t)) (dlN t (e0L t) [] t.liquids.length) (by rw [errL_len]; omega) (by rw [dlN_len]; omega) _ _ _ _ _ _ w' (hr0.fr (hw'.fr (w0 := w) (S := []) MI.m)) (hz9.1.1.fr (hw'.fr (w0 := z9.2) (S := []) MI.m)) (hz9.1.2.fr (hw'.fr (w0 := z9.2) (S := []) MI.m)); rw [← isT_prove h0, show_true (chkT_0.1 h0) hA] at h; exact h)) (.inr fun _ _ h => h) (fun _ _ => ?_)))
        all_goals (first | refine tx_sk 7 rfl (by kernel_rfl) rfl rfl rfl rfl (fun _ _ _ h => h) (fun _ h => h) ?_ | refine tx_pg 7 rfl (by kernel_rfl) rfl rfl (y_not rfl) rfl (fun _ _ _ h => h) (fun _ h => h) ?_); (first | refine tx_p 8 rfl (by kernel_rfl) (y_pick_t rfl rfl) rfl (fun _ _ _ h => h) (fun _ h => h) ?_ | refine tx_p 8 rfl (by kernel_rfl) (y_pick_f rfl rfl) rfl (fun _ _ _ h => h) (fun _ h => h) ?_); refine tx_p 9 rfl (by kernel_rfl) (y_move rfl) rfl (fun _ _ _ h => h) (fun _ h => h) ?_; refine tx_pg 10 rfl (by kernel_rfl) rfl rfl (y_move rfl) rfl (fun _ _ _ h => h) (fun _ h => h) ?_; refine tx_pg 11 rfl (by kernel_rfl) rfl rfl (y_neq rfl rfl) rfl (fun _ _ _ h => h) (fun _ h => h) ?_; refine tx_pg 12 rfl (by kernel_rfl) rfl rfl (y_move rfl) rfl (fun _ _ _ h => h) (fun _ h => h) ?_; ((refine tx_gs 79 rfl (fun hc => ?_) (fun hc => ?_) <;> (try simp only [bne_iff_ne, ne_eq, bne_eq_false_iff_eq, decide_eq_decide, true_iff, false_iff, decide_eq_true_eq, decide_eq_false_iff_not, Int.not_lt, Int.not_le, Bool.not_eq_true', Bool.not_eq_false', Decidable.not_not, not_true_eq_false] at hc) <;> (first | (exfalso; omega) | refine tx_sk 13 rfl (by kernel_rfl) rfl rfl rfl rfl (fun _ _ _ h => h) (fun _ h => h) ?_ | refine tx_pg 13 rfl (by kernel_rfl) rfl rfl (y_field rfl) rfl (fun _ _ _ h => h) (fun _ h => h) ?_)))
        all_goals (first | refine tx_sk 14 rfl (by kernel_rfl) rfl rfl rfl rfl (fun _ _ _ h => h) (fun _ h => h) ?_ | refine tx_qg 14 rfl (by kernel_rfl) rfl rfl (y_load1f rfl (hl4.at (by repeat constructor)) MI.m (by simp) (by rfl)) rfl (fun _ _ _ h => h) (fun _ h => h) ?_); (first | refine tx_sk 15 rfl (by kernel_rfl) rfl rfl rfl rfl (fun _ _ _ h => h) (fun _ h => h) ?_ | refine tx_qg 15 rfl (by kernel_rfl) rfl rfl (y_len rfl) rfl (fun _ _ _ h => h) (fun _ h => h) ?_); (first | refine tx_sk 16 rfl (by kernel_rfl) rfl rfl rfl rfl (fun _ _ _ h => h) (fun _ h => h) ?_ | refine tx_pg 16 rfl (by kernel_rfl) rfl rfl (y_field rfl) rfl (fun _ _ _ h => h) (fun _ h => h) ?_); (first | refine tx_sk 17 rfl (by kernel_rfl) rfl rfl rfl rfl (fun _ _ _ h => h) (fun _ h => h) ?_ | refine tx_qg 17 rfl (by kernel_rfl) rfl rfl (y_load1f rfl (hl4.at (by repeat constructor)) MI.m (by simp) (by rfl)) rfl (fun _ _ _ h => h) (fun _ h => h) ?_); (first | refine tx_sk 18 rfl (by kernel_rfl) rfl rfl rfl rfl (fun _ _ _ h => h) (fun _ h => h) ?_ | refine tx_qg 18 rfl (by kernel_rfl) rfl rfl (y_len rfl) rfl (fun _ _ _ h => h) (fun _ h => h) ?_); (first | refine tx_sk 19 rfl (by kernel_rfl) rfl rfl rfl rfl (fun _ _ _ h => h) (fun _ h => h) ?_ | refine tx_pg 19 rfl (by kernel_rfl) rfl rfl (y_add rfl rfl (by omega)) rfl (fun _ _ _ h => h) (fun _ h => h) ?_); (first | refine tx_sk 20 rfl (by kernel_rfl) rfl rfl rfl rfl (fun _ _ _ h => h) (fun _ h => h) ?_ | refine tx_pg 20 rfl (by kernel_rfl) rfl rfl (y_gtr rfl rfl) rfl (fun _ _ _ h => h) (fun _ h => h) ?_); (first | refine tx_pg 21 rfl (by kernel_rfl) rfl rfl (y_pick_t rfl rfl) rfl (fun _ _ _ h => h) (fun _ h => h) ?_ | refine tx_pg 21 rfl (by kernel_rfl) rfl rfl (y_pick_f rfl rfl) rfl (fun _ _ _ h => h) (fun _ h => h) ?_); refine tx_p 22 rfl (by kernel_rfl) (y_pick_f rfl rfl) rfl (fun _ _ _ h => h) (fun _ h => h) ?_; refine tx_done (by kernel_rfl) ?_; ((refine hK13 ?_; try (clear hK13; clear K13)))
        all_goals (
         refine tc_cond rfl (fun hc => ?_) (fun hc => ?_)
         · try simp only [bne_iff_ne, ne_eq, bne_eq_false_iff_eq, decide_eq_decide, true_iff, false_iff, decide_eq_true_eq, decide_eq_false_iff_not, Int.not_lt, Int.not_le, Bool.not_eq_true', Bool.not_eq_false', Decidable.not_not, not_true_eq_false] at hc
           all_goals ((first | (exfalso; with_reducible exact bft hc) | (exfalso; omega)))
         · try simp only [bne_iff_ne, ne_eq, bne_eq_false_iff_eq, decide_eq_decide, true_iff, false_iff, decide_eq_true_eq, decide_eq_false_iff_not, Int.not_lt, Int.not_le, Bool.not_eq_true', Bool.not_eq_false', Decidable.not_not, not_true_eq_false] at hc
           all_goals refine tc_skip ?_; ((refine hK12 ?_; try (clear hK12; clear K12)))
           all_goals refine tc_seq fun K15 hK15 => ?_; refine tc_seq fun K16 hK16 => ?_; refine tc_region ?_; refine tl_q (y_loadWf rfl (hl1.at (by repeat constructor)) MI.m (by simp) (by rfl)) rfl ?_; refine tl_e (e_callV rfl (.cons rfl .nil) (fun w' hw' => fault9_c t hn _ _ _ _ w' (hr0.fr (hw'.fr (w0 := w) (S := []) MI.m)))) rfl (fun _ _ => ?_); refine tl_q (y_neq rfl rfl) rfl ?_; refine tl_nil ?_; ((refine hK16 ?_; try (clear hK16; clear K16)))
           all_goals (
            refine tc_cond rfl (fun hc => ?_) (fun hc => ?_)
            · try simp only [bne_iff_ne, ne_eq, bne_eq_false_iff_eq, decide_eq_decide, true_iff, false_iff, decide_eq_true_eq, decide_eq_false_iff_not, Int.not_lt, Int.not_le, Bool.not_eq_true', Bool.not_eq_false', Decidable.not_not, not_true_eq_false] at hc
              all_goals ((first | (exfalso; omega) | skip))
              all_goals refine tc_seq fun K17 hK17 => ?_; refine tc_region ?_; refine tl_q (y_move rfl) rfl ?_; refine tl_q (y_move rfl) rfl ?_; refine tl_q (y_eql rfl rfl) rfl ?_; refine tl_q (y_move rfl) rfl ?_; ((refine tl_gs rfl rfl (fun hc => ?_) (fun hc => ?_) <;> (try simp only [bne_iff_ne, ne_eq, bne_eq_false_iff_eq, decide_eq_decide, true_iff, false_iff, decide_eq_true_eq, decide_eq_false_iff_not, Int.not_lt, Int.not_le, Bool.not_eq_true', Bool.not_eq_false', Decidable.not_not, not_true_eq_false] at hc) <;> (refine tl_qg rfl rfl (y_move rfl) rfl ?_)))
              all_goals (refine tl_qg rfl rfl (y_len rfl) rfl ?_); refine tl_qg rfl rfl (y_eql rfl rfl) rfl ?_; refine tl_q (y_pick_t rfl rfl) rfl ?_; refine tl_q (y_move rfl) rfl ?_; refine tl_eg rfl rfl rfl (e_callV rfl .nil (fun w' _ => awake9_c w')) (fun _ _ => ?_); refine tl_q (y_pick_t rfl rfl) rfl ?_; refine tl_q (y_assign rfl) rfl ?_; refine tl_nil ?_; ((refine hK17 ?_; try (clear hK17; clear K17)))
              all_goals refine tc_ret ?_; (repeat (refine tk_then_ret ?_))
              all_goals (refine tk_ret rfl rfl (.cons (.tmp rfl) .nil) ?_)
              all_goals (
               first
               | exact fun w' hw' => ⟨rfl, hw'.fr (w0 := w) (S := []) MI.m⟩
               | skip)
            · try simp only [bne_iff_ne, ne_eq, bne_eq_false_iff_eq, decide_eq_decide, true_iff, false_iff, decide_eq_true_eq, decide_eq_false_iff_not, Int.not_lt, Int.not_le, Bool.not_eq_true', Bool.not_eq_false', Decidable.not_not, not_true_eq_false] at hc
              all_goals ((first | (exfalso; omega) | skip))
              all_goals refine tc_skip ?_; ((refine hK15 ?_; try (clear hK15; clear K15)))
              all_goals refine tc_seq fun K18 hK18 => ?_; refine tc_region ?_; refine tl_q (y_move rfl) rfl ?_; refine tl_q (y_eql rfl rfl) rfl ?_; refine tl_q (y_move rfl) rfl ?_; refine tl_qg rfl rfl (y_move rfl) rfl ?_; refine tl_qg rfl rfl (y_loadWf rfl (hl1.at (by repeat constructor)) MI.m (by simp) (by rfl)) rfl ?_; refine tl_qg rfl rfl (y_move rfl) rfl ?_; refine tl_eg rfl rfl rfl (e_callX rfl (.cons rfl (.cons rfl .nil)) (fun w' hw' => refLeaveT_c t (chkT_0.1 h0) (hfe h0).1 _ _ _ _ _ w' (hr0.fr (hw'.fr (w0 := w) (S := []) MI.m)) (RdWs.fr hx6.1.1 (hw'.fr (w0 := x6.2) (S := []) MI.m)))) (fun y13 hy13 => ?_); refine tl_eg rfl rfl rfl (e_callV rfl (.cons rfl (.cons rfl .nil)) (fun w' hw' => ints9_t (leaveTL t) (by omega) _ _ w' (hy4.1.fr (hw'.fr (w0 := y4.2) (S := []) MI.m)) (hy13.1.fr (hw'.fr (w0 := y13.2) (S := []) MI.m)))) (fun _ _ => ?_); refine tl_q (y_pick_t rfl rfl) rfl ?_; refine tl_q (y_move rfl) rfl ?_; refine tl_eg rfl rfl rfl (e_callV rfl .nil (fun w' _ => awake9_c w')) (fun _ _ => ?_); refine tl_q (y_pick_t rfl rfl) rfl ?_; refine tl_q (y_assign rfl) rfl ?_; refine tl_nil ?_; ((refine hK18 ?_; try (clear hK18; clear K18)))
              all_goals refine tc_ret ?_; (repeat (first | refine tk_then_ret ?_))
              all_goals (refine tk_ret rfl rfl (.cons (.tmp rfl) .nil) ?_)
              all_goals (
               first
               | exact fun w' hw' => ⟨rfl, hw'.fr (w0 := w) (S := []) MI.m⟩
               | skip)))))
end Go.Sp
/-
  From a contract of a law's function to its row: what the arguments read as, and that they read so afterwards.
-/
namespace Go.Sp
open Go Go.Proofs Go.ChangeShapes Go.WideShapes Go.RowKit
section
variable {H : Type} {enc : TypeId × Value → H} {P : Program} {w : World} {base : Nat} {spare : Nat → Bool} {held : Bool}
theorem Fr.kept {W W' : World} (h : Fr [] W W') (p : MemPlace → Prop) : W.keptBut W' p :=
  ⟨h.os, h.output, fun i hi => by
    have e := h.block i hi (by simp)
    rw [e]
    cases hb : W.heap[i]? with
    | none => trivial
    | some o => cases o <;> simp⟩
/-- What is left of a post without 'again'. -/
theorem post_na {f : Func} {s : ChangeSpec} {apart fresh handsOn : Bool} {W W' : World} {args : Array Value} {v : Value} {ds gs : List (DataW H)} {before pa pv : List MemPlace}
    (hW : DataW.Whole enc P f.params.toList s.vars apart W args.toList ds gs before)
    (hres : ∀ (b : Nat) (sp : Nat → Bool) (hd : Bool), DataW.TrodAll enc P W' b sp hd f.resultTypes.toList (v.resultList f.resultTypes.size) (s.fn H (ds ++ gs)).results [])
    (hargs : ∀ sp : Nat → Bool, (∀ p ∈ before, sp p.block = true) → DataW.TrodAll enc P W' 0 sp true f.params.toList args.toList (s.fn H (ds ++ gs)).args pa)
    (hvars : ∀ sp : Nat → Bool, (∀ p ∈ before, sp p.block = true) → DataW.TrodVars enc P W' sp s.vars (s.fn H (ds ++ gs)).vars pv)
    (hps : before = pa ++ pv) (hk : W.keptBut W' (· ∈ before)) : s.post enc P f apart fresh handsOn false W args v W' := by
  have hold : ∀ p ∈ before, (fun b => decide (b < W.heap.size)) p.block = true := fun p hp => by simpa using hW.lt p hp
  refine ⟨ds, gs, before, [], pa, pv, hW, hres _ _ _, hargs _ hold, hvars _ hold, World.keptBut_mono (fun p hp => ⟨hp, ?_⟩) hk, fun h => by cases h⟩
  rw [hps, List.mem_append] at hp
  exact Or.inr hp
theorem all_stays (hl : laidOutB P = true) {W W' : World} {sp : Nat → Bool} (hb : Below W.heap.size W W') : ∀ {ts : List TypeId} {vs : List Value} {ds : List (DataW H)} {ps : List MemPlace}, (ts.all fun t => P.readableRec t && decide (t < P.types.size)) = true →
    DataW.TrodAll enc P W 0 (fun _ => true) true ts vs ds ps → (∀ p ∈ ps, sp p.block = true) → DataW.TrodAll enc P W' 0 sp true ts vs ds ps := by
  intro ts
  induction ts with
  | nil => intro vs ds ps _ h _; cases vs <;> cases ds <;> simp [DataW.TrodAll] at h ⊢; exact h
  | cons t ts ih =>
    intro vs ds ps ht h hs
    have hlt := h.lt
    obtain ⟨v, vs', d, ds', p, q, rfl, rfl, rfl, h1, h2⟩ := trodAll_cons h
    simp only [List.all_cons, Bool.and_eq_true, decide_eq_true_eq] at ht
    exact ⟨p, q, WideElems.Trod_stays hl ht.1.1 ht.1.2 h1 (fun x hx => hb.same (hlt x (List.mem_append_left _ hx))) (fun x hx => hs x (List.mem_append_left _ hx)),
      ih (by simpa using ht.2) h2 (fun x hx => hs x (List.mem_append_right _ hx)), rfl⟩
/-- A slice reads as the cells of its elements, each of which reads. -/
theorem slice_reads {t e : TypeId} {fuel : Nat} {cs : List Value} {x : DataW H × List MemPlace} (ht : P.underlying t = some (.slice e)) (hc : 0 < P.cellsOf e) (h : DataW.trod enc P w base spare held fuel t cs = some x) :
    ∃ ad cap, ∃ ess : List (List Value), cs = [.slice ad ess.length cap] ∧ ess.length ≤ maxLen ∧ Reads w (.slice ad ess.length cap) (P.cellsOf e) ess.length ess.flatten ∧ ∀ es ∈ ess, ∃ m y, DataW.trod enc P w base spare held m e es = some y := by
  rcases DataW.trod_slice ht h with ⟨rfl, _⟩ | ⟨a, len, cap, elems, rest, n, _, rfl, _, hb, hl, hm, hlen, hel, _, _⟩
  · exact ⟨none, 0, [], rfl, Nat.zero_le _, ⟨by simp, none, 0, rfl, fun h => absurd rfl h⟩, by simp⟩
  · -- the cells of each element
    have hone : ∀ i, i < len → ∃ es y, w.cells? base (a.add (i * P.cellsOf e)) (P.cellsOf e) = some es ∧ DataW.trod enc P w base spare held n e es = some y := fun i hi => by
      have h1 := hel i hi
      rw [List.getElem?_eq_getElem (by omega)] at h1
      obtain ⟨es, h2, h3⟩ := Option.bind_eq_some_iff.1 h1
      exact ⟨es, _, h2, h3⟩
    have hadd : ∀ m, a.spot = none → a.add m = ⟨a.block, a.off + m, none⟩ := fun m hs => by
      obtain ⟨b, o, sp⟩ := a
      simp only at hs
      subst hs
      unfold Addr.add; split
      · rename_i h0; subst h0; rfl
      · rfl
    have hsp0 : 0 < len → a.spot = none := fun h0 => by
      obtain ⟨es, y, g1, g2⟩ := hone 0 h0
      obtain ⟨_, hl1, hat⟩ := World.cells?_some g1
      have := hat 0 hc
      rw [List.getElem?_eq_getElem (by omega), Nat.zero_mul, show (a.add 0).add 0 = a from rfl] at this
      unfold World.cell? at this
      split at this
      · split at this
        · cases this
        · rename_i hs; simpa using hs
      · cases this
    have hcell : ∀ k, k ≤ len → ∃ ess : List (List Value), ess.length = k ∧ (∀ es ∈ ess, ∃ m y, DataW.trod enc P w base spare held m e es = some y) ∧ ess.flatten.length = k * P.cellsOf e ∧
        (k ≠ 0 → a.spot = none) ∧ ∀ j v, ess.flatten[j]? = some v → w.cell? ⟨a.block, a.off + j, none⟩ = some v := by
      intro k
      induction k with
      | zero => intro _; exact ⟨[], rfl, by simp, by simp, fun h => absurd rfl h, by simp⟩
      | succ k ih =>
        intro hk
        obtain ⟨ess, h1, h2, h3, h4, h5⟩ := ih (by omega)
        obtain ⟨es, y, g1, g2⟩ := hone k (by omega)
        obtain ⟨_, hl1, hat⟩ := World.cells?_some g1
        have hspot : a.spot = none := hsp0 (by omega)
        refine ⟨ess ++ [es], by simp [h1], fun u hu => ?_, ?_, fun _ => hspot, fun j v hv => ?_⟩
        · rcases List.mem_append.1 hu with hu | hu
          · exact h2 u hu
          · obtain rfl := List.mem_singleton.1 hu; exact ⟨n, y, g2⟩
        · rw [List.flatten_append, List.length_append, h3]; simp [hl1]; rw [Nat.add_mul]; omega
        · rw [List.flatten_append] at hv
          by_cases hj : j < ess.flatten.length
          · rw [List.getElem?_append_left hj] at hv; exact h5 j v hv
          · rw [List.getElem?_append_right (by omega)] at hv
            simp only [List.flatten_cons, List.flatten_nil, List.append_nil] at hv
            have hjl : j - ess.flatten.length < es.length := (List.getElem?_eq_some_iff.1 hv).1
            have := hat (j - ess.flatten.length) (by omega)
            rw [hv, hadd _ hspot] at this
            have e2 : (⟨a.block, a.off + k * P.cellsOf e, none⟩ : Addr).add (j - ess.flatten.length) = ⟨a.block, a.off + j, none⟩ := by
              unfold Addr.add; split
              · rename_i h0; simp only [Addr.mk.injEq, true_and, and_true]; omega
              · simp only [Addr.mk.injEq, true_and, and_true]; omega
            rw [e2] at this
            exact this
    obtain ⟨ess, h1, h2, h3, h4, h5⟩ := hcell len (Nat.le_refl _)
    subst h1
    refine ⟨some a, cap, ess, rfl, by omega, ⟨h3, _, _, rfl, fun hn => ⟨a.block, a.off, ?_, ?_⟩⟩, h2⟩
    · have := h4 hn
      obtain ⟨b, o, sp⟩ := a
      simp only at this
      subst this
      rfl
    · rw [← h3]
      generalize ess.flatten = vs at h5
      have key : ∀ (vs : List Value) (o : Nat), (∀ j v, vs[j]? = some v → w.cell? ⟨a.block, o + j, none⟩ = some v) → CA (fun k => w.cell? ⟨a.block, k, none⟩) o vs.length vs := by
        intro vs
        induction vs with
        | nil => intro o _; exact .nil
        | cons v vs ih => intro o hv; exact .cons (hv 0 v rfl) (ih (o + 1) fun j u hu => by rw [Nat.add_assoc, Nat.add_comm 1 j]; exact hv (j + 1) u hu)
      exact key vs a.off h5
theorem exists_map {α β : Type} {f : α → β} {q : α → Prop} : ∀ (l : List β), (∀ y ∈ l, ∃ x, y = f x ∧ q x) → ∃ xs : List α, l = xs.map f ∧ ∀ x ∈ xs, q x
  | [], _ => ⟨[], rfl, by simp⟩
  | y :: l, h => by
    obtain ⟨x, rfl, hq⟩ := h y List.mem_cons_self
    obtain ⟨xs, rfl, hxs⟩ := exists_map l (fun z hz => h z (List.mem_cons_of_mem _ hz))
    exact ⟨x :: xs, rfl, fun z hz => by rcases List.mem_cons.1 hz with rfl | hz; exact hq; exact hxs z hz⟩
theorem flatten_map_one {α : Type} (f : α → Value) (xs : List α) : (xs.map fun x => [f x]).flatten = xs.map f := by
  induction xs with
  | nil => rfl
  | cons x xs ih => simp [ih]
/-- A slice of integers of one kind. -/
theorem ints_reads {t e : TypeId} {k : IntKind} {fuel : Nat} {cs : List Value} {x : DataW H × List MemPlace} (ht : P.underlying t = some (.slice e)) (he : P.underlying e = some (.int k)) (hc : P.cellsOf e = 1) (h : DataW.trod enc P w base spare held fuel t cs = some x) :
    ∃ sl, ∃ xs : List Int, cs = [sl] ∧ xs.length ≤ maxLen ∧ Reads w sl 1 xs.length (xs.map (Value.int k)) ∧ ∀ n ∈ xs, (Lit.int k n).wf = true := by
  obtain ⟨ad, cap, ess, rfl, hm, hr, hes⟩ := slice_reads ht (by omega) h
  obtain ⟨xs, rfl, hxs⟩ := exists_map (f := fun n : Int => [Value.int k n]) (q := fun n => (Lit.int k n).wf = true) ess (fun es h => by
    obtain ⟨m, y, hy⟩ := hes es h
    obtain ⟨n, rfl, _, hw⟩ := DataW.trod_int he hy
    exact ⟨n, rfl, hw⟩)
  rw [flatten_map_one, hc] at hr
  simp only [List.length_map] at hr hm
  exact ⟨_, xs, by simp, hm, hr, hxs⟩
/-- The fields of a struct. -/
theorem fields_reads {t : TypeId} {fs : Array Field} {fuel : Nat} {cs : List Value} {x : DataW H × List MemPlace} (ht : P.underlying t = some (.struct fs)) (h : DataW.trod enc P w base spare held fuel t cs = some x) :
    cs.length = P.cellsOf t ∧ ∀ (i : Nat) (f : Field), fs[i]? = some f → ∃ m y, DataW.trod enc P w base spare held m f.type ((cs.drop f.offset).take (P.cellsOf f.type)) = some y := by
  obtain ⟨xs, n, _, _, hl, hx, hf⟩ := DataW.trod_struct ht h
  refine ⟨hl, fun i f hi => ?_⟩
  have := hf i f hi
  have hlt : i < fs.size := (Array.getElem?_eq_some_iff.1 hi).1
  rw [List.getElem?_eq_getElem (by omega)] at this
  exact ⟨n, _, this⟩
def flds (enc : TypeId × Value → H) (P : Program) (w : World) (base : Nat) (spare : Nat → Bool) (held : Bool) (cs : List Value) : List Field → Prop
  | [] => True
  | f :: fs => (∃ m y, DataW.trod enc P w base spare held m f.type ((cs.drop f.offset).take (P.cellsOf f.type)) = some y) ∧ flds enc P w base spare held cs fs
theorem fields_list {t : TypeId} {l : List Field} {fuel : Nat} {cs : List Value} {x : DataW H × List MemPlace} (ht : P.underlying t = some (.struct l.toArray)) (h : DataW.trod enc P w base spare held fuel t cs = some x) :
    cs.length = P.cellsOf t ∧ flds enc P w base spare held cs l := by
  obtain ⟨hl, hf⟩ := fields_reads ht h
  refine ⟨hl, ?_⟩
  have key : ∀ l' : List Field, (∀ f ∈ l', f ∈ l) → flds enc P w base spare held cs l' := by
    intro l'
    induction l' with
    | nil => intro _; trivial
    | cons f fs ih =>
      intro hm
      obtain ⟨i, hi, e⟩ := List.getElem_of_mem (hm f List.mem_cons_self)
      exact ⟨hf i f (by simp [hi, e]), ih fun g hg => hm g (List.mem_cons_of_mem _ hg)⟩
  exact key l fun _ h => h
end
end Go.Sp
/-
  What the arguments of this seat's laws read as.
-/
namespace Go.Sp
open Go Go.Proofs Go.ChangeShapes Go.WideShapes Go.RowKit
theorem laidTryz : laidOutB Tryz.prog = true := by kernel_rfl
theorem cells_3 : Tryz.prog.cellsOf 3 = 1 := by kernel_rfl
theorem cells_22 : Tryz.prog.cellsOf 22 = 1 := by kernel_rfl
theorem cells_24 : Tryz.prog.cellsOf 24 = 6 := by kernel_rfl
theorem cells_57 : Tryz.prog.cellsOf 57 = 2 := by kernel_rfl
theorem wf64 {n : Int} (h : (Lit.int .i64 n).wf = true) : -9223372036854775808 ≤ n ∧ n ≤ 9223372036854775807 := by
  simpa [Lit.wf, IntKind.min, IntKind.max, IntKind.signed, IntKind.bits] using h
theorem six {α : Type} {l : List α} (h : l.length = 6) : ∃ a b c d e f, l = [a, b, c, d, e, f] := by
  match l, h with
  | [a, b, c, d, e, f], _ => exact ⟨a, b, c, d, e, f, rfl⟩
theorem two' {α : Type} {l : List α} (h : l.length = 2) : ∃ a b, l = [a, b] := by
  match l, h with
  | [a, b], _ => exact ⟨a, b, rfl⟩
section
variable {H : Type} {enc : TypeId × Value → H} {w : World} {base : Nat} {spare : Nat → Bool} {held : Bool}
abbrev Bd (n : Int) : Prop := -9223372036854775808 ≤ n ∧ n ≤ 9223372036854775807
theorem sn_reads {fuel : Nat} {cs : List Value} {x : DataW H × List MemPlace} (h : DataW.trod enc Tryz.prog w base spare held fuel 24 cs = some x) :
    ∃ (s : Sn) (sl : Value), cs = [vi s.mass, vi s.volume, vi s.step, vi s.divisions, vi s.width, sl] ∧ RdI w sl s.weights ∧ s.weights.length ≤ maxLen := by
  obtain ⟨hl, hf⟩ := fields_list Tryz.underlying24 h
  rw [cells_24] at hl
  obtain ⟨c0, c1, c2, c3, c4, c5, rfl⟩ := six hl
  obtain ⟨⟨_, _, f0⟩, ⟨_, _, f1⟩, ⟨_, _, f2⟩, ⟨_, _, f3⟩, ⟨_, _, f4⟩, ⟨_, _, f5⟩, _⟩ := hf
  rw [cells_3] at f0 f1 f2 f3 f4
  rw [cells_22] at f5
  obtain ⟨n0, e0, _, _⟩ := DataW.trod_int Tryz.underlying3 f0
  obtain ⟨n1, e1, _, _⟩ := DataW.trod_int Tryz.underlying3 f1
  obtain ⟨n2, e2, _, _⟩ := DataW.trod_int Tryz.underlying3 f2
  obtain ⟨n3, e3, _, _⟩ := DataW.trod_int Tryz.underlying3 f3
  obtain ⟨n4, e4, _, _⟩ := DataW.trod_int Tryz.underlying3 f4
  obtain ⟨sl, xs, e5, hm, hr, _⟩ := ints_reads Tryz.underlying22 Tryz.underlying3 cells_3 f5
  simp at e0 e1 e2 e3 e4 e5
  subst e0; subst e1; subst e2; subst e3; subst e4; subst e5
  exact ⟨⟨n0, n1, n2, n3, n4, xs⟩, _, rfl, hr, hm⟩
theorem pair_reads {t : TypeId} {f0 f1 : Field} (ht : Tryz.prog.underlying t = some (.struct #[f0, f1])) (hc : Tryz.prog.cellsOf t = 2) (h0 : f0.type = 3) (h1 : f1.type = 3) (o0 : f0.offset = 0) (o1 : f1.offset = 1) {fuel : Nat} {cs : List Value} {x : DataW H × List MemPlace} (h : DataW.trod enc Tryz.prog w base spare held fuel t cs = some x) :
    ∃ r : Int × Int, cs = [vi r.1, vi r.2] ∧ Bd r.1 ∧ Bd r.2 := by
  obtain ⟨hl, hf⟩ := fields_list (l := [f0, f1]) ht h
  rw [hc] at hl
  obtain ⟨c0, c1, rfl⟩ := two' hl
  obtain ⟨⟨_, _, g0⟩, ⟨_, _, g1⟩, _⟩ := hf
  rw [h0, o0, cells_3] at g0
  rw [h1, o1, cells_3] at g1
  obtain ⟨n0, e0, _, w0⟩ := DataW.trod_int Tryz.underlying3 g0
  obtain ⟨n1, e1, _, w1⟩ := DataW.trod_int Tryz.underlying3 g1
  simp at e0 e1
  subst e0; subst e1
  exact ⟨(n0, n1), rfl, wf64 w0, wf64 w1⟩
theorem flat_map (xs : List (Int × Int)) : (xs.map fun r => [vi r.1, vi r.2]).flatten = flatR xs := by
  induction xs with
  | nil => rfl
  | cons x xs ih => simp [ih, flatR]
end
end Go.Sp
/-
  What a trial reads as.
-/
namespace Go.Sp
open Go Go.Proofs Go.ChangeShapes Go.WideShapes Go.RowKit
theorem cells_72 : Tryz.prog.cellsOf 72 = 3 := by kernel_rfl
theorem cells_25 : Tryz.prog.cellsOf 25 = 1 := by kernel_rfl
theorem cells_26 : Tryz.prog.cellsOf 26 = 1 := by kernel_rfl
theorem cells_28 : Tryz.prog.cellsOf 28 = 10 := by kernel_rfl
theorem three' {α : Type} {l : List α} (h : l.length = 3) : ∃ a b c, l = [a, b, c] := by
  match l, h with
  | [a, b, c], _ => exact ⟨a, b, c, rfl⟩
theorem ten' {α : Type} {l : List α} (h : l.length = 10) : ∃ a b c d e f g i j k, l = [a, b, c, d, e, f, g, i, j, k] := by
  match l, h with
  | [a, b, c, d, e, f, g, i, j, k], _ => exact ⟨a, b, c, d, e, f, g, i, j, k, rfl⟩
section
variable {H : Type} {enc : TypeId × Value → H} {w : World} {base : Nat} {spare : Nat → Bool} {held : Bool}
theorem rgs_reads {fuel : Nat} {cs : List Value} {x : DataW H × List MemPlace} (h : DataW.trod enc Tryz.prog w base spare held fuel 25 cs = some x) :
    ∃ (sl : Value) (l : List (Int × Int)), cs = [sl] ∧ RdR w sl l ∧ l.length ≤ maxLen ∧ ∀ r ∈ l, Bd r.1 ∧ Bd r.2 := by
  obtain ⟨ad, cap, ess, rfl, hm, hr, hes⟩ := slice_reads Tryz.underlying25 (by rw [cells_57]; decide) h
  obtain ⟨xs, rfl, hxs⟩ := exists_map (f := fun r : Int × Int => [vi r.1, vi r.2]) (q := fun r => Bd r.1 ∧ Bd r.2) ess (fun es h => by
    obtain ⟨m, y, hy⟩ := hes es h
    obtain ⟨r, e, hb⟩ := pair_reads Tryz.underlying57 cells_57 rfl rfl rfl rfl hy
    exact ⟨r, e, hb⟩)
  rw [flat_map, cells_57] at hr
  simp only [List.length_map] at hr hm
  exact ⟨_, xs, by simp, hr, hm, hxs⟩
theorem test_reads {fuel : Nat} {cs : List Value} {x : DataW H × List MemPlace} (h : DataW.trod enc Tryz.prog w base spare held fuel 72 cs = some x) :
    ∃ r : Int × Int × Int, cs = [vi r.1, vi r.2.1, vi r.2.2] ∧ Bd r.1 ∧ Bd r.2.1 ∧ Bd r.2.2 := by
  obtain ⟨hl, hf⟩ := fields_list Tryz.underlying72 h
  rw [cells_72] at hl
  obtain ⟨c0, c1, c2, rfl⟩ := three' hl
  obtain ⟨⟨_, _, f0⟩, ⟨_, _, f1⟩, ⟨_, _, f2⟩, _⟩ := hf
  rw [cells_3] at f0 f1 f2
  obtain ⟨n0, e0, _, w0⟩ := DataW.trod_int Tryz.underlying3 f0
  obtain ⟨n1, e1, _, w1⟩ := DataW.trod_int Tryz.underlying3 f1
  obtain ⟨n2, e2, _, w2⟩ := DataW.trod_int Tryz.underlying3 f2
  simp at e0 e1 e2
  subst e0; subst e1; subst e2
  exact ⟨(n0, n1, n2), rfl, wf64 w0, wf64 w1, wf64 w2⟩
theorem flat_mapT (xs : List (Int × Int × Int)) : (xs.map fun r => [vi r.1, vi r.2.1, vi r.2.2]).flatten = flatT xs := by
  induction xs with
  | nil => rfl
  | cons x xs ih => simp [ih, flatT]
theorem tests_reads {fuel : Nat} {cs : List Value} {x : DataW H × List MemPlace} (h : DataW.trod enc Tryz.prog w base spare held fuel 26 cs = some x) :
    ∃ (sl : Value) (l : List (Int × Int × Int)), cs = [sl] ∧ RdT w sl l ∧ l.length ≤ maxLen := by
  obtain ⟨ad, cap, ess, rfl, hm, hr, hes⟩ := slice_reads Tryz.underlying26 (by rw [cells_72]; decide) h
  obtain ⟨xs, rfl, hxs⟩ := exists_map (f := fun r : Int × Int × Int => [vi r.1, vi r.2.1, vi r.2.2]) (q := fun r => True) ess (fun es h => by
    obtain ⟨m, y, hy⟩ := hes es h
    obtain ⟨r, e, hb⟩ := test_reads hy
    exact ⟨r, e, trivial⟩)
  rw [flat_mapT, cells_72] at hr
  simp only [List.length_map] at hr hm
  exact ⟨_, xs, by simp, hr, hm⟩
theorem tr_reads {fuel : Nat} {cs : List Value} {x : DataW H × List MemPlace} (h : DataW.trod enc Tryz.prog w base spare held fuel 28 cs = some x) :
    ∃ (t : Tr) (sl pl ll tl : Value), cs = [vi t.s.mass, vi t.s.volume, vi t.s.step, vi t.s.divisions, vi t.s.width, sl, pl, vi t.worst, ll, tl] ∧ RdTr w t sl pl ll tl := by
  obtain ⟨hl, hf⟩ := fields_list Tryz.underlying28 h
  rw [cells_28] at hl
  obtain ⟨c0, c1, c2, c3, c4, c5, c6, c7, c8, c9, rfl⟩ := ten' hl
  obtain ⟨⟨_, _, f0⟩, ⟨_, _, f1⟩, ⟨_, _, f2⟩, ⟨_, _, f3⟩, ⟨_, _, f4⟩, _⟩ := hf
  rw [cells_24] at f0
  rw [cells_22] at f1
  rw [cells_3] at f2
  rw [cells_25] at f3
  rw [cells_26] at f4
  obtain ⟨s, sl, e0, hrs, _⟩ := sn_reads f0
  obtain ⟨pl, ps, e1, _, hrp, _⟩ := ints_reads Tryz.underlying22 Tryz.underlying3 cells_3 f1
  obtain ⟨n2, e2, _, _⟩ := DataW.trod_int Tryz.underlying3 f2
  obtain ⟨ll, l, e3, hrl, _, _⟩ := rgs_reads f3
  obtain ⟨tl, ts, e4, hrt, _⟩ := tests_reads f4
  simp at e0 e1 e2 e3 e4
  obtain ⟨rfl, rfl, rfl, rfl, rfl, rfl⟩ := e0
  subst e1; subst e2; subst e3; subst e4
  exact ⟨⟨s, ps, n2, l, ts⟩, _, _, _, _, rfl, hrs, hrp, hrl, hrt⟩
end
end Go.Sp
/-
  What a truth (two slices of numbers) reads as.
-/
namespace Go.Sp
open Go Go.Proofs Go.ChangeShapes Go.WideShapes Go.RowKit
theorem cells_92 : Tryz.prog.cellsOf 92 = 2 := by kernel_rfl
section
variable {H : Type} {enc : TypeId × Value → H} {w : World} {base : Nat} {spare : Nat → Bool} {held : Bool}
theorem truth_reads {fuel : Nat} {cs : List Value} {x : DataW H × List MemPlace} (h : DataW.trod enc Tryz.prog w base spare held fuel 92 cs = some x) :
    ∃ (xe xd : List Int) (el dl : Value), cs = [el, dl] ∧ RdI w el xe ∧ RdI w dl xd := by
  obtain ⟨hl, hf⟩ := fields_list Tryz.underlying92 h
  rw [cells_92] at hl
  obtain ⟨c0, c1, rfl⟩ := two' hl
  obtain ⟨⟨_, _, f0⟩, ⟨_, _, f1⟩, _⟩ := hf
  rw [cells_22] at f0
  rw [cells_22] at f1
  obtain ⟨el, es, e0, _, hre, _⟩ := ints_reads Tryz.underlying22 Tryz.underlying3 cells_3 f0
  obtain ⟨dl, ds, e1, _, hrd, _⟩ := ints_reads Tryz.underlying22 Tryz.underlying3 cells_3 f1
  simp at e0 e1
  subst e0; subst e1
  exact ⟨es, ds, _, _, rfl, hre, hrd⟩
end
end Go.Sp
