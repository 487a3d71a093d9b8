/-
  Package trial: one density for each liquid.
-/
import Derived.Test.YtaoohjefbfmhnaaXk
import Derived.Test.YtaoohjefbfmhnaaH
set_option linter.unusedVariables false
set_option linter.unusedSimpArgs false
set_option linter.deprecated false
namespace Go.Sp
open Go Go.Proofs
theorem tk_ibe {id id' : Nat} {Q : Exit → Act → World → Prop} {N : NN} {F : List (Nat × Value)} {bs : List (World × List Nat)} {H : List (Nat × Obj)} (hne : ¬ id' = id) (h : TK (Q (.exit id')) N F bs H) : TK (Exit.inBlock id Q (.exit id')) N F bs H := by
  unfold TK at h ⊢
  intro a w ht hw
  show if id' = id then Q .normal a w else Q (.exit id') a w
  rw [if_neg hne]
  exact h a w ht hw
/-- The first densities, of the first liquids. -/
def dlN (t : Tr) (e : Int × Int × Int) (out : List Int) (n : Nat) : List Int := (List.range n).map fun i => (denseL t e i out).headD 0
theorem dlN_succ (t : Tr) (e : Int × Int × Int) (out : List Int) (n : Nat) : dlN t e out (n + 1) = dlN t e out n ++ [(denseL t e n out).headD 0] := by simp [dlN, List.range_succ]
theorem dlN_len (t : Tr) (e : Int × Int × Int) (out : List Int) (n : Nat) : (dlN t e out n).length = n := by simp [dlN]
def denOk (t : Tr) (e : Int × Int × Int) (out : List Int) : Bool := (List.range t.liquids.length).all fun i => !(denseL t e i out).isEmpty
def denD (t : Tr) (e : Int × Int × Int) (out : List Int) : List Int := if denOk t e out = true then dlN t e out t.liquids.length else []
theorem denOk_no {t : Tr} {e : Int × Int × Int} {out : List Int} {i : Nat} (hi : i < t.liquids.length) (h : (denseL t e i out).length = 0) : denOk t e out = false := by
  cases hb : denOk t e out
  · rfl
  · have := List.all_eq_true.1 hb i (List.mem_range.2 hi)
    rw [List.eq_nil_of_length_eq_zero h] at this; simp at this
theorem denOk_yes {t : Tr} {e : Int × Int × Int} {out : List Int} (h : ∀ i : Nat, i < t.liquids.length → 0 < (denseL t e i out).length) : denOk t e out = true :=
  List.all_eq_true.2 fun i hi => by
    have := h i (List.mem_range.1 hi)
    cases hd : denseL t e i out with
    | nil => rw [hd] at this; simp at this
    | cons _ _ => rfl
/-- The cell of the result, its own block, and the rest. -/
def dnH (t : Tr) (e : Int × Int × Int) (out : List Int) (b6 b4 : Nat) (Ds : List Nat) : OutS → List (Nat × Obj)
  | (_, none) => (b6, .cells #[.slice none 0 0] 22 (0, 0)) :: (b4, .cells (tsV e).cells 75 (0, 0)) :: Dl Ds
  | (n, some (b, cap, junk)) => (b, .cells ((dlN t e out n).map vi ++ junk).toArray 3 (0, 0)) :: (b6, .cells #[.slice (some ⟨b, 0, none⟩) n cap] 22 (0, 0)) :: (b4, .cells (tsV e).cells 75 (0, 0)) :: Dl Ds
def outM : OutS → Prop
  | (n, none) => n = 0
  | (n, some (_, cap, junk)) => n ≤ cap ∧ junk.length = cap - n
theorem nodup4 {a b c d : Nat} {M : List Nat} (h : (a :: b :: c :: d :: M).Nodup) : a ∉ M ∧ b ∉ M ∧ c ∉ M ∧ d ∉ M := by
  simp only [List.nodup_cons, List.mem_cons, not_or] at h
  exact ⟨h.1.2.2.2, h.2.1.2.2, h.2.2.1.2, h.2.2.2.1⟩
theorem den_seq (t : Tr) (hv : VT t) (e : Int × Int × Int) (he : ErB e) (out : List Int) (ho : (out.length : Int) ≤ 9000000000000000000) (oa : Option Addr) (oc : Nat) (sl pl ll tl : Value) (w : World) (bw bm : Nat) (es : Array MapEntry) (ck : Nat) (hT : TW w t sl pl ll tl bw bm es ck) (hO : RdI w (.slice oa out.length oc) out) (i : Nat) (hi : i < t.liquids.length) (w' : World) (x : Nat × Nat × Nat × Nat) {bs : List (World × List Nat)} (ob : Obj) (H : List (Nat × Obj))
    (hw : HG bs ([(x.2.2.1, Obj.cells #[.slice oa out.length oc] 22 (0, 0)), (x.2.1, .cells #[vi i] 3 (0, 0)), (x.2.2.2, .cells (tsV e).cells 75 (0, 0)), (x.1, .cells #[ptr bw] 70 (0, 0))] ++ (bm, ob) :: H) w') (hb : (w, [bm]) ∈ bs) :
    SeqP Try.prog 41 #[ptr x.1, ptr x.2.1, ptr x.2.2.1, ptr x.2.2.2] (fun d : Int => [vi d]) (denseL t e i out) bm (JMt t) (bm :: H.map Prod.fst) w' := by
  have hn := hw.nodup
  simp only [List.cons_append, List.nil_append, List.map_cons] at hn
  obtain ⟨n1, n2, n3, n4⟩ := nodup4 hn
  have hbwlt : bw < w.heap.size := (Array.getElem?_eq_some_iff.1 hT.hw).1
  have hf := hw.base _ hb
  have hown : ∀ z ∈ bm :: H.map Prod.fst, z ∈ [bm] ∨ w.heap.size ≤ z := fun z hz => by
    rcases List.mem_cons.1 hz with rfl | hz
    · exact .inl (by simp)
    · obtain ⟨q, hq, rfl⟩ := List.mem_map.1 hz
      exact hw.own q (by simp [hq]) _ hb
  refine dense_seq t hv e he i hi out ho _ sl pl ll tl w' bw bm x.1 x.2.1 x.2.2.1 x.2.2.2 _ (hw.heap (x.1, .cells #[ptr bw] 70 (0, 0)) (by simp)) (hw.heap (x.2.1, .cells #[vi i] 3 (0, 0)) (by simp)) (hw.heap (x.2.2.1, Obj.cells #[.slice oa out.length oc] 22 (0, 0)) (by simp)) (hw.heap (x.2.2.2, .cells (tsV e).cells 75 (0, 0)) (by simp)) n4 n2 n1 n3 (hf.keepS (by simpa using hT.ne) hT.hw) (fun h => ?_) (by simp) hT.o1 hT.o2 hT.o3 hT.o4 (fun w2 f => ?_)
  · rcases hown _ h with g | g
    · exact hT.ne (by simpa using g)
    · omega
  · have f2 := hf.trans f hown
    exact ⟨hT.rd.frM f2 (fun x hx => by obtain rfl := List.mem_singleton.1 hx; exact ⟨es, ck, hT.hm⟩), Reads.frM hO f2 (fun x hx => by obtain rfl := List.mem_singleton.1 hx; exact ⟨es, ck, hT.hm⟩)⟩
set_option maxHeartbeats 1000000 in
theorem densities_c (t : Tr) (hv : VT t) (e : Int × Int × Int) (he : ErB e) (out : List Int) (ho : (out.length : Int) ≤ 9000000000000000000) (oa : Option Addr) (oc : Nat) (sl pl ll tl : Value) (w : World) (bw bm : Nat) (es : Array MapEntry) (ck : Nat) (hT : TW w t sl pl ll tl bw bm es ck) (hO : RdI w (.slice oa out.length oc) out) :
    CnX Try.prog 54 #[ptr bw, tsV e, .slice oa out.length oc] w [bm] (fun y : Value × Array MapEntry × Nat => .tuple #[y.1, .bool (denOk t e out)]) (fun y w' => (RdI w' y.1 (denD t e out) ∧ Cache (readV t.s) y.2.1.toList) ∧ w'.heap[bm]? = some (.map y.2.1 y.2.2)) := by
  have hne := hT.ne
  have hl3 := hv.l3
  have hbwlt : bw < w.heap.size := (Array.getElem?_eq_some_iff.1 hT.hw).1
  have hkeep : ∀ w', Fr [bm] w w' → w'.heap[bw]? = some (wkT t sl pl ll tl bm) := fun w' f => f.keepS (by simpa using hne) hT.hw
  have hrd : ∀ w', Fr [bm] w w' → RdTr w' t sl pl ll tl ∧ RdI w' (.slice oa out.length oc) out := fun w' f =>
    ⟨hT.rd.frM f (fun x hx => by obtain rfl := List.mem_singleton.1 hx; exact ⟨es, ck, hT.hm⟩), Reads.frM hO f (fun x hx => by obtain rfl := List.mem_singleton.1 hx; exact ⟨es, ck, hT.hm⟩)⟩
  obtain ⟨ad1, cp1, bl, ol, rfl, _, _⟩ := hT.rd.ls.open
  refine cnxS (vs := [_, _, _]) (S := [bm]) [(bm, .map es ck)] Try.func54 rfl rfl ⟨by simp [hT.hm], by simp, by simp⟩ ?_
  all_goals refine tc_seq fun K1 hK1 => ?_
  all_goals refine tc_region ?_
  all_goals refine tl_e (e_box rfl rfl rfl) rfl (fun b4 _ => ?_)
  all_goals refine tl_e (e_alloc1 rfl) rfl (fun b6 _ => ?_)
  all_goals refine tl_q (y_assign rfl) rfl ?_
  all_goals refine tl_nil ?_
  all_goals (refine hK1 ?_; try (clear hK1; clear K1))
  all_goals refine tc_seq fun K2 hK2 => ?_
  all_goals refine tc_seq fun K3 hK3 => ?_
  all_goals refine tc_region ?_
  all_goals refine tl_q (y_move rfl) rfl ?_
  all_goals refine tl_q (y_nil rfl) rfl ?_
  all_goals refine tl_q (y_field rfl) rfl ?_
  all_goals refine tl_q (y_field rfl) rfl ?_
  all_goals (refine tl_q (y_load1o (v := .slice ad1 t.liquids.length cp1) rfl (fun w' hw' => cell0 (hkeep w' (hw'.fr (w0 := w) (S := [bm]) (MI.m (by repeat constructor)))) rfl)) rfl ?_)
  all_goals refine tl_q (y_len rfl) rfl ?_
  all_goals refine tl_q (y_move rfl) rfl ?_
  all_goals refine tl_nil ?_
  all_goals (refine hK3 ?_; try (clear hK3; clear K3))
  all_goals refine tc_block ?_
  all_goals (
   refine tc_loopN (fun p : Nat × Option (Nat × Nat × List Value) × (Array MapEntry × Nat) × List Nat => p.1 ≤ t.liquids.length ∧ outM (p.1, p.2.1) ∧ Cache (readV t.s) p.2.2.1.1.toList ∧ ∀ j : Nat, j < p.1 → 0 < (denseL t e j out).length) (fun p => ⟨Try.f54.ntmps, p.2.2.2.map coll⟩) (fun p => [(0, ptr bw), (2, .slice oa out.length oc), (4, ptr b4), (6, ptr b6), (15, vi t.liquids.length), (16, vi p.1)]) (fun _ => [(w, [bm])]) (fun p => (bm, .map p.2.2.1.1 p.2.2.1.2) :: dnH t e out b6 b4 p.2.2.2 (p.1, p.2.1)) (fun p => t.liquids.length - p.1) ?_ ?_
   · exact tk_startN (0, none, (es, ck), []) ⟨Nat.zero_le _, rfl, hT.hc, fun j hj => absurd hj (Nat.not_lt_zero j)⟩ rfl (.cons rfl (.cons rfl (.cons rfl (.cons rfl (.cons rfl (.cons rfl .nil)))))) (fun _ h => h.perm (List.perm_append_comm (l₁ := [_, _]) (l₂ := [_])))
   · rintro ⟨i, oo, ⟨es2, ck2⟩, Ds⟩ ⟨hi, hok, hca, hall⟩
     dsimp only at hi hok hca hall ⊢
     refine tc_fact (bm ∉ (dnH t e out b6 b4 Ds (i, oo)).map Prod.fst) (fun w' h => (List.nodup_cons.1 h.nodup).1) (fun hbm0 => ?_)
     rcases oo with _ | ⟨b0, cap, junk⟩
     all_goals (dsimp only [outM] at hok; dsimp only [dnH])
     all_goals refine tc_seq fun K4 hK4 => ?_
     all_goals refine tc_region ?_
     all_goals refine tl_q (y_lss rfl rfl) rfl ?_
     all_goals refine tl_nil ?_
     all_goals (refine hK4 ?_; try (clear hK4; clear K4))
     all_goals refine tc_seq fun K5 hK5 => ?_
     all_goals (
      refine tc_cond rfl (fun hc => ?_) (fun hc => ?_)
      · try simp only [decide_eq_true_eq, decide_eq_false_iff_not, Int.not_lt, Int.not_le, Bool.not_eq_true', Bool.not_eq_false', Decidable.not_not, not_true_eq_false] at hc
        all_goals first | (exfalso; with_reducible exact bft hc) | (exfalso; with_reducible exact btf hc) | (exfalso; omega) | skip
        all_goals refine tc_skip ?_
        all_goals (refine hK5 ?_; try (clear hK5; clear K5))
        all_goals refine tc_seq fun K6 hK6 => ?_
        all_goals refine tc_block ?_
        all_goals refine tc_seq fun K7 hK7 => ?_
        all_goals refine tc_region ?_
        all_goals refine tl_q (y_move rfl) rfl ?_
        all_goals refine tl_q (y_assign rfl) rfl ?_
        all_goals refine tl_nil ?_
        all_goals (refine hK7 ?_; try (clear hK7; clear K7))
        all_goals refine tc_seq fun K8 hK8 => ?_
        all_goals refine tc_seq fun K9 hK9 => ?_
        all_goals refine tc_region ?_
        all_goals refine tl_q (y_move rfl) rfl ?_
        all_goals (refine tl_q (y_loadW rfl (by repeat constructor) (by rfl)) rfl ?_)
        all_goals refine tl_q (y_move rfl) rfl ?_
        all_goals refine tl_q (y_move rfl) rfl ?_
        all_goals refine tl_e (e_callN rfl (.cons rfl (.cons rfl (.cons rfl (.cons rfl .nil)))) (fun w' hw' => tdense_c e i bw oa out.length oc w')) rfl (fun x hx => ?_)
        all_goals refine tl_nil ?_
        all_goals (refine hK9 ?_; try (clear hK9; clear K9))
        all_goals refine tc_block ?_
        all_goals (
         first
         | refine tc_rangeP (α := Int) (σ := OutS) (gf := 41) (lb := #[ptr x.1, ptr x.2.1, ptr x.2.2.1, ptr x.2.2.2]) (enc := fun d => [vi d]) (denseL t e i out) (bm :: (dnH t e out b6 b4 Ds (i, none)).map Prod.fst) bm (.map es2 ck2) (JMt t) (dnH t e out b6 b4 Ds) (fun k st => k = 0 ∧ st = (i, none)) (fun c st => c = .exit 2 ∧ outM st ∧ st.1 = i + 1 ∧ st.2.isSome = true ∧ 0 < (denseL t e i out).length ∧ bm ∉ (dnH t e out b6 b4 Ds st).map Prod.fst) (i, none) rfl rfl (fun _ => rfl) ⟨rfl, rfl⟩ (fun q hq => List.mem_cons_of_mem _ (List.mem_map.2 ⟨q, hq, rfl⟩)) (fun w' h => h.subl (SB.s (by repeat constructor)) (SB.s (by repeat constructor))) (by simp) ⟨es2, ck2, rfl, hca⟩ (fun st h => by rcases h with ⟨_, _, rfl⟩ | ⟨_, _, _, _, _, _, h⟩; exact hbm0; exact h) (fun w' hw' => den_seq t hv e he out ho oa oc sl pl _ tl w bw bm es ck hT hO i (by omega) w' x _ _ hw' (by simp)) ?_ ?_ ?_
         | refine tc_rangeP (α := Int) (σ := OutS) (gf := 41) (lb := #[ptr x.1, ptr x.2.1, ptr x.2.2.1, ptr x.2.2.2]) (enc := fun d => [vi d]) (denseL t e i out) (bm :: (dnH t e out b6 b4 Ds (i, some (b0, cap, junk))).map Prod.fst) bm (.map es2 ck2) (JMt t) (dnH t e out b6 b4 Ds) (fun k st => k = 0 ∧ st = (i, some (b0, cap, junk))) (fun c st => c = .exit 2 ∧ outM st ∧ st.1 = i + 1 ∧ st.2.isSome = true ∧ 0 < (denseL t e i out).length ∧ bm ∉ (dnH t e out b6 b4 Ds st).map Prod.fst) (i, some (b0, cap, junk)) rfl rfl (fun _ => rfl) ⟨rfl, rfl⟩ (fun q hq => List.mem_cons_of_mem _ (List.mem_map.2 ⟨q, hq, rfl⟩)) (fun w' h => h.subl (SB.s (by repeat constructor)) (SB.s (by repeat constructor))) (by simp) ⟨es2, ck2, rfl, hca⟩ (fun st h => by rcases h with ⟨_, _, rfl⟩ | ⟨_, _, _, _, _, _, h⟩; exact hbm0; exact h) (fun w' hw' => den_seq t hv e he out ho oa oc sl pl _ tl w bw bm es ck hT hO i (by omega) w' x _ _ hw' (by simp)) ?_ ?_ ?_
         · intro l R0 R1 k st d w2 hlb hb2 hx2 hI K hK
           obtain ⟨rfl, rfl⟩ := hI
           have hdp : 0 < (denseL t e i out).length := (List.getElem?_eq_some_iff.1 hx2).1
           have hdh : (denseL t e i out).headD 0 = d := by rw [List.headD_eq_head?_getD, List.head?_eq_getElem?, hx2]; rfl
           all_goals (dsimp only [dnH] at hK ⊢)
           all_goals refine tc_region ?_
           all_goals refine tl_q (y_assign rfl) rfl ?_
           all_goals refine tl_nil ?_
           all_goals refine hK ?_
           all_goals clear hK
           all_goals refine tc_block ?_
           all_goals refine tc_seq fun K10 hK10 => ?_
           all_goals refine tc_region ?_
           all_goals (refine tl_q (y_load1 rfl (by repeat constructor) (by rfl)) rfl ?_)
           all_goals refine tl_q (y_move rfl) rfl ?_
           all_goals refine tl_e (e_bslice rfl (by (repeat (first | exact .nil | apply PV.one rfl rfl)); done) rfl rfl) rfl (fun _ _ => ?_)
           all_goals (first | refine tl_e (e_append_own (old := (dlN t e out i).map vi) (junk := junk) rfl rfl rfl (by repeat constructor) (by simp [dlN_len]) (by omega) hok.1 (fun w' hw' => RdI.own0 (xs := [d]) hw' (by repeat constructor)) (fun u hu => by obtain ⟨_, _, rfl⟩ := List.mem_map.1 hu; rfl) (by simp only [List.length_cons, List.length_nil]; omega) rfl) rfl (fun y hy => ?_) | refine tl_e (e_append_nil rfl rfl rfl (fun w' hw' => RdI.own0 (xs := [d]) hw' (by repeat constructor)) (fun u hu => by obtain ⟨_, _, rfl⟩ := List.mem_map.1 hu; rfl) Nat.zero_lt_one (Nat.le_of_ble_eq_true rfl) rfl) rfl (fun y hy => ?_))
           all_goals refine tl_e (e_store1 rfl rfl (by repeat constructor) (by repeat constructor) (by rfl) (by rfl)) rfl (fun _ _ => ?_)
           all_goals refine tl_nil ?_
           all_goals (refine hK10 ?_; try (clear hK10; clear K10))
           all_goals refine tc_exit ?_
           all_goals (
            refine tk_ibe (by decide) ?_
            refine tk_fact (y.1 ≠ bm) (fun w' h => ?_) (fun hyb => ?_)
            · intro hyb
              rcases h.own (y.1, _) List.mem_cons_self (w2, _) List.mem_cons_self with g | g
              · rw [hyb] at g
                rcases List.mem_cons.1 g with g | g
                · exact hlb g.symm
                · exact hbm0 g
              · dsimp only at g; omega
            · have hs2 := dlN_succ t e out i
              rw [hdh] at hs2
              refine tk_rexit (i + 1, some (y.1, y.2.1, y.2.2)) ⟨rfl, ?_, rfl, rfl, hdp, ?_⟩ (fun w' h => ?_)
              · dsimp only [outM]; simp only [List.length_cons, List.length_nil] at hy; omega
              · dsimp only [dnH] at hbm0 ⊢
                simp only [List.map_cons, List.mem_cons, not_or] at hbm0 ⊢
                first
                | exact ⟨Ne.symm hyb, hbm0.1, hbm0.2⟩
                | exact ⟨Ne.symm hyb, hbm0.2.1, hbm0.2.2⟩
              · dsimp only [dnH]
                rw [hs2, List.map_append]
                first
                | (rw [show dlN t e out i = [] from List.eq_nil_of_length_eq_zero (by rw [dlN_len]; exact hok), List.map_nil, List.nil_append, show i + 1 = [d].length from by simp only [List.length_cons, List.length_nil]; omega]
                   exact (h.subl (SB.s (by repeat constructor)) (SB.s (by repeat constructor))).sw)
                | exact (h.subl (SB.s (by repeat constructor)) (SB.s (by repeat constructor))).sw)
         · intro D st o' hJo hI
           obtain ⟨hl0, rfl⟩ := hI
           obtain ⟨es3, ck3, rfl, hca3⟩ := hJo
           dsimp only [dnH]
           all_goals (refine hK8 ?_; try (clear hK8; clear K8))
           all_goals refine tc_seq fun K11 hK11 => ?_
           all_goals refine tc_region ?_
           all_goals (refine tl_q (y_load1 rfl (by repeat constructor) (by rfl)) rfl ?_)
           all_goals refine tl_q (y_len rfl) rfl ?_
           all_goals refine tl_q (y_move rfl) rfl ?_
           all_goals refine tl_q (y_leq rfl rfl) rfl ?_
           all_goals refine tl_nil ?_
           all_goals (refine hK11 ?_; try (clear hK11; clear K11))
           all_goals (
            refine tc_cond rfl (fun hc => ?_) (fun hc => ?_)
            · try simp only [decide_eq_true_eq, decide_eq_false_iff_not, Int.not_lt, Int.not_le, Bool.not_eq_true', Bool.not_eq_false', Decidable.not_not, not_true_eq_false] at hc
              all_goals first | (exfalso; with_reducible exact bft hc) | (exfalso; with_reducible exact btf hc) | (exfalso; omega) | skip
              all_goals refine tc_seq fun K12 hK12 => ?_
              all_goals refine tc_region ?_
              all_goals refine tl_e (e_store1 rfl rfl (by repeat constructor) (by repeat constructor) (by rfl) (by rfl)) rfl (fun _ _ => ?_)
              all_goals refine tl_q (y_assign rfl) rfl ?_
              all_goals refine tl_nil ?_
              all_goals (refine hK12 ?_; try (clear hK12; clear K12))
              all_goals refine tc_ret ?_
              all_goals (repeat (first | refine tk_then_ret ?_ | refine tk_block_ret ?_))
              all_goals (first
              | refine tk_retD (D :: Ds) rfl (fun _ h => h.perm (.cons _ (List.perm_append_comm (l₁ := [_, _, _])))) rfl (.cons (.one inferInstance rfl (by repeat constructor) (by rfl)) (.cons (.tmp rfl) .nil)) ?_
              | refine tk_retD (D :: Ds) rfl (fun _ h => h.perm (.cons _ (List.perm_append_comm (l₁ := [_, _, _, _])))) rfl (.cons (.one inferInstance rfl (by repeat constructor) (by rfl)) (.cons (.tmp rfl) .nil)) ?_
              | refine tk_retD Ds rfl (fun _ h => h.perm (List.perm_append_comm (l₁ := [_, _, _]))) rfl (.cons (.one inferInstance rfl (by repeat constructor) (by rfl)) (.cons (.tmp rfl) .nil)) ?_
              | refine tk_retD Ds rfl (fun _ h => h.perm (List.perm_append_comm (l₁ := [_, _, _, _]))) rfl (.cons (.one inferInstance rfl (by repeat constructor) (by rfl)) (.cons (.tmp rfl) .nil)) ?_)
              all_goals (
               first
               | (have hno := denOk_no (t := t) (e := e) (out := out) (i := i) (by omega) hl0
                  exact fun w' hw' => ⟨(.slice none 0 0, es3, ck3), by rw [hno]; rfl, hw'.fr (by simp), ⟨by unfold denD; rw [hno]; exact RdI.nil _, hca3⟩, hw'.heap _ (HM.mem (b := bm) (by repeat constructor))⟩)
               | (have hil : i = t.liquids.length := by omega
                  subst hil
                  have hyes := denOk_yes (t := t) (e := e) (out := out) hall
                  refine fun w' hw' => ⟨(.slice (some ⟨b0, 0, none⟩) t.liquids.length cap, es2, ck2), by rw [hyes]; rfl, hw'.fr (by simp), ⟨?_, hca⟩, hw'.heap _ (HM.mem (b := bm) (by repeat constructor))⟩
                  have := RdI.own (xs := dlN t e out t.liquids.length) (cap := cap) (junk := junk) hw' (b := b0) (by repeat constructor)
                  rw [dlN_len] at this
                  unfold denD; rw [if_pos hyes]; exact this)
               | (have := hv.l1; exfalso; omega))
            · try simp only [decide_eq_true_eq, decide_eq_false_iff_not, Int.not_lt, Int.not_le, Bool.not_eq_true', Bool.not_eq_false', Decidable.not_not, not_true_eq_false] at hc
              all_goals first | (exfalso; with_reducible exact bft hc) | (exfalso; with_reducible exact btf hc) | (exfalso; omega) | skip
              all_goals refine tc_skip ?_
              all_goals (refine hK6 ?_; try (clear hK6; clear K6))
              all_goals refine tc_region ?_
              all_goals refine tl_q (y_add rfl rfl (by omega)) rfl ?_
              all_goals refine tl_q (y_move rfl) rfl ?_
              all_goals refine tl_nil ?_
              all_goals (
               refine tk_roundN (i + 1, some (b2, cap2, junk2), (es3, ck3), D :: Ds) ⟨by dsimp only; omega, hok2, hca3, fun j hj => ?_⟩ (by dsimp only; omega) rfl (.cons rfl (.cons rfl (.cons rfl (.cons rfl (.cons rfl (.cons rfl .nil)))))) (fun _ h => h.perm (List.perm_middle (l₁ := [_, _, _, _])).symm)
               rcases Nat.lt_succ_iff_lt_or_eq.1 hj with g | rfl
               · exact hall j g
               · exact hdp))
         · intro D c st o' hJo hJ
           obtain ⟨rfl, hok2, hst, hsome, hdp, _⟩ := hJ
           obtain ⟨es3, ck3, rfl, hca3⟩ := hJo
           obtain ⟨n, o2⟩ := st
           rcases o2 with _ | ⟨b2, cap2, junk2⟩
           · simp at hsome
           dsimp only at hst
           subst hst
           dsimp only [dnH, outM] at hok2 ⊢
           all_goals refine tc_exit ?_
           all_goals (refine hK8 ?_; try (clear hK8; clear K8))
           all_goals refine tc_seq fun K13 hK13 => ?_
           all_goals refine tc_region ?_
           all_goals (refine tl_q (y_load1 rfl (by repeat constructor) (by rfl)) rfl ?_)
           all_goals refine tl_q (y_len rfl) rfl ?_
           all_goals refine tl_q (y_move rfl) rfl ?_
           all_goals refine tl_q (y_leq rfl rfl) rfl ?_
           all_goals refine tl_nil ?_
           all_goals (refine hK13 ?_; try (clear hK13; clear K13))
           all_goals (
            refine tc_cond rfl (fun hc => ?_) (fun hc => ?_)
            · try simp only [decide_eq_true_eq, decide_eq_false_iff_not, Int.not_lt, Int.not_le, Bool.not_eq_true', Bool.not_eq_false', Decidable.not_not, not_true_eq_false] at hc
              all_goals first | (exfalso; with_reducible exact bft hc) | (exfalso; with_reducible exact btf hc) | (exfalso; omega) | skip
              all_goals refine tc_seq fun K14 hK14 => ?_
              all_goals refine tc_region ?_
              all_goals refine tl_e (e_store1 rfl rfl (by repeat constructor) (by repeat constructor) (by rfl) (by rfl)) rfl (fun _ _ => ?_)
              all_goals refine tl_q (y_assign rfl) rfl ?_
              all_goals refine tl_nil ?_
              all_goals (refine hK14 ?_; try (clear hK14; clear K14))
              all_goals refine tc_ret ?_
              all_goals (repeat (first | refine tk_then_ret ?_))
              all_goals (first
              | refine tk_retD (D :: Ds) rfl (fun _ h => h.perm (.cons _ (List.perm_append_comm (l₁ := [_, _, _])))) rfl (.cons (.one inferInstance rfl (by repeat constructor) (by rfl)) (.cons (.tmp rfl) .nil)) ?_
              | refine tk_retD (D :: Ds) rfl (fun _ h => h.perm (.cons _ (List.perm_append_comm (l₁ := [_, _, _, _])))) rfl (.cons (.one inferInstance rfl (by repeat constructor) (by rfl)) (.cons (.tmp rfl) .nil)) ?_
              | refine tk_retD Ds rfl (fun _ h => h.perm (List.perm_append_comm (l₁ := [_, _, _]))) rfl (.cons (.one inferInstance rfl (by repeat constructor) (by rfl)) (.cons (.tmp rfl) .nil)) ?_
              | refine tk_retD Ds rfl (fun _ h => h.perm (List.perm_append_comm (l₁ := [_, _, _, _]))) rfl (.cons (.one inferInstance rfl (by repeat constructor) (by rfl)) (.cons (.tmp rfl) .nil)) ?_)
              all_goals (
               first
               | (have hno := denOk_no (t := t) (e := e) (out := out) (i := i) (by omega) hl0
                  exact fun w' hw' => ⟨(.slice none 0 0, es3, ck3), by rw [hno]; rfl, hw'.fr (by simp), ⟨by unfold denD; rw [hno]; exact RdI.nil _, hca3⟩, hw'.heap _ (HM.mem (b := bm) (by repeat constructor))⟩)
               | (have hil : i = t.liquids.length := by omega
                  subst hil
                  have hyes := denOk_yes (t := t) (e := e) (out := out) hall
                  refine fun w' hw' => ⟨(.slice (some ⟨b0, 0, none⟩) t.liquids.length cap, es2, ck2), by rw [hyes]; rfl, hw'.fr (by simp), ⟨?_, hca⟩, hw'.heap _ (HM.mem (b := bm) (by repeat constructor))⟩
                  have := RdI.own (xs := dlN t e out t.liquids.length) (cap := cap) (junk := junk) hw' (b := b0) (by repeat constructor)
                  rw [dlN_len] at this
                  unfold denD; rw [if_pos hyes]; exact this)
               | (have := hv.l1; exfalso; omega))
            · try simp only [decide_eq_true_eq, decide_eq_false_iff_not, Int.not_lt, Int.not_le, Bool.not_eq_true', Bool.not_eq_false', Decidable.not_not, not_true_eq_false] at hc
              all_goals first | (exfalso; with_reducible exact bft hc) | (exfalso; with_reducible exact btf hc) | (exfalso; omega) | skip
              all_goals refine tc_skip ?_
              all_goals (refine hK6 ?_; try (clear hK6; clear K6))
              all_goals refine tc_region ?_
              all_goals refine tl_q (y_add rfl rfl (by omega)) rfl ?_
              all_goals refine tl_q (y_move rfl) rfl ?_
              all_goals refine tl_nil ?_
              all_goals (
               refine tk_roundN (i + 1, some (b2, cap2, junk2), (es3, ck3), D :: Ds) ⟨by dsimp only; omega, hok2, hca3, fun j hj => ?_⟩ (by dsimp only; omega) rfl (.cons rfl (.cons rfl (.cons rfl (.cons rfl (.cons rfl (.cons rfl .nil)))))) (fun _ h => h.perm (List.perm_middle (l₁ := [_, _, _, _])).symm)
               rcases Nat.lt_succ_iff_lt_or_eq.1 hj with g | rfl
               · exact hall j g
               · exact hdp)))
      · try simp only [decide_eq_true_eq, decide_eq_false_iff_not, Int.not_lt, Int.not_le, Bool.not_eq_true', Bool.not_eq_false', Decidable.not_not, not_true_eq_false] at hc
        all_goals first | (exfalso; with_reducible exact bft hc) | (exfalso; with_reducible exact btf hc) | (exfalso; omega) | skip
        all_goals refine tc_exit ?_
        all_goals (refine hK2 ?_; try (clear hK2; clear K2))
        all_goals refine tc_seq fun K15 hK15 => ?_
        all_goals refine tc_region ?_
        all_goals (refine tl_q (y_load1 rfl (by repeat constructor) (by rfl)) rfl ?_)
        all_goals refine tl_e (e_store1 rfl rfl (by repeat constructor) (by repeat constructor) (by rfl) (by rfl)) rfl (fun _ _ => ?_)
        all_goals refine tl_q (y_assign rfl) rfl ?_
        all_goals refine tl_nil ?_
        all_goals (refine hK15 ?_; try (clear hK15; clear K15))
        all_goals refine tc_ret ?_
        all_goals (repeat (first | refine tk_then_ret ?_))
        all_goals (first
        | refine tk_retD (D :: Ds) rfl (fun _ h => h.perm (.cons _ (List.perm_append_comm (l₁ := [_, _, _])))) rfl (.cons (.one inferInstance rfl (by repeat constructor) (by rfl)) (.cons (.tmp rfl) .nil)) ?_
        | refine tk_retD (D :: Ds) rfl (fun _ h => h.perm (.cons _ (List.perm_append_comm (l₁ := [_, _, _, _])))) rfl (.cons (.one inferInstance rfl (by repeat constructor) (by rfl)) (.cons (.tmp rfl) .nil)) ?_
        | refine tk_retD Ds rfl (fun _ h => h.perm (List.perm_append_comm (l₁ := [_, _, _]))) rfl (.cons (.one inferInstance rfl (by repeat constructor) (by rfl)) (.cons (.tmp rfl) .nil)) ?_
        | refine tk_retD Ds rfl (fun _ h => h.perm (List.perm_append_comm (l₁ := [_, _, _, _]))) rfl (.cons (.one inferInstance rfl (by repeat constructor) (by rfl)) (.cons (.tmp rfl) .nil)) ?_)
        all_goals (
         first
         | (have hno := denOk_no (t := t) (e := e) (out := out) (i := i) (by omega) hl0
            exact fun w' hw' => ⟨(.slice none 0 0, es3, ck3), by rw [hno]; rfl, hw'.fr (by simp), ⟨by unfold denD; rw [hno]; exact RdI.nil _, hca3⟩, hw'.heap _ (HM.mem (b := bm) (by repeat constructor))⟩)
         | (have hil : i = t.liquids.length := by omega
            subst hil
            have hyes := denOk_yes (t := t) (e := e) (out := out) hall
            refine fun w' hw' => ⟨(.slice (some ⟨b0, 0, none⟩) t.liquids.length cap, es2, ck2), by rw [hyes]; rfl, hw'.fr (by simp), ⟨?_, hca⟩, hw'.heap _ (HM.mem (b := bm) (by repeat constructor))⟩
            have := RdI.own (xs := dlN t e out t.liquids.length) (cap := cap) (junk := junk) hw' (b := b0) (by repeat constructor)
            rw [dlN_len] at this
            unfold denD; rw [if_pos hyes]; exact this)
         | (have := hv.l1; exfalso; omega))))
end Go.Sp
