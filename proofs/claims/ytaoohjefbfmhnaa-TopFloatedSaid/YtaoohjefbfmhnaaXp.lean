/-
  Package trial: the bounds of all densities.
-/
import Derived.Test.YtaoohjefbfmhnaaXo
import Derived.Test.YtaoohjefbfmhnaaP
set_option linter.unusedVariables false
set_option linter.unusedSimpArgs false
set_option linter.deprecated false
namespace Go.Sp
open Go Go.Proofs
def widN (l : List Int) (r : Int × Int) (n : Nat) : Int × Int := (l.take n).foldl (fun r d => (min r.1 d, max r.2 d)) r
theorem widN_succ {l : List Int} {r : Int × Int} {n : Nat} {d : Int} (h : l[n]? = some d) : widN l r (n + 1) = (min (widN l r n).1 d, max (widN l r n).2 d) := by
  unfold widN
  rw [List.take_add_one, h, List.foldl_append]; rfl
/-- The bounds of a liquid's density: over so many errors. -/
def bouN (t : Tr) (i : Nat) (n : Nat) : Int × Int := ((truthsL t []).take n).foldl (fun r e => widN (denseL t e i []) r (denseL t e i []).length) ((lqAt t i).2, (lqAt t i).1)
theorem bouN_succ {t : Tr} {i n : Nat} {e : Int × Int × Int} (h : (truthsL t [])[n]? = some e) : bouN t i (n + 1) = widN (denseL t e i []) (bouN t i n) (denseL t e i []).length := by
  unfold bouN
  rw [List.take_add_one, h, List.foldl_append]; rfl
def densR (t : Tr) (n : Nat) : List (Int × Int) := (List.range n).map fun i => bouN t i (truthsL t []).length
theorem densR_succ (t : Tr) (n : Nat) : densR t (n + 1) = densR t n ++ [bouN t n (truthsL t []).length] := by simp [densR, List.range_succ]
theorem densR_len (t : Tr) (n : Nat) : (densR t n).length = n := by simp [densR]
def dsE (t : Tr) : List (Int × Int) × Int := if askedE t = 0 then (densR t t.liquids.length, 0) else ([], askedE t)
theorem densities_no (t : Tr) (hn : NT t) (he : ¬ askedE t = 0) (sl pl ll tl : Value) (w : World) (hr : RdTr w t sl pl ll tl) : CnV Try.prog 11 #[trV t sl pl ll tl] w (.tuple #[.slice none 0 0, vi (askedE t)]) := by
  have hr0 := hr
  refine cnv (vs := [_]) Try.func11 rfl rfl ?_
  all_goals refine tc_seq fun K1 hK1 => ?_
  all_goals refine tc_region ?_
  all_goals refine tl_e (e_box rfl rfl rfl) rfl (fun b1 _ => ?_)
  all_goals refine tl_q (y_assign rfl) rfl ?_
  all_goals refine tl_q (y_assign rfl) rfl ?_
  all_goals refine tl_nil ?_
  all_goals (refine hK1 ?_; try (clear hK1; clear K1))
  all_goals refine tc_seq fun K2 hK2 => ?_
  all_goals refine tc_region ?_
  all_goals (refine tl_q (y_loadW rfl (by repeat constructor) (by rfl)) rfl ?_)
  all_goals refine tl_e (e_callV rfl (.cons rfl .nil) (fun w' hw' => asked_no t hn he _ _ _ _ w' (hr0.fr (hw'.fr (by simp))))) rfl (fun _ _ => ?_)
  all_goals refine tl_q (y_move rfl) rfl ?_
  all_goals refine tl_q (y_extract rfl rfl) rfl ?_
  all_goals refine tl_q (y_extract rfl rfl) rfl ?_
  all_goals refine tl_q (y_extract rfl rfl) rfl ?_
  all_goals refine tl_q (y_assign rfl) rfl ?_
  all_goals refine tl_q (y_assign rfl) rfl ?_
  all_goals refine tl_q (y_assign rfl) rfl ?_
  all_goals refine tl_nil ?_
  all_goals (refine hK2 ?_; try (clear hK2; clear K2))
  all_goals refine tc_seq fun K3 hK3 => ?_
  all_goals refine tc_seq fun K4 hK4 => ?_
  all_goals refine tc_region ?_
  all_goals refine tl_q (y_move rfl) rfl ?_
  all_goals refine tl_q (y_neq rfl rfl) rfl ?_
  all_goals refine tl_nil ?_
  all_goals (refine hK4 ?_; try (clear hK4; clear K4))
  all_goals (
   refine tc_cond rfl (fun hc => ?_) (fun hc => ?_)
   · try simp only [decide_eq_true_eq, decide_eq_false_iff_not, Int.not_lt, Int.not_le, Bool.not_eq_true', Bool.not_eq_false', Decidable.not_not, not_true_eq_false] at hc
     all_goals first | (exfalso; with_reducible exact bft hc) | (exfalso; with_reducible exact btf hc) | (exfalso; omega) | skip
     all_goals refine tc_seq fun K5 hK5 => ?_
     all_goals refine tc_region ?_
     all_goals refine tl_q (y_move rfl) rfl ?_
     all_goals refine tl_q (y_assign rfl) rfl ?_
     all_goals refine tl_q (y_assign rfl) rfl ?_
     all_goals refine tl_nil ?_
     all_goals (refine hK5 ?_; try (clear hK5; clear K5))
     all_goals refine tc_ret ?_
     all_goals (repeat (refine tk_then_ret ?_))
     all_goals first | refine tk_ret rfl rfl (.cons (.tmp rfl) (.cons (.tmp rfl) .nil)) ?_ | refine tk_retM rfl (by repeat constructor) rfl (.cons (.tmp rfl) (.cons (.tmp rfl) .nil)) ?_
     all_goals (
      refine fun w' hw' => ⟨rfl, hw'.fr (by simp)⟩)
   · try simp only [decide_eq_true_eq, decide_eq_false_iff_not, Int.not_lt, Int.not_le, Bool.not_eq_true', Bool.not_eq_false', Decidable.not_not, not_true_eq_false] at hc
     all_goals first | (exfalso; with_reducible exact bft hc) | (exfalso; with_reducible exact btf hc) | (exfalso; omega) | skip
     all_goals refine tc_skip ?_
     all_goals (refine hK3 ?_; try (clear hK3; clear K3))
     all_goals refine tc_seq fun K6 hK6 => ?_
     all_goals (exfalso; omega)
     all_goals refine tc_region ?_
     all_goals refine tl_q (y_assign rfl) rfl ?_
     all_goals refine tl_nil ?_
     all_goals (refine hK6 ?_; try (clear hK6; clear K6))
     all_goals refine tc_seq fun K7 hK7 => ?_
     all_goals refine tc_seq fun K8 hK8 => ?_
     all_goals refine tc_region ?_
     all_goals refine tl_q (y_field rfl) rfl ?_
     all_goals refine tl_q (y_load1 rfl (by repeat constructor) (by rfl)) rfl ?_
     all_goals refine tl_q (y_len rfl) rfl ?_
     all_goals refine tl_q (y_move rfl) rfl ?_
     all_goals refine tl_nil ?_
     all_goals (refine hK8 ?_; try (clear hK8; clear K8))
     all_goals refine tc_block ?_
     all_goals skip)
/-- A call that makes a block that is known, and returns something of which more is known. -/
theorem RdT.opens1 {w : World} {xs : List (Int × Int × Int)} {x : Option Addr × Nat} (h : RdT w (slV xs.length x) xs) : ∃ b o, 0 < xs.length → x.1 = some ⟨b, o, none⟩ := by
  obtain ⟨ad, cap, b, o, e, had, _⟩ := h.open
  injection e with e1 e2 e3
  subst e1
  exact ⟨b, o, had⟩
theorem RdT.at1 {w : World} {b o : Nat} {xs : List (Int × Int × Int)} {x : Option Addr × Nat} (h : RdT w (slV xs.length x) xs) (hx : x.1 = some ⟨b, o, none⟩) {i : Nat} (hi : i < xs.length) : CA (fun k => w.cell? ⟨b, k, none⟩) (o + i * 3) 3 [vi (xs.getD i (0, 0, 0)).1, vi (xs.getD i (0, 0, 0)).2.1, vi (xs.getD i (0, 0, 0)).2.2] := by
  unfold slV at h
  rw [hx] at h
  exact h.at hi
theorem e_callBX {P : Program} {N : NN} {F : List (Nat × Value)} {bs : List (World × List Nat)} {H : List (Nat × Obj)} {d : Tmp} {ty : TypeId} {pos : String} {after : Array Edge} {g : Option (Nat × Bool)} {f : FuncId} [GoFn P f] {xs : List Operand} {tys : Array TypeId} {vs : List Value} {α : Type} {val : α → Value} {p : α → World → Prop} {bk : α → Nat} {ob : α → Obj}
    (hd : Nat.blt d N.n = true) (hxs : EA F xs vs) (hc : ∀ w, HG bs H w → CnX P f vs.toArray w [] val (fun x w' => p x w' ∧ w.heap.size ≤ bk x ∧ w'.heap[bk x]? = some (ob x))) :
    OpE P ⟨some d, .call ⟨.value (.func f), xs.toArray, tys⟩, ty, pos, after, g⟩ N F bs H (fun y : α × World => p y.1 y.2 ∧ HG bs ((bk y.1, ob y.1) :: H) y.2) (fun y => (d, val y.1) :: F) (fun y => (y.2, bk y.1 :: H.map Prod.fst) :: bs) (fun y => (bk y.1, ob y.1) :: H) := by
  unfold OpE
  intro a w ht hw K Q hK
  unfold Oper.wp
  rw [exec_call (x := .func f) rfl hxs ht w]
  simp only [Oper.upon]
  simp only [Array.empty_append, Array.append_empty]
  have hcc := hc w hw
  unfold CnX at hcc
  refine hcc.mono fun e w' he => ?_
  obtain ⟨x, rfl, hf, hp, h1, h2⟩ := he
  have hg := hw.add hf h1 h2
  exact hK (x, w') _ _ ⟨hp, hg⟩ (ht.put hd _) hg.push
def ownD (t : Tr) : Nat × Option (Nat × Nat × List Value) → List (Nat × Obj)
  | (_, none) => []
  | (n, some (b, _, junk)) => [(b, .cells (flatR (densR t n) ++ junk).toArray 59 (0, 0))]
set_option maxHeartbeats 1000000 in
theorem densities_ok (t : Tr) (hn : NT t) (he : askedE t = 0) (sl pl ll tl : Value) (w : World) (hr : RdTr w t sl pl ll tl) :
    CnX Try.prog 11 #[trV t sl pl ll tl] w [] (fun y : Option Addr × Nat => .tuple #[slV t.liquids.length y, vi 0]) (fun y w' => RdR w' (slV t.liquids.length y) (densR t t.liquids.length)) := by
  have hr0 := hr
  obtain ⟨hv, hpos⟩ := askedE_0 he
  have hl3 := hv.l3
  have hl1 := hv.l1
  have htl : (truthsL t []).length ≤ 343 := Nat.le_trans (List.length_filter_le _ _) (every_len hv)
  obtain ⟨ad, cp, b0, o0, rfl, had, hcell⟩ := hr.ls.open
  cases had (by omega)
  refine cnx0 (vs := [_]) Try.func11 rfl rfl ?_
  all_goals refine tc_seq fun K1 hK1 => ?_
  all_goals refine tc_region ?_
  all_goals refine tl_e (e_box rfl rfl rfl) rfl (fun b1 _ => ?_)
  all_goals refine tl_q (y_assign rfl) rfl ?_
  all_goals refine tl_q (y_assign rfl) rfl ?_
  all_goals refine tl_nil ?_
  all_goals (refine hK1 ?_; try (clear hK1; clear K1))
  all_goals refine tc_seq fun K2 hK2 => ?_
  all_goals refine tc_lay ([]) (SB.s (by repeat constructor)) (fun wl1 hl1 => ?_)
  all_goals refine tc_region ?_
  all_goals (refine tl_q (y_loadWf rfl (hl1.at (by repeat constructor)) (MI.m (by repeat constructor)) (by simp) (by rfl)) rfl ?_)
  all_goals refine tl_e (e_callBX (bk := fun y : (Nat × Nat) × (Option Addr × Nat) × Array MapEntry × Nat => y.1.2) (ob := fun y => .map y.2.2.1 y.2.2.2) rfl (.cons rfl .nil) (fun w' hw' => asked_ok t hn he _ _ _ _ w' (hr0.fr (hw'.fr (w0 := w) (S := []) (MI.m (by repeat constructor)))))) rfl (fun y hy => ?_)
  all_goals refine tl_q (y_move rfl) rfl ?_
  all_goals refine tl_q (y_extract rfl rfl) rfl ?_
  all_goals refine tl_q (y_extract rfl rfl) rfl ?_
  all_goals refine tl_q (y_extract rfl rfl) rfl ?_
  all_goals refine tl_q (y_assign rfl) rfl ?_
  all_goals refine tl_q (y_assign rfl) rfl ?_
  all_goals refine tl_q (y_assign rfl) rfl ?_
  all_goals refine tl_nil ?_
  all_goals (refine hK2 ?_; try (clear hK2; clear K2))
  all_goals refine tc_seq fun K3 hK3 => ?_
  all_goals refine tc_seq fun K4 hK4 => ?_
  all_goals (have hTW : TW y.2 t _ _ _ _ y.1.1.1 y.1.1.2 y.1.2.2.1 y.1.2.2.2 := ⟨hr0.fr (hy.2.fr (w0 := w) (S := []) (MI.m (by repeat constructor))), hy.1.2.2.1, hy.2.heap _ (HM.mem (by repeat constructor)), hy.1.2.1, hr0.ws.one, hr0.ps.one, hr0.ls.one, hr0.ts.one⟩)
  all_goals (have hrdT : ∀ w', Fr [y.1.1.2] y.2 w' → RdT w' (slV (truthsL t []).length y.1.2.1) (truthsL t []) := fun w' f => Reads.frM hy.1.1 f (fun z hz => by obtain rfl := List.mem_singleton.1 hz; exact ⟨_, _, hy.2.heap _ (HM.mem .head)⟩))
  all_goals (obtain ⟨bT, oT, hadT⟩ := hy.1.1.opens1)
  all_goals refine tc_region ?_
  all_goals refine tl_q (y_move rfl) rfl ?_
  all_goals refine tl_q (y_neq rfl rfl) rfl ?_
  all_goals refine tl_nil ?_
  all_goals (refine hK4 ?_; try (clear hK4; clear K4))
  all_goals (
   refine tc_cond rfl (fun hc => ?_) (fun hc => ?_)
   · try simp only [decide_eq_true_eq, decide_eq_false_iff_not, Int.not_lt, Int.not_le, Bool.not_eq_true', Bool.not_eq_false', Decidable.not_not, not_true_eq_false] at hc
     all_goals first | (exfalso; with_reducible exact bft hc) | (exfalso; with_reducible exact btf hc) | (exfalso; omega) | skip
     all_goals refine tc_seq fun K5 hK5 => ?_
     all_goals refine tc_region ?_
     all_goals refine tl_q (y_move rfl) rfl ?_
     all_goals refine tl_q (y_assign rfl) rfl ?_
     all_goals refine tl_q (y_assign rfl) rfl ?_
     all_goals refine tl_nil ?_
     all_goals (refine hK5 ?_; try (clear hK5; clear K5))
     all_goals refine tc_ret ?_
     all_goals (repeat (first | refine tk_then_ret ?_))
     all_goals (refine tk_retD Ds rfl (fun _ h => h.perm (List.perm_append_comm (l₁ := [_, _]))) rfl (.cons (.tmp rfl) (.cons (.tmp rfl) .nil)) ?_)
     all_goals (
      refine fun w' hw' => ⟨(some ⟨bo, 0, none⟩, cap), rfl, hw'.fr (by simp), ?_⟩
      have := RdR.own (xs := densR t t.liquids.length) (cap := cap) (junk := junk) (b := bo) hw' (by repeat constructor)
      rw [densR_len] at this
      exact this)
   · try simp only [decide_eq_true_eq, decide_eq_false_iff_not, Int.not_lt, Int.not_le, Bool.not_eq_true', Bool.not_eq_false', Decidable.not_not, not_true_eq_false] at hc
     all_goals first | (exfalso; with_reducible exact bft hc) | (exfalso; with_reducible exact btf hc) | (exfalso; omega) | skip
     all_goals refine tc_skip ?_
     all_goals (refine hK3 ?_; try (clear hK3; clear K3))
     all_goals refine tc_seq fun K6 hK6 => ?_
     all_goals refine tc_region ?_
     all_goals refine tl_q (y_assign rfl) rfl ?_
     all_goals refine tl_nil ?_
     all_goals (refine hK6 ?_; try (clear hK6; clear K6))
     all_goals refine tc_seq fun K7 hK7 => ?_
     all_goals refine tc_seq fun K8 hK8 => ?_
     all_goals refine tc_region ?_
     all_goals refine tl_q (y_field rfl) rfl ?_
     all_goals (refine tl_q (y_load1f rfl (hl1.at (by repeat constructor)) (MI.m (by repeat constructor)) (by simp) (by rfl)) rfl ?_)
     all_goals refine tl_q (y_len rfl) rfl ?_
     all_goals refine tl_q (y_move rfl) rfl ?_
     all_goals refine tl_nil ?_
     all_goals (refine hK8 ?_; try (clear hK8; clear K8))
     all_goals refine tc_block ?_
     all_goals (
      refine tc_loopN (fun p : Nat × Option (Nat × Nat × List Value) × (Array MapEntry × Nat) × List Nat => p.1 ≤ t.liquids.length ∧ outOkR (p.1, p.2.1) ∧ Cache (readV t.s) p.2.2.1.1.toList) (fun p => ⟨Try.f11.ntmps, p.2.2.2.map coll⟩) (fun p => [(1, ptr b1), (4, ptr y.1.1.1), (5, slV (truthsL t []).length y.1.2.1), (7, outV' (p.1, p.2.1)), (24, .slice (some ⟨b0, o0, none⟩) t.liquids.length cp), (25, vi t.liquids.length), (26, vi p.1)]) (fun _ => [(y.2, [y.1.1.2]), (wl1, []), (w, [])]) (fun p => (y.1.1.2, .map p.2.2.1.1 p.2.2.1.2) :: (ownD t (p.1, p.2.1) ++ Dl p.2.2.2)) (fun p => t.liquids.length - p.1) ?_ ?_
      · exact tk_startN (0, none, (y.1.2.2.1, y.1.2.2.2), []) ⟨Nat.zero_le _, rfl, hy.1.2.1⟩ rfl (.cons rfl (.cons rfl (.cons rfl (.cons rfl (.cons rfl (.cons rfl (.cons rfl .nil))))))) (fun _ h => h.subl (SB.s (by repeat constructor)) (SB.s (by repeat constructor)))
      · rintro ⟨i, oo, ⟨es2, ck2⟩, Ds⟩ ⟨hi, hok, hca⟩
        dsimp only at hi hok hca ⊢
        all_goals refine tc_seq fun K9 hK9 => ?_
        all_goals refine tc_region ?_
        all_goals refine tl_q (y_lss rfl rfl) rfl ?_
        all_goals refine tl_nil ?_
        all_goals (refine hK9 ?_; try (clear hK9; clear K9))
        all_goals refine tc_seq fun K10 hK10 => ?_
        all_goals (
         refine tc_cond rfl (fun hc => ?_) (fun hc => ?_)
         · try simp only [decide_eq_true_eq, decide_eq_false_iff_not, Int.not_lt, Int.not_le, Bool.not_eq_true', Bool.not_eq_false', Decidable.not_not, not_true_eq_false] at hc
           all_goals first | (exfalso; with_reducible exact bft hc) | (exfalso; with_reducible exact btf hc) | (exfalso; omega) | skip
           all_goals refine tc_skip ?_
           all_goals (refine hK10 ?_; try (clear hK10; clear K10))
           all_goals refine tc_seq fun K11 hK11 => ?_
           all_goals refine tc_block ?_
           all_goals refine tc_seq fun K12 hK12 => ?_
           all_goals refine tc_region ?_
           all_goals refine tl_q (y_move rfl) rfl ?_
           all_goals (refine tl_q (y_index rfl rfl (by omega) rfl) rfl ?_)
           all_goals (refine tl_q (y_loadNo (n := 2) (vs := [vi (lqAt t i).1, vi (lqAt t i).2]) rfl (fun w' hw' => by rw [show Int.toNat (i : Int) * 2 = i * 2 from by omega]; exact hcell w' [] (hw'.fr (w0 := w) (S := []) (MI.m (by repeat constructor))) (by simp) i (by omega))) rfl ?_)
           all_goals refine tl_e (e_allocN rfl) rfl (fun b9 _ => ?_)
           all_goals refine tl_q (y_assign rfl) rfl ?_
           all_goals refine tl_e (e_storeW rfl rfl (by repeat constructor) (by rfl) (by rfl) (by simp [Value.oneCell'])) rfl (fun _ _ => ?_)
           all_goals refine tl_nil ?_
           all_goals (refine hK12 ?_; try (clear hK12; clear K12))
           all_goals refine tc_seq fun K13 hK13 => ?_
           all_goals refine tc_region ?_
           all_goals refine tl_q (y_field rfl) rfl ?_
           all_goals (refine tl_q (y_load1 rfl (by repeat constructor) (by rfl)) rfl ?_)
           all_goals refine tl_q (y_field rfl) rfl ?_
           all_goals (refine tl_q (y_load1 rfl (by repeat constructor) (by rfl)) rfl ?_)
           all_goals refine tl_q (y_build_2 rfl rfl rfl rfl) rfl ?_
           all_goals refine tl_e (e_allocN rfl) rfl (fun b10 _ => ?_)
           all_goals refine tl_e (e_storeW rfl rfl (by repeat constructor) (by rfl) (by rfl) (by simp [Value.oneCell'])) rfl (fun _ _ => ?_)
           all_goals refine tl_nil ?_
           all_goals (refine hK13 ?_; try (clear hK13; clear K13))
           all_goals refine tc_seq fun K14 hK14 => ?_
           all_goals refine tc_seq fun K15 hK15 => ?_
           all_goals refine tc_region ?_
           all_goals refine tl_q (y_move rfl) rfl ?_
           all_goals refine tl_q (y_len rfl) rfl ?_
           all_goals refine tl_q (y_move rfl) rfl ?_
           all_goals refine tl_nil ?_
           all_goals (refine hK15 ?_; try (clear hK15; clear K15))
           all_goals refine tc_block ?_
           all_goals (
            refine tc_loopN (fun q : Nat × (Array MapEntry × Nat) × List Nat => q.1 ≤ (truthsL t []).length ∧ Cache (readV t.s) q.2.1.1.toList) (fun q => ⟨Try.f11.ntmps, q.2.2.map coll⟩) (fun q => [(1, ptr b1), (4, ptr y.1.1.1), (5, slV (truthsL t []).length y.1.2.1), (7, outV' (i, oo)), (8, vi i), (10, ptr b10), (24, .slice (some ⟨b0, o0, none⟩) t.liquids.length cp), (25, vi t.liquids.length), (26, vi i), (36, slV (truthsL t []).length y.1.2.1), (37, vi (truthsL t []).length), (38, vi q.1)]) (fun _ => [(y.2, [y.1.1.2]), (wl1, []), (w, [])]) (fun q => (y.1.1.2, .map q.2.1.1 q.2.1.2) :: (b10, .cells #[vi (bouN t i q.1).1, vi (bouN t i q.1).2] 59 (0, 0)) :: (ownD t (i, oo) ++ Dl q.2.2)) (fun q => (truthsL t []).length - q.1) ?_ ?_
            · exact tk_startN (0, (es2, ck2), Ds) ⟨Nat.zero_le _, hca⟩ rfl (.cons rfl (.cons rfl (.cons rfl (.cons rfl (.cons rfl (.cons rfl (.cons rfl (.cons rfl (.cons rfl (.cons rfl (.cons rfl (.cons rfl .nil)))))))))))) (fun _ h => (h.subl (H' := [_, _] ++ (ownD t (i, oo) ++ Dl Ds)) (SB.s (by repeat constructor)) (SB.s (by repeat constructor))).sw)
            · rintro ⟨j, ⟨es3, ck3⟩, Ds2⟩ ⟨hj, hca3⟩
              dsimp only at hj hca3 ⊢
              refine tc_fact (y.1.1.2 ∉ (b10 :: (ownD t (i, oo) ++ Dl Ds2).map Prod.fst)) (fun w' h => (List.nodup_cons.1 h.nodup).1) (fun hbm2 => ?_)
              all_goals refine tc_seq fun K16 hK16 => ?_
              all_goals refine tc_region ?_
              all_goals refine tl_q (y_lss rfl rfl) rfl ?_
              all_goals refine tl_nil ?_
              all_goals (refine hK16 ?_; try (clear hK16; clear K16))
              all_goals refine tc_seq fun K17 hK17 => ?_
              all_goals (
               refine tc_cond rfl (fun hc => ?_) (fun hc => ?_)
               · try simp only [decide_eq_true_eq, decide_eq_false_iff_not, Int.not_lt, Int.not_le, Bool.not_eq_true', Bool.not_eq_false', Decidable.not_not, not_true_eq_false] at hc
                 all_goals first | (exfalso; with_reducible exact bft hc) | (exfalso; with_reducible exact btf hc) | (exfalso; omega) | skip
                 all_goals refine tc_skip ?_
                 all_goals (refine hK17 ?_; try (clear hK17; clear K17))
                 all_goals refine tc_seq fun K18 hK18 => ?_
                 all_goals refine tc_block ?_
                 all_goals refine tc_seq fun K19 hK19 => ?_
                 all_goals (have hadT' := hadT (by omega))
                 all_goals (have hbmT : y.1.1.2 ∉ (b10 :: (ownD t (i, oo) ++ Dl Ds2).map Prod.fst) := hbm2)
                 all_goals (obtain ⟨ej, hej0⟩ : ∃ e, (truthsL t [])[j]? = some e := ⟨_, List.getElem?_eq_getElem (by omega)⟩)
                 all_goals (have hejd : (truthsL t []).getD j (0, 0, 0) = ej := by rw [List.getD_eq_getElem?_getD, hej0]; rfl)
                 all_goals (have hej : ErB ej := every_bd hv (List.mem_filter.1 (List.mem_of_getElem? hej0)).1)
                 all_goals refine tc_region ?_
                 all_goals (refine tl_q (y_index rfl rfl (by omega) hadT') rfl ?_)
                 all_goals (refine tl_q (y_loadNo (n := 3) (vs := [vi ej.1, vi ej.2.1, vi ej.2.2]) rfl (fun w' hw' => by rw [show Int.toNat (j : Int) * 3 = j * 3 from by omega, ← hejd]; exact (hrdT w' (hw'.fr (w0 := y.2) (S := [y.1.1.2]) (MI.m (by repeat constructor)))).at1 hadT' (by omega))) rfl ?_)
                 all_goals refine tl_e (e_allocN rfl) rfl (fun b12 _ => ?_)
                 all_goals refine tl_e (e_storeW rfl rfl (by repeat constructor) (by rfl) (by rfl) (by simp [Value.oneCell'])) rfl (fun _ _ => ?_)
                 all_goals refine tl_nil ?_
                 all_goals (refine hK19 ?_; try (clear hK19; clear K19))
                 all_goals refine tc_seq fun K20 hK20 => ?_
                 all_goals refine tc_region ?_
                 all_goals refine tl_q (y_move rfl) rfl ?_
                 all_goals (refine tl_q (y_loadW rfl (by repeat constructor) (by rfl)) rfl ?_)
                 all_goals refine tl_q (y_move rfl) rfl ?_
                 all_goals refine tl_e (e_callN rfl (.cons rfl (.cons rfl (.cons rfl (.cons rfl .nil)))) (fun w' hw' => tdense_c ej i y.1.1.1 none 0 0 w')) rfl (fun x hx => ?_)
                 all_goals refine tl_nil ?_
                 all_goals (refine hK20 ?_; try (clear hK20; clear K20))
                 all_goals refine tc_block ?_
                 all_goals (
                  refine tc_rangeP (α := Int) (σ := Nat) (gf := 41) (lb := #[ptr x.1, ptr x.2.1, ptr x.2.2.1, ptr x.2.2.2]) (enc := fun d => [vi d]) (denseL t ej i []) (y.1.1.2 :: (b10 :: (ownD t (i, oo) ++ Dl Ds2).map Prod.fst)) y.1.1.2 (.map es3 ck3) (JMt t) (fun c => (b10, .cells #[vi (widN (denseL t ej i []) (bouN t i j) c).1, vi (widN (denseL t ej i []) (bouN t i j) c).2] 59 (0, 0)) :: (ownD t (i, oo) ++ Dl Ds2)) (fun k c => c = k) (fun _ _ => False) 0 rfl rfl (fun _ => rfl) rfl (fun q hq => List.mem_cons_of_mem _ (by rcases List.mem_cons.1 hq with rfl | hq; simp; exact List.mem_cons_of_mem _ (List.mem_map.2 ⟨q, hq, rfl⟩))) (fun w' h => h.subl (SB.s (by repeat constructor)) (SB.s (by repeat constructor))) (by simp) ⟨es3, ck3, rfl, hca3⟩ (fun _ _ => hbmT) (fun w' hw' => den_seq t hv ej hej [] (by simp) none 0 sl pl _ tl y.2 y.1.1.1 y.1.1.2 _ _ hTW (RdI.nil _) i (by omega) w' x (.map es3 ck3) ((b10, .cells #[vi (bouN t i j).1, vi (bouN t i j).2] 59 (0, 0)) :: (ownD t (i, oo) ++ Dl Ds2)) (hw'.subl (H' := (x.2.2.1, Obj.cells #[.slice none 0 0] 22 (0, 0)) :: (x.2.1, .cells #[vi i] 3 (0, 0)) :: (x.2.2.2, .cells (tsV ej).cells 75 (0, 0)) :: (x.1, .cells #[ptr y.1.1.1] 70 (0, 0)) :: (y.1.1.2, .map es3 ck3) :: (b10, .cells #[vi (bouN t i j).1, vi (bouN t i j).2] 59 (0, 0)) :: (ownD t (i, oo) ++ Dl Ds2)) (List.Sublist.refl _) (SB.s (by repeat constructor))) List.mem_cons_self) ?_ ?_ ?_
                  · intro l R0 R1 k c d w2 hlb hb2 hx2 hI K hK
                    subst hI
                    have hws := widN_succ (r := bouN t i j) hx2
                    all_goals refine tc_region ?_
                    all_goals refine tl_q (y_assign rfl) rfl ?_
                    all_goals refine tl_nil ?_
                    all_goals refine hK ?_
                    all_goals clear hK
                    all_goals refine tc_block ?_
                    all_goals refine tc_region ?_
                    all_goals (refine tl_q (y_loadW rfl (by repeat constructor) (by rfl)) rfl ?_)
                    all_goals refine tl_q (y_move rfl) rfl ?_
                    all_goals refine tl_e (e_callV rfl (.cons rfl (.cons rfl .nil)) (fun w' _ => wider_c _ _ w')) rfl (fun _ _ => ?_)
                    all_goals refine tl_e (e_storeW rfl rfl (by repeat constructor) (by rfl) (by rfl) (by simp [Value.oneCell'])) rfl (fun _ _ => ?_)
                    all_goals refine tl_nil ?_
                    all_goals (
                     repeat (refine tk_ib ?_)
                     refine tk_rq (c + 1) rfl (fun _ h => ?_)
                     show HG _ ((l, R1) :: (b10, .cells #[vi (widN (denseL t ej i []) (bouN t i j) (c + 1)).1, vi (widN (denseL t ej i []) (bouN t i j) (c + 1)).2] 59 (0, 0)) :: (ownD t (i, oo) ++ Dl Ds2)) _
                     rw [hws]; exact h)
                  · intro D c o' hJo hI
                    subst hI
                    obtain ⟨es4, ck4, rfl, hca4⟩ := hJo
                    all_goals (refine hK18 ?_; try (clear hK18; clear K18))
                    all_goals refine tc_region ?_
                    all_goals refine tl_q (y_add rfl rfl (by omega)) rfl ?_
                    all_goals refine tl_q (y_move rfl) rfl ?_
                    all_goals refine tl_nil ?_
                    all_goals (
                     refine tk_roundN (j + 1, (es4, ck4), D :: Ds2) ⟨by dsimp only; omega, hca4⟩ (by dsimp only; omega) rfl (.cons rfl (.cons rfl (.cons rfl (.cons rfl (.cons rfl (.cons rfl (.cons rfl (.cons rfl (.cons rfl (.cons rfl (.cons rfl (.cons rfl .nil)))))))))))) (fun _ h => ?_)
                     dsimp only; rw [bouN_succ hej0]; exact h.perm (List.perm_middle (l₁ := _ :: _ :: ownD t (i, oo))).symm)
                  · intro D c st o' hJo hJ; exact hJ.elim)
               · try simp only [decide_eq_true_eq, decide_eq_false_iff_not, Int.not_lt, Int.not_le, Bool.not_eq_true', Bool.not_eq_false', Decidable.not_not, not_true_eq_false] at hc
                 all_goals first | (exfalso; with_reducible exact bft hc) | (exfalso; with_reducible exact btf hc) | (exfalso; omega) | skip
                 all_goals refine tc_exit ?_
                 all_goals (refine hK14 ?_; try (clear hK14; clear K14))
                 all_goals (have hjl : j = (truthsL t []).length := by omega)
                 all_goals subst hjl
                 all_goals (rcases oo with _ | ⟨bo, cap, junk⟩)
                 all_goals (dsimp only [outOkR] at hok; dsimp only [ownD, outV'])
                 all_goals refine tc_region ?_
                 all_goals refine tl_q (y_move rfl) rfl ?_
                 all_goals (refine tl_q (y_loadW rfl (by repeat constructor) (by rfl)) rfl ?_)
                 all_goals refine tl_e (e_bslice rfl (by (repeat (first | exact .nil | apply PV.two rfl)); done) rfl rfl) rfl (fun _ _ => ?_)
                 all_goals (first | refine tl_e (e_append_own (old := flatR (densR t i)) (junk := junk) rfl rfl rfl (by repeat constructor) (by rw [flatR_len, densR_len]) (by omega) hok.1 (fun w' hw' => RdR.own0 (xs := [bouN t i (truthsL t []).length]) hw' (by repeat constructor)) (flatR_one _) (by simp only [List.length_cons, List.length_nil]; omega) rfl) rfl (fun v hv2 => ?_) | refine tl_e (e_append_nil rfl rfl rfl (fun w' hw' => RdR.own0 (xs := [bouN t i (truthsL t []).length]) hw' (by repeat constructor)) (flatR_one _) Nat.zero_lt_one (Nat.le_of_ble_eq_true rfl) rfl) rfl (fun v hv2 => ?_))
                 all_goals refine tl_q (y_assign rfl) rfl ?_
                 all_goals refine tl_nil ?_
                 all_goals (refine hK11 ?_; try (clear hK11; clear K11))
                 all_goals refine tc_region ?_
                 all_goals refine tl_q (y_add rfl rfl (by omega)) rfl ?_
                 all_goals refine tl_q (y_move rfl) rfl ?_
                 all_goals refine tl_nil ?_
                 all_goals (
                  have hs2 := densR_succ t i
                  refine tk_roundN (i + 1, some (v.1, v.2.1, v.2.2), (es3, ck3), Ds2) ⟨by dsimp only; omega, ?_, hca3⟩ (by dsimp only; omega) rfl (.cons rfl (.cons rfl (.cons rfl (.cons ?_ (.cons rfl (.cons rfl (.cons rfl .nil))))))) (fun _ h => ?_)
                  · dsimp only [outOkR]; simp only [List.length_cons, List.length_nil] at hv2; omega
                  · dsimp only [outV']; first | rfl | (rw [hok]; rfl)
                  · dsimp only [ownD]
                    rw [hs2, flatR_append]
                    first
                    | (rw [show densR t i = [] from List.eq_nil_of_length_eq_zero (by rw [densR_len]; exact hok), show flatR [] = [] from rfl, List.nil_append]; exact (h.subl (H' := [_, _] ++ Dl Ds2) (List.Sublist.refl _) (SB.s (by repeat constructor))).sw)
                    | exact (h.subl (H' := [_, _] ++ Dl Ds2) (List.Sublist.refl _) (SB.s (by repeat constructor))).sw)))
         · try simp only [decide_eq_true_eq, decide_eq_false_iff_not, Int.not_lt, Int.not_le, Bool.not_eq_true', Bool.not_eq_false', Decidable.not_not, not_true_eq_false] at hc
           all_goals first | (exfalso; with_reducible exact bft hc) | (exfalso; with_reducible exact btf hc) | (exfalso; omega) | skip
           all_goals refine tc_exit ?_
           all_goals (refine hK7 ?_; try (clear hK7; clear K7))
           all_goals refine tc_seq fun K21 hK21 => ?_
           all_goals (have hil : i = t.liquids.length := by omega)
           all_goals subst hil
           all_goals (rcases oo with _ | ⟨bo, cap, junk⟩)
           all_goals (dsimp only [outOkR] at hok; dsimp only [ownD, outV'])
           all_goals try (exfalso; omega)
           all_goals refine tc_region ?_
           all_goals refine tl_q (y_move rfl) rfl ?_
           all_goals refine tl_q (y_assign rfl) rfl ?_
           all_goals refine tl_q (y_assign rfl) rfl ?_
           all_goals refine tl_nil ?_
           all_goals (refine hK21 ?_; try (clear hK21; clear K21))
           all_goals refine tc_ret ?_
           all_goals (repeat (first | refine tk_then_ret ?_))
           all_goals (refine tk_retD Ds rfl (fun _ h => h.perm (List.perm_append_comm (l₁ := [_, _]))) rfl (.cons (.tmp rfl) (.cons (.tmp rfl) .nil)) ?_)
           all_goals (
            refine fun w' hw' => ⟨(some ⟨bo, 0, none⟩, cap), rfl, hw'.fr (by simp), ?_⟩
            have := RdR.own (xs := densR t t.liquids.length) (cap := cap) (junk := junk) (b := bo) hw' (by repeat constructor)
            rw [densR_len] at this
            exact this))))
end Go.Sp
