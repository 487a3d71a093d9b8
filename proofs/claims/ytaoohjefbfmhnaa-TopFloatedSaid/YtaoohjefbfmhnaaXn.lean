/-
  Package trial: the errors of all truths.
-/
import Derived.Test.YtaoohjefbfmhnaaXm
set_option linter.unusedVariables false
set_option linter.unusedSimpArgs false
set_option linter.deprecated false
namespace Go.Sp
open Go Go.Proofs
theorem e_bslice31 {P : Program} {N : NN} {F : List (Nat × Value)} {bs : List (World × List Nat)} {H : List (Nat × Obj)} {ty : TypeId} {pos : String} {after : Array Edge} {g : Option (Nat × Bool)} {dd : Tmp} {t e : TypeId} {by_ : Nat} {x : Operand} {a b c : Value} [hs : TySlice P t e 3] [hi : TyElem P e 3 by_] (hd : Nat.blt dd N.n = true) (hx : evalO F x = some (.agg #[a, b, c])) :
    OpE P ⟨some dd, .buildSlice t 1 #[(0, x)], ty, pos, after, g⟩ N F bs H (fun _ : Nat => True) (fun b0 => (dd, .slice (some ⟨b0, 0, none⟩) 1 1) :: F) (fun _ => bs) (fun b0 => (b0, .cells #[a, b, c] e (0, 0)) :: H) := by
  unfold OpE
  intro a' w ht hw K Q hK
  obtain ⟨i, z, h1, h2, h3, h4, h5⟩ := hi.info
  have key : ∀ zero : Array Value, Instr.fill (fun i => some (i * 3, 3)) ((Array.range (1 * 3)).map (zero[· % zero.size]!)) [(0, .agg #[a, b, c])] = some #[a, b, c] := fun zero => by
    simp [Instr.fill, Array.zipIdx, Array.range, Value.cells]
    apply Array.ext (by simp)
    intro i g1 g2
    have g3 : i < 3 := g2
    rcases (by omega : i = 0 ∨ i = 1 ∨ i = 2) with rfl | rfl | rfl <;> simp
  have hrun : (Instr.buildSlice t 1 #[(0, .agg #[a, b, c])]).run P w = .ok (.slice (some ⟨w.heap.size, 0, none⟩) 1 1) (w.alloc (.cells #[a, b, c] e)) := by
    unfold Instr.buildSlice
    simp only [Sem.run_bind, underlying_run hs.ty, Result.andThen, sizeOf_run hs.info]
    rw [if_neg (by omega)]
    split
    · rename_i hz; omega
    · simp only [Sem.run_bind, zeroValue_run h1 h2, Sem.run_pure, Result.andThen, key, newRow, run_newObj]; rfl
  unfold Oper.wp
  simp only [execOp, Sem.run_bind, List.map_toArray, List.map_cons, List.map_nil, ht.eval hx, hrun, Result.andThen, Sem.run_pure, Oper.upon]
  exact hK w.heap.size _ _ trivial (ht.put hd _) (hw.alloc _)
def truN (t : Tr) (out : List Int) (i : Nat) : List (Int × Int × Int) := ((everyL t).take i).filter fun e => denOk t e out
def truthsL (t : Tr) (out : List Int) : List (Int × Int × Int) := (everyL t).filter fun e => denOk t e out
theorem truN_succ {t : Tr} {out : List Int} {i : Nat} {e : Int × Int × Int} (h : (everyL t)[i]? = some e) : truN t out (i + 1) = if denOk t e out = true then truN t out i ++ [e] else truN t out i := by
  unfold truN
  rw [List.take_add_one, h, List.filter_append]
  cases hd : denOk t e out <;> simp [hd]
theorem truN_all (t : Tr) (out : List Int) : truN t out (everyL t).length = truthsL t out := by unfold truN truthsL; rw [List.take_length]
theorem truN_len (t : Tr) (out : List Int) (i : Nat) : (truN t out i).length ≤ i := by
  unfold truN
  exact Nat.le_trans (List.length_filter_le _ _) (by rw [List.length_take]; omega)
theorem every_len {t : Tr} (hv : VT t) : (everyL t).length ≤ 343 := by
  have h1 := hv.p1
  have h3 := hv.p3
  have hw := hv.w
  have := (ini_all ⟨t.worst.toNat, by omega⟩ ⟨t.parts.length, by omega⟩ h1).2.2
  unfold everyL; rw [List.length_map, List.length_range]; exact this
theorem every_bd {t : Tr} (hv : VT t) {e : Int × Int × Int} (h : e ∈ everyL t) : ErB e := by
  unfold everyL at h
  obtain ⟨k, _, rfl⟩ := List.mem_map.1 h
  exact nth_bd (by have := hv.w; omega)
theorem flatT_append (l m : List (Int × Int × Int)) : flatT (l ++ m) = flatT l ++ flatT m := by simp [flatT]
theorem flatT_len (l : List (Int × Int × Int)) : (flatT l).length = l.length * 3 := by
  induction l with
  | nil => rfl
  | cons x l ih => simp [flatT] at ih ⊢; omega
theorem flatT_one (l : List (Int × Int × Int)) : one' (flatT l) := fun u hu => by
  obtain ⟨x, _, h⟩ := List.mem_flatMap.1 hu
  simp only [List.mem_cons, List.not_mem_nil, or_false] at h
  rcases h with rfl | rfl | rfl <;> rfl
theorem RdT.nil (w : World) : RdT w (.slice none 0 0) [] := ⟨rfl, none, 0, rfl, fun h => absurd rfl h⟩
theorem RdT.own {bs : List (World × List Nat)} {H : List (Nat × Obj)} {w : World} {b : Nat} {xs : List (Int × Int × Int)} {e : TypeId} {f : Nat × Nat} {cap : Nat} {junk : List Value} (hw : HG bs H w) (hm : HM b (.cells (flatT xs ++ junk).toArray e f) H) : RdT w (.slice (some ⟨b, 0, none⟩) xs.length cap) xs := by
  refine ⟨flatT_len xs, _, _, rfl, fun _ => ⟨b, 0, rfl, ?_⟩⟩
  have := CA_pre (flatT xs) junk e f
  rw [flatT_len] at this
  exact this.cells (hw.heap _ hm.mem)
theorem RdT.own0 {bs : List (World × List Nat)} {H : List (Nat × Obj)} {w : World} {b : Nat} {xs : List (Int × Int × Int)} {e : TypeId} {f : Nat × Nat} {cap : Nat} (hw : HG bs H w) (hm : HM b (.cells (flatT xs).toArray e f) H) : RdT w (.slice (some ⟨b, 0, none⟩) xs.length cap) xs :=
  RdT.own (junk := []) hw (by rw [List.append_nil]; exact hm)
abbrev TrS := (Nat × Option (Nat × Nat × List Value)) × (Array MapEntry × Nat)
def truH (t : Tr) (out : List Int) (b4 b3 b2 bm bw : Nat) (ov : Value) : TrS → List (Nat × Obj)
  | ((_, none), (es, ck)) => (b4, .cells #[.slice none 0 0] 71 (0, 0)) :: (b3, .cells #[ov] 22 (0, 0)) :: (b2, .cells #[ptr bw] 70 (0, 0)) :: (bm, .map es ck) :: []
  | ((i, some (b, cap, junk)), (es, ck)) => (b, .cells (flatT (truN t out i) ++ junk).toArray 75 (0, 0)) :: (b4, .cells #[.slice (some ⟨b, 0, none⟩) (truN t out i).length cap] 71 (0, 0)) :: (b3, .cells #[ov] 22 (0, 0)) :: (b2, .cells #[ptr bw] 70 (0, 0)) :: (bm, .map es ck) :: []
def truO (t : Tr) (out : List Int) : TrS → Prop
  | ((i, none), _) => (truN t out i).length = 0
  | ((i, some (_, cap, junk)), _) => (truN t out i).length ≤ cap ∧ junk.length = (cap - (truN t out i).length) * 3
set_option maxHeartbeats 1000000 in
theorem truths_c (t : Tr) (hv : VT t) (out : List Int) (ho : (out.length : Int) ≤ 9000000000000000000) (oa : Option Addr) (oc : Nat) (sl pl ll tl : Value) (w : World) (bw bm : Nat) (es : Array MapEntry) (ck : Nat) (hT : TW w t sl pl ll tl bw bm es ck) (hO : RdI w (.slice oa out.length oc) out) :
    CnX Try.prog 33 #[ptr bw, .slice oa out.length oc] w [bm] (fun y : (Option Addr × Nat) × Array MapEntry × Nat => slV (truthsL t out).length y.1) (fun y w' => (RdT w' (slV (truthsL t out).length y.1) (truthsL t out) ∧ Cache (readV t.s) y.2.1.toList) ∧ w'.heap[bm]? = some (.map y.2.1 y.2.2)) := by
  have hne := hT.ne
  have hel := every_len hv
  have hbwlt : bw < w.heap.size := (Array.getElem?_eq_some_iff.1 hT.hw).1
  have hkeep : ∀ w', Fr [bm] w w' → w'.heap[bw]? = some (wkT t sl pl ll tl bm) := fun w' f => f.keepS (by simpa using hne) hT.hw
  have hOr : ∀ w', Fr [bm] w w' → RdI w' (.slice oa out.length oc) out := fun w' f => Reads.frM hO f (fun x hx => by obtain rfl := List.mem_singleton.1 hx; exact ⟨es, ck, hT.hm⟩)
  obtain ⟨adp, cpp, bp, op, rfl, _, _⟩ := hT.rd.ps.open
  refine cnxS (vs := [_, _]) (S := [bm]) [(bm, .map es ck)] Try.func33 rfl rfl ⟨by simp [hT.hm], by simp, by simp⟩ ?_
  all_goals refine tc_seq fun K1 hK1 => ?_
  all_goals refine tc_region ?_
  all_goals refine tl_e (e_box rfl rfl rfl) rfl (fun b2 _ => ?_)
  all_goals refine tl_e (e_box rfl rfl rfl) rfl (fun b3 _ => ?_)
  all_goals refine tl_e (e_alloc1 rfl) rfl (fun b4 _ => ?_)
  all_goals refine tl_nil ?_
  all_goals (refine hK1 ?_; try (clear hK1; clear K1))
  all_goals refine tc_seq fun K2 hK2 => ?_
  all_goals refine tc_seq fun K3 hK3 => ?_
  all_goals refine tc_region ?_
  all_goals refine tl_q (y_load1 rfl (by repeat constructor) (by rfl)) rfl ?_
  all_goals refine tl_e (e_callB rfl (.cons rfl .nil) (fun w' _ => tevery_c bw w')) rfl (fun bL _ => ?_)
  all_goals refine tl_nil ?_
  all_goals (refine hK3 ?_; try (clear hK3; clear K3))
  all_goals refine tc_block ?_
  all_goals (
   refine tc_rangeU (α := Int × Int × Int) (σ := TrS) (gf := 79) (lb := #[ptr bL]) (enc := fun e => [tsV e]) (everyL t) [b4, b3, b2, bm] (truH t out b4 b3 b2 bm bw (.slice oa out.length oc)) (fun i st => st.1.1 = i ∧ truO t out st ∧ Cache (readV t.s) st.2.1.toList) (fun _ _ => False) ((0, none), (es, ck)) rfl rfl (fun _ => rfl) ⟨rfl, rfl, hT.hc⟩ (by simp [truH]) (fun _ h => h.subl (SB.s (by repeat constructor)) (SB.s (by repeat constructor))) (fun w' hw' => every_seq t hv sl _ ll tl ⟨_, _, rfl⟩ w' bw bm bL _ (hw'.heap _ (HM.mem (by repeat constructor))) (by have := hw'.nodup; simp at this ⊢; omega) (hkeep w' (hw'.fr (by simp))) (fun hm => by have h4 := hw'.own _ (HM.mem (b := b4) (by repeat constructor)) (w, [bm]) (by simp); have h3 := hw'.own _ (HM.mem (b := b3) (by repeat constructor)) (w, [bm]) (by simp); have h2 := hw'.own _ (HM.mem (b := b2) (by repeat constructor)) (w, [bm]) (by simp); simp at hm h4 h3 h2; omega)) ?_ ?_ ?_
   · intro l R0 R1 i st e w2 hx hI K hK
     obtain ⟨rfl, hok, hca⟩ := hI
     have heb := every_bd hv (List.mem_of_getElem? hx)
     have hil := (List.getElem?_eq_some_iff.1 hx).1
     have hsu := truN_succ (out := out) hx
     obtain ⟨⟨i, o⟩, ⟨es2, ck2⟩⟩ := st
     have hlen := truN_len t out i
     rcases o with _ | ⟨b0, cap, junk⟩
     all_goals (dsimp only [truO] at hok hca hil hsu; dsimp only [truH] at hK ⊢)
     all_goals refine tc_region ?_
     all_goals refine tl_e (e_allocN rfl) rfl (fun b5 _ => ?_)
     all_goals refine tl_e (e_storeW rfl rfl (by repeat constructor) (by rfl) (by rfl) (by simp [Value.oneCell'])) rfl (fun _ _ => ?_)
     all_goals refine tl_nil ?_
     all_goals refine hK (by repeat constructor) ?_
     all_goals clear hK
     all_goals refine tc_block ?_
     all_goals refine tc_seq fun K4 hK4 => ?_
     all_goals refine tc_region ?_
     all_goals refine tl_q (y_load1 rfl (by repeat constructor) (by rfl)) rfl ?_
     all_goals (refine tl_q (y_loadW rfl (by repeat constructor) (by rfl)) rfl ?_)
     all_goals refine tl_q (y_load1 rfl (by repeat constructor) (by rfl)) rfl ?_
     all_goals refine tl_e (e_callU (val := fun y : Value × Array MapEntry × Nat => .tuple #[y.1, .bool (denOk t e out)]) (p := fun y => Cache (readV t.s) y.2.1.toList) (ob := fun y => .map y.2.1 y.2.2) rfl (.cons rfl (.cons rfl (.cons rfl .nil))) (fun w' hw' => (densities_c t hv e heb out ho oa oc sl _ ll tl w' bw bm es2 ck2 (hT.fr (hw'.fr (w0 := w) (S := [bm]) (MI.m (by repeat constructor))) (hw'.heap _ (HM.mem (b := bm) (by repeat constructor))) hca) (hOr w' (hw'.fr (w0 := w) (S := [bm]) (MI.m (by repeat constructor))))).imp id (fun _ => rfl) (fun _ h => h) (fun y w' _ h => ⟨h.1.2, h.2⟩)) (fun _ => (by repeat constructor))) rfl (fun z hz => ?_)
     all_goals refine tl_q (y_move rfl) rfl ?_
     all_goals refine tl_q (y_extract rfl rfl) rfl ?_
     all_goals refine tl_q (y_extract rfl rfl) rfl ?_
     all_goals refine tl_q (y_assign rfl) rfl ?_
     all_goals refine tl_q (y_assign rfl) rfl ?_
     all_goals refine tl_nil ?_
     all_goals (refine hK4 ?_; try (clear hK4; clear K4))
     all_goals refine tc_seq fun K5 hK5 => ?_
     all_goals refine tc_region ?_
     all_goals refine tl_q (y_move rfl) rfl ?_
     all_goals refine tl_nil ?_
     all_goals (refine hK5 ?_; try (clear hK5; clear K5))
     all_goals (
      refine tc_cond rfl (fun hc => ?_) (fun hc => ?_)
      · try simp only [decide_eq_true_eq, decide_eq_false_iff_not, Int.not_lt, Int.not_le, Bool.not_eq_true', Bool.not_eq_false', Decidable.not_not, not_true_eq_false] at hc
        all_goals first | (exfalso; with_reducible exact bft hc) | (exfalso; with_reducible exact btf hc) | (exfalso; omega) | skip
        all_goals refine tc_region ?_
        all_goals refine tl_q (y_load1 rfl (by repeat constructor) (by rfl)) rfl ?_
        all_goals (refine tl_q (y_loadW rfl (by repeat constructor) (by rfl)) rfl ?_)
        all_goals refine tl_e (e_bslice31 rfl rfl) rfl (fun _ _ => ?_)
        all_goals (first | refine tl_e (e_append_own (old := flatT (truN t out i)) (junk := junk) rfl rfl rfl (by repeat constructor) (flatT_len _) hok.2 hok.1 (fun w' hw' => RdT.own0 (xs := [e]) hw' (by repeat constructor)) (flatT_one _) (by simp only [List.length_cons, List.length_nil]; omega) rfl) rfl (fun y hy => ?_) | refine tl_e (e_append_nil rfl rfl rfl (fun w' hw' => RdT.own0 (xs := [e]) hw' (by repeat constructor)) (flatT_one _) Nat.zero_lt_one (Nat.le_of_ble_eq_true rfl) rfl) rfl (fun y hy => ?_))
        all_goals refine tl_e (e_store1 rfl rfl (by repeat constructor) (by repeat constructor) (by rfl) (by rfl)) rfl (fun _ _ => ?_)
        all_goals refine tl_nil ?_
        all_goals (
         repeat (refine tk_ib ?_)
         first
         | (have hs2 : truN t out (i + 1) = truN t out i ++ [e] := by rw [hsu, if_pos hc]
            refine tk_rq ((i + 1, some (y.1, y.2.1, y.2.2)), (z.2.1, z.2.2)) ⟨rfl, ?_, hz⟩ (fun _ h => ?_)
            · dsimp only [truO]; rw [hs2, List.length_append]; simp only [List.length_cons, List.length_nil] at hy ⊢; omega
            · dsimp only [truH]
              rw [hs2, flatT_append, List.length_append]
              first
              | (rw [show truN t out i = [] from List.eq_nil_of_length_eq_zero hok, show flatT [] = [] from rfl, List.nil_append]; exact (h.subl (SB.s (by repeat constructor)) (SB.s (by repeat constructor))).sw)
              | exact (h.subl (SB.s (by repeat constructor)) (SB.s (by repeat constructor))).sw)
         | (have hs2 : truN t out (i + 1) = truN t out i := by rw [hsu, if_neg (by rw [hc]; exact Bool.false_ne_true)]
            first
            | (refine tk_rq ((i + 1, none), (z.2.1, z.2.2)) ⟨rfl, by dsimp only [truO]; rw [hs2]; exact hok, hz⟩ (fun _ h => ?_)
               dsimp only [truH]; exact h.subl (SB.s (by repeat constructor)) (SB.s (by repeat constructor)))
            | (refine tk_rq ((i + 1, some (b0, cap, junk)), (z.2.1, z.2.2)) ⟨rfl, by dsimp only [truO]; rw [hs2]; exact hok, hz⟩ (fun _ h => ?_)
               dsimp only [truH]; rw [hs2]; exact h.subl (SB.s (by repeat constructor)) (SB.s (by repeat constructor)))))
      · try simp only [decide_eq_true_eq, decide_eq_false_iff_not, Int.not_lt, Int.not_le, Bool.not_eq_true', Bool.not_eq_false', Decidable.not_not, not_true_eq_false] at hc
        all_goals first | (exfalso; with_reducible exact bft hc) | (exfalso; with_reducible exact btf hc) | (exfalso; omega) | skip
        all_goals refine tc_skip ?_
        all_goals (
         repeat (refine tk_ib ?_)
         first
         | (have hs2 : truN t out (i + 1) = truN t out i ++ [e] := by rw [hsu, if_pos hc]
            refine tk_rq ((i + 1, some (y.1, y.2.1, y.2.2)), (z.2.1, z.2.2)) ⟨rfl, ?_, hz⟩ (fun _ h => ?_)
            · dsimp only [truO]; rw [hs2, List.length_append]; simp only [List.length_cons, List.length_nil] at hy ⊢; omega
            · dsimp only [truH]
              rw [hs2, flatT_append, List.length_append]
              first
              | (rw [show truN t out i = [] from List.eq_nil_of_length_eq_zero hok, show flatT [] = [] from rfl, List.nil_append]; exact (h.subl (SB.s (by repeat constructor)) (SB.s (by repeat constructor))).sw)
              | exact (h.subl (SB.s (by repeat constructor)) (SB.s (by repeat constructor))).sw)
         | (have hs2 : truN t out (i + 1) = truN t out i := by rw [hsu, if_neg (by rw [hc]; exact Bool.false_ne_true)]
            first
            | (refine tk_rq ((i + 1, none), (z.2.1, z.2.2)) ⟨rfl, by dsimp only [truO]; rw [hs2]; exact hok, hz⟩ (fun _ h => ?_)
               dsimp only [truH]; exact h.subl (SB.s (by repeat constructor)) (SB.s (by repeat constructor)))
            | (refine tk_rq ((i + 1, some (b0, cap, junk)), (z.2.1, z.2.2)) ⟨rfl, by dsimp only [truO]; rw [hs2]; exact hok, hz⟩ (fun _ h => ?_)
               dsimp only [truH]; rw [hs2]; exact h.subl (SB.s (by repeat constructor)) (SB.s (by repeat constructor))))))
   · intro D st hI
     obtain ⟨hi, hok, hca⟩ := hI
     obtain ⟨⟨i, o⟩, ⟨es2, ck2⟩⟩ := st
     dsimp only at hi
     subst hi
     rcases o with _ | ⟨b0, cap, junk⟩
     all_goals (dsimp only [truO] at hok hca; dsimp only [truH])
     all_goals rw [truN_all] at hok
     all_goals try rw [truN_all]
     all_goals (refine hK2 ?_; try (clear hK2; clear K2))
     all_goals refine tc_seq fun K6 hK6 => ?_
     all_goals refine tc_region ?_
     all_goals refine tl_q (y_load1 rfl (by repeat constructor) (by rfl)) rfl ?_
     all_goals refine tl_e (e_store1 rfl rfl (by repeat constructor) (by repeat constructor) (by rfl) (by rfl)) rfl (fun _ _ => ?_)
     all_goals refine tl_nil ?_
     all_goals (refine hK6 ?_; try (clear hK6; clear K6))
     all_goals refine tc_ret ?_
     all_goals (repeat (first | refine tk_then_ret ?_))
     all_goals first | refine tk_ret rfl rfl (.cons (.one inferInstance rfl (by repeat constructor) (by rfl)) .nil) ?_ | refine tk_retM rfl (by repeat constructor) rfl (.cons (.one inferInstance rfl (by repeat constructor) (by rfl)) .nil) ?_
     all_goals (
      first
      | exact fun w' hw' => ⟨((none, 0), es2, ck2), by unfold slV; rw [hok]; rfl, hw'.fr (by simp), ⟨by unfold slV; rw [hok, List.eq_nil_of_length_eq_zero hok]; exact RdT.nil _, hca⟩, hw'.heap _ (HM.mem (b := bm) (by repeat constructor))⟩
      | exact fun w' hw' => ⟨((some ⟨b0, 0, none⟩, cap), es2, ck2), rfl, hw'.fr (by simp), ⟨RdT.own (xs := truthsL t out) (cap := cap) (junk := junk) (b := b0) hw' (by repeat constructor), hca⟩, hw'.heap _ (HM.mem (b := bm) (by repeat constructor))⟩)
   · intro D c s hJ; exact hJ.elim)
end Go.Sp
