
/-
  Package trial: judging.
-/
import Derived.Test.YtegojecjmaifdaaGreatM2
import Derived.Shelf.Sort.Plain
import Derived.Shelf.Slices.CompactI
import Derived.Test.YtegojecjmaifdaaGreatProg
set_option linter.unusedVariables false
set_option linter.unusedSimpArgs false
set_option linter.deprecated false
namespace Go.Sp
open Go Go.Proofs
inductive PVG (F : List (Nat × Value)) : Nat → Nat → List (Nat × Operand) → List Value → Prop
  | nil {sz k : Nat} : PVG F sz k [] []
  | agg {sz k : Nat} {x : Operand} {cs : List Value} {rest : List (Nat × Operand)} {out : List Value} : evalO F x = some (.agg cs.toArray) → cs.length = sz → PVG F sz (k + 1) rest out → PVG F sz k ((k, x) :: rest) (cs ++ out)
theorem PVG.length {F : List (Nat × Value)} {sz k : Nat} {ps : List (Nat × Operand)} {out : List Value} (h : PVG F sz k ps out) : out.length = ps.length * sz := by
  induction h with
  | nil => simp
  | agg _ hl _ ih => rw [List.length_append, ih, hl, List.length_cons, Nat.add_mul]; omega
theorem foldlSet (o : Nat) : ∀ (cs : List Value) (n : Nat) (pre old junk : List Value), pre.length = o + n → old.length = cs.length →
    (cs.zipIdx n).foldl (fun (a : Array Value) (p : Value × Nat) => a.setIfInBounds (o + p.2) p.1) (pre ++ old ++ junk).toArray = (pre ++ cs ++ junk).toArray := by
  intro cs
  induction cs with
  | nil => intro n pre old junk _ ho; obtain rfl : old = [] := by simpa using ho
           simp
  | cons c cs ih =>
    intro n pre old junk hp ho
    match old, ho with
    | z :: old, ho =>
      rw [List.zipIdx_cons, List.foldl_cons]
      have e : ((pre ++ z :: old ++ junk).toArray : Array Value).setIfInBounds (o + n) c = ((pre ++ [c]) ++ old ++ junk).toArray := by
        rw [List.setIfInBounds_toArray]
        congr 1
        rw [← hp]
        simp
      dsimp only
      rw [e, ih (n + 1) (pre ++ [c]) old junk (by simp [hp]; omega) (by simpa using ho)]
      simp
theorem PVG.fill {F : List (Nat × Value)} {sz k : Nat} {ps : List (Nat × Operand)} {out : List Value} (h : PVG F sz k ps out) {N : NN} {a : Act} (ht : TF N F a) : ∀ (pre junk : List Value), pre.length = k * sz → junk.length = ps.length * sz →
    Instr.fill (fun i => some (i * sz, sz)) (pre ++ junk).toArray (ps.map fun (i, x) => (i, a.eval x)) = some (pre ++ out).toArray := by
  induction h with
  | nil => intro pre junk _ hj; obtain rfl : junk = [] := by simpa using hj
           rfl
  | @agg k x cs rest out hx hl _ ih =>
    intro pre junk hp hj
    simp only [List.length_cons, Nat.add_mul, Nat.one_mul] at hj
    have hsp : junk = junk.take sz ++ junk.drop sz := (List.take_append_drop _ _).symm
    have := ih (pre ++ cs) (junk.drop sz) (by rw [List.length_append, hp, hl, Nat.add_mul]; omega) (by simp; omega)
    simp only [List.map_cons, ht.eval hx]
    refine fill_cons (o := k * sz) (sz := sz) (c := cs.toArray) rfl rfl (by simpa using hl) (by simp; omega) ?_
    have e := foldlSet (k * sz) cs 0 pre (junk.take sz) (junk.drop sz) (by simpa using hp) (by simp; omega)
    rw [List.append_assoc, ← hsp] at e
    rw [Array.zipIdx_toArray, List.foldl_toArray]
    refine Eq.trans (congrArg (fun z => Instr.fill _ z _) ?_) (this.trans (by rw [List.append_assoc]))
    rw [← e]
theorem e_bsliceG {P : Program} {N : NN} {F : List (Nat × Value)} {bs : List (World × List Nat)} {H : List (Nat × Obj)} {ty : TypeId} {pos : String} {after : Array Edge} {g : Option (Nat × Bool)} {dd : Tmp} {t e : TypeId} {sz by_ len : Nat} {ps : List (Nat × Operand)} {out : List Value} [hs : TySlice P t e sz] [hi : TyElem P e sz by_] (hd : Nat.blt dd N.n = true) (hp : PVG F sz 0 ps out) (hl : ps.length = len) (hb : Nat.ble (len * sz) 16777216 = true) :
    OpE P ⟨some dd, .buildSlice t len ps.toArray, ty, pos, after, g⟩ N F bs H (fun _ : Nat => True) (fun b => (dd, .slice (some ⟨b, 0, none⟩) len len) :: F) (fun _ => bs) (fun b => (b, .cells out.toArray e (0, 0)) :: H) := by
  unfold OpE
  intro a w ht hw K Q hK
  obtain ⟨i, z, h1, h2, h3, h4, h5⟩ := hi.info
  have hb' : ¬ len * sz > 2 ^ 24 := by have := Nat.le_of_ble_eq_true hb; omega
  subst hl
  have hmap : (ps.toArray.map fun (i, x) => (i, a.eval x)).toList = ps.map fun (i, x) => (i, a.eval x) := by simp
  have key : ∀ zero : Array Value, Instr.fill (fun i => some (i * sz, sz)) ((Array.range (ps.length * sz)).map (zero[· % zero.size]!)) (ps.map fun (i, x) => (i, a.eval x)) = some out.toArray := fun zero => by
    have := hp.fill ht [] ((Array.range (ps.length * sz)).map (zero[· % zero.size]!)).toList (by simp) (by simp)
    rw [List.nil_append, Array.toArray_toList] at this
    exact this
  have hrun : (Instr.buildSlice t ps.length (ps.toArray.map fun (i, x) => (i, a.eval x))).run P w = .ok (.slice (some ⟨w.heap.size, 0, none⟩) ps.length ps.length) (w.alloc (.cells out.toArray e)) := by
    unfold Instr.buildSlice
    simp only [Sem.run_bind, underlying_run hs.ty, Result.andThen, sizeOf_run hs.info, hb', if_false]
    split
    · simp only [Sem.run_bind, Sem.run_pure, Result.andThen, hmap, key, newRow, run_newObj]; rfl
    · simp only [Sem.run_bind, zeroValue_run h1 h2, Sem.run_pure, Result.andThen, hmap, key, newRow, run_newObj]; rfl
  unfold Oper.wp
  simp only [execOp, Sem.run_bind, hrun, Result.andThen, Sem.run_pure, Oper.upon]
  exact hK w.heap.size _ _ trivial (ht.put hd _) (hw.alloc _)
def tolE (t : Tr) (tol : Int) : Int := if ¬ chkT t = 0 then chkT t else if tol < 0 then 2 else 0
theorem tolerant_c (t : Tr) (hn : NT t) (tol : Int) (sl pl ll tl : Value) (w : World) (hr : RdTr w t sl pl ll tl) : CnV Tryz.prog 83 #[trV t sl pl ll tl, vi tol] w (vi (tolE t tol)) := by
  have hr0 := hr
  refine cnv (vs := [_, _]) Tryz.func83 rfl rfl ?_
  all_goals refine tc_seq fun K1 hK1 => ?_; refine tc_region ?_; refine tl_e (e_box rfl rfl rfl) rfl (fun b2 _ => ?_); refine tl_q (y_assign rfl) rfl ?_; refine tl_nil ?_; ((refine hK1 ?_; try (clear hK1; clear K1)))
  all_goals refine tc_seq fun K2 hK2 => ?_; refine tc_seq fun K3 hK3 => ?_; refine tc_region ?_; refine tl_q (y_loadW rfl (by repeat constructor) (by rfl)) rfl ?_; refine tl_e (e_callV rfl (.cons rfl .nil) (fun w' hw' => checkTrial_c t hn sl pl ll tl w' (hr0.fr (hw'.fr (by simp))))) rfl (fun _ _ => ?_); refine tl_q (y_assign rfl) rfl ?_; refine tl_nil ?_; ((refine hK3 ?_; try (clear hK3; clear K3)))
  all_goals refine tc_seq fun K4 hK4 => ?_; refine tc_region ?_; refine tl_q (y_move rfl) rfl ?_; refine tl_q (y_neq rfl rfl) rfl ?_; refine tl_nil ?_; ((refine hK4 ?_; try (clear hK4; clear K4)))
  all_goals (
   refine tc_cond rfl (fun hc => ?_) (fun hc => ?_)
   · try simp only [qn1, qn2, qn3, qn4, qn5, qn6, qn7, qn8] at hc
     all_goals refine tc_seq fun K5 hK5 => ?_; refine tc_region ?_; refine tl_q (y_move rfl) rfl ?_; refine tl_q (y_assign rfl) rfl ?_; refine tl_nil ?_; ((refine hK5 ?_; try (clear hK5; clear K5)))
     all_goals refine tc_ret ?_; (repeat (refine tk_then_ret ?_))
     all_goals (refine tk_ret rfl rfl (.cons (.tmp rfl) .nil) ?_)
     all_goals (
      refine fun w' hw' => ⟨?_, hw'.fr (by simp)⟩
      unfold tolE
      first
      | (rw [if_pos (by omega)]; rfl)
      | (rw [if_neg (by omega), if_pos (by omega)]; rfl)
      | (rw [if_neg (by omega), if_neg (by omega)]; rfl))
   · try simp only [qn1, qn2, qn3, qn4, qn5, qn6, qn7, qn8] at hc
     all_goals refine tc_skip ?_; ((refine hK2 ?_; try (clear hK2; clear K2)))
     all_goals refine tc_seq fun K6 hK6 => ?_; refine tc_seq fun K7 hK7 => ?_; refine tc_region ?_; refine tl_q (y_move rfl) rfl ?_; refine tl_q (y_lss rfl rfl) rfl ?_; refine tl_nil ?_; ((refine hK7 ?_; try (clear hK7; clear K7)))
     all_goals (
      refine tc_cond rfl (fun hc => ?_) (fun hc => ?_)
      · try simp only [qn1, qn2, qn3, qn4, qn5, qn6, qn7, qn8] at hc
        all_goals refine tc_seq fun K8 hK8 => ?_; refine tc_region ?_; refine tl_q (y_assign rfl) rfl ?_; refine tl_nil ?_; ((refine hK8 ?_; try (clear hK8; clear K8)))
        all_goals refine tc_ret ?_; (repeat (refine tk_then_ret ?_))
        all_goals (refine tk_ret rfl rfl (.cons (.tmp rfl) .nil) ?_)
        all_goals (
         refine fun w' hw' => ⟨?_, hw'.fr (by simp)⟩
         unfold tolE
         first
         | (rw [if_pos (by omega)]; rfl)
         | (rw [if_neg (by omega), if_pos (by omega)]; rfl)
         | (rw [if_neg (by omega), if_neg (by omega)]; rfl))
      · try simp only [qn1, qn2, qn3, qn4, qn5, qn6, qn7, qn8] at hc
        all_goals refine tc_skip ?_; ((refine hK6 ?_; try (clear hK6; clear K6)))
        all_goals refine tc_seq fun K9 hK9 => ?_; refine tc_region ?_; refine tl_q (y_assign rfl) rfl ?_; refine tl_nil ?_; ((refine hK9 ?_; try (clear hK9; clear K9)))
        all_goals refine tc_ret ?_; (repeat (first | refine tk_then_ret ?_))
        all_goals (refine tk_ret rfl rfl (.cons (.tmp rfl) .nil) ?_)
        all_goals (
         refine fun w' hw' => ⟨?_, hw'.fr (by simp)⟩
         unfold tolE
         first
         | (rw [if_pos (by omega)]; rfl)
         | (rw [if_neg (by omega), if_pos (by omega)]; rfl)
         | (rw [if_neg (by omega), if_neg (by omega)]; rfl))))
theorem spanAbove_c (n tol : Int) (hn : -3 ≤ n ∧ n ≤ 3) (ht : 0 ≤ tol ∧ tol ≤ 1000) (w : World) : CnV Tryz.prog 163 #[.agg #[vi n, vi tol]] w (vi (n - tol)) := by
  refine cnv (vs := [_]) Tryz.func163 rfl rfl ?_
  all_goals refine tc_seq fun K1 hK1 => ?_; refine tc_region ?_; refine tl_e (e_box rfl rfl rfl) rfl (fun _ _ => ?_); refine tl_q (y_assign rfl) rfl ?_; refine tl_nil ?_; ((refine hK1 ?_; try (clear hK1; clear K1)))
  all_goals refine tc_seq fun K2 hK2 => ?_; refine tc_region ?_; refine tl_q (y_field rfl) rfl ?_; refine tl_q (y_load1 rfl (by repeat constructor) (by rfl)) rfl ?_; refine tl_q (y_field rfl) rfl ?_; refine tl_q (y_load1 rfl (by repeat constructor) (by rfl)) rfl ?_; refine tl_q (y_sub rfl rfl (by omega)) rfl ?_; refine tl_q (y_assign rfl) rfl ?_; refine tl_nil ?_; ((refine hK2 ?_; try (clear hK2; clear K2)))
  all_goals refine tc_ret ?_; (repeat (first | refine tk_then_ret ?_))
  all_goals (refine tk_ret rfl rfl (.cons (.tmp rfl) .nil) ?_)
  all_goals (
   exact fun w' hw' => ⟨rfl, hw'.fr (by simp)⟩)
theorem spanBelow_c (n tol : Int) (hn : -3 ≤ n ∧ n ≤ 3) (ht : 0 ≤ tol ∧ tol ≤ 1000) (w : World) : CnV Tryz.prog 164 #[.agg #[vi n, vi tol]] w (vi (-n - tol)) := by
  refine cnv (vs := [_]) Tryz.func164 rfl rfl ?_
  all_goals refine tc_seq fun K1 hK1 => ?_; refine tc_region ?_; refine tl_e (e_box rfl rfl rfl) rfl (fun _ _ => ?_); refine tl_q (y_assign rfl) rfl ?_; refine tl_nil ?_; ((refine hK1 ?_; try (clear hK1; clear K1)))
  all_goals refine tc_seq fun K2 hK2 => ?_; refine tc_region ?_; refine tl_q (y_field rfl) rfl ?_; refine tl_q (y_load1 rfl (by repeat constructor) (by rfl)) rfl ?_; refine tl_q (y_neg rfl (by omega)) rfl ?_; refine tl_q (y_field rfl) rfl ?_; refine tl_q (y_load1 rfl (by repeat constructor) (by rfl)) rfl ?_; refine tl_q (y_sub rfl rfl (by omega)) rfl ?_; refine tl_q (y_assign rfl) rfl ?_; refine tl_nil ?_; ((refine hK2 ?_; try (clear hK2; clear K2)))
  all_goals refine tc_ret ?_; (repeat (first | refine tk_then_ret ?_))
  all_goals (refine tk_ret rfl rfl (.cons (.tmp rfl) .nil) ?_)
  all_goals (
   exact fun w' hw' => ⟨rfl, hw'.fr (by simp)⟩)
theorem goodN_no {t : Tr} {tol : Int} {e : Int × Int × Int} {i : Nat} (hi : i < t.parts.length) (h : tol < get3 e i ∨ tol < -get3 e i) : goodB t tol e = false := by
  cases hg : goodB t tol e
  · rfl
  · have := List.all_eq_true.1 hg i (List.mem_range.2 hi)
    rw [Bool.and_eq_true, decide_eq_true_eq, decide_eq_true_eq] at this
    omega
theorem goodN_yes {t : Tr} {tol : Int} {e : Int × Int × Int} (h : ∀ i : Nat, i < t.parts.length → get3 e i ≤ tol ∧ -get3 e i ≤ tol) : goodB t tol e = true :=
  List.all_eq_true.2 fun i hi => by
    have := h i (List.mem_range.1 hi)
    rw [Bool.and_eq_true, decide_eq_true_eq, decide_eq_true_eq]
    exact this
set_option maxHeartbeats 1000000 in
theorem good_c (t : Tr) (hv : VT t) (e : Int × Int × Int) (he : ErB e) (tol : Int) (ht : 0 ≤ tol ∧ tol ≤ 1000) (sl pl ll tl : Value) (w : World) (hp : RdI w pl t.parts) : CnV Tryz.prog 136 #[trV t sl pl ll tl, tsV e, vi tol] w (.bool (goodB t tol e)) := by
  have hp1 := hv.p1
  have hp3 := hv.p3
  obtain ⟨ad, cp, b0, o0, rfl, _, _⟩ := hp.open
  refine cnv (vs := [_, _, _]) Tryz.func136 rfl rfl ?_
  all_goals refine tc_seq fun K1 hK1 => ?_; refine tc_region ?_; refine tl_e (e_box rfl rfl rfl) rfl (fun b3 _ => ?_); refine tl_e (e_box rfl rfl rfl) rfl (fun b4 _ => ?_); refine tl_q (y_assign rfl) rfl ?_; refine tl_nil ?_; ((refine hK1 ?_; try (clear hK1; clear K1)))
  all_goals refine tc_seq fun K2 hK2 => ?_; refine tc_seq fun K3 hK3 => ?_; refine tc_region ?_; refine tl_q (y_field rfl) rfl ?_; refine tl_q (y_load1 rfl (by repeat constructor) (by rfl)) rfl ?_; refine tl_q (y_len rfl) rfl ?_; refine tl_q (y_sliceAT rfl rfl (by omega)) rfl ?_; refine tl_q (y_len rfl) rfl ?_; refine tl_q (y_move rfl) rfl ?_; refine tl_nil ?_; ((refine hK3 ?_; try (clear hK3; clear K3)))
  all_goals refine tc_block ?_
  all_goals (
   refine tc_loop (fun k : Nat => k ≤ t.parts.length ∧ ∀ i : Nat, i < k → get3 e i ≤ tol ∧ -get3 e i ≤ tol) (fun k => [(2, vi tol), (14, .slice (some ⟨b4, 0, none⟩) t.parts.length 3), (15, vi t.parts.length), (16, vi k)]) (fun _ => [(w, [])]) (fun _ => [(b4, .cells (tsV e).cells 126 (0, 0))]) (fun k => t.parts.length - k) ?_ ?_
   · exact tk_start 0 ⟨Nat.zero_le _, fun i hi => absurd hi (Nat.not_lt_zero i)⟩ (.cons rfl (.cons rfl (.cons rfl (.cons rfl .nil)))) (fun _ h => h.subl SB.s SB.s)
   · rintro k ⟨hk, hg⟩
     all_goals refine tc_seq fun K4 hK4 => ?_; refine tc_region ?_; refine tl_q (y_lss rfl rfl) rfl ?_; refine tl_nil ?_; ((refine hK4 ?_; try (clear hK4; clear K4)))
     all_goals refine tc_seq fun K5 hK5 => ?_
     all_goals (
      refine tc_cond rfl (fun hc => ?_) (fun hc => ?_)
      · try simp only [qn1, qn2, qn3, qn4, qn5, qn6, qn7, qn8] at hc
        all_goals refine tc_skip ?_; ((refine hK5 ?_; try (clear hK5; clear K5)))
        all_goals refine tc_seq fun K6 hK6 => ?_; refine tc_block ?_; refine tc_seq fun K7 hK7 => ?_; refine tc_region ?_; refine tl_q (y_index rfl rfl (by omega) rfl) rfl ?_; ((refine tl_q (y_load1 (v := vi (get3 e k)) rfl (by repeat constructor) (by rcases (by omega : k = 0 ∨ k = 1 ∨ k = 2) with rfl | rfl | rfl <;> rfl)) rfl ?_))
        all_goals refine tl_q (y_assign rfl) rfl ?_; refine tl_nil ?_; ((refine hK7 ?_; try (clear hK7; clear K7)))
        all_goals refine tc_seq fun K8 hK8 => ?_; refine tc_region ?_; refine tl_q (y_build_g (by repeat constructor)) rfl ?_; refine tl_q (y_build_g (by repeat constructor)) rfl ?_; refine tl_e (e_bsliceG rfl (.agg rfl rfl (.agg rfl rfl .nil)) rfl rfl) rfl (fun b22 _ => ?_); refine tl_q (y_len rfl) rfl ?_; refine tl_q (y_move rfl) rfl ?_; refine tl_nil ?_; ((refine hK8 ?_; try (clear hK8; clear K8)))
        all_goals refine tc_block ?_
        all_goals (
         refine tc_loop (fun j : Nat => j ≤ 2 ∧ (0 < j → get3 e k ≤ tol) ∧ (1 < j → -get3 e k ≤ tol)) (fun j => [(2, vi tol), (8, vi (get3 e k)), (14, .slice (some ⟨b4, 0, none⟩) t.parts.length 3), (15, vi t.parts.length), (16, vi k), (22, .slice (some ⟨b22, 0, none⟩) 2 2), (23, vi 2), (24, vi j)]) (fun _ => [(w, [])]) (fun _ => [(b22, .cells #[.func (.func 163) #[] #[], .func (.func 164) #[] #[]] 215 (0, 0)), (b4, .cells (tsV e).cells 126 (0, 0))]) (fun j => 2 - j) ?_ ?_
         · exact tk_start 0 ⟨by omega, fun h => by omega, fun h => by omega⟩ (.cons rfl (.cons rfl (.cons rfl (.cons rfl (.cons rfl (.cons rfl (.cons rfl (.cons rfl .nil)))))))) (fun _ h => h.subl SB.s SB.s)
         · rintro j ⟨hj, hj0, hj1⟩
           rcases (by omega : j = 0 ∨ j = 1 ∨ j = 2) with rfl | rfl | rfl
           all_goals refine tc_seq fun K9 hK9 => ?_; refine tc_region ?_; refine tl_q (y_lss rfl rfl) rfl ?_; refine tl_nil ?_; ((refine hK9 ?_; try (clear hK9; clear K9)))
           all_goals refine tc_seq fun K10 hK10 => ?_
           all_goals (
            refine tc_cond rfl (fun hc => ?_) (fun hc => ?_)
            · try simp only [qn1, qn2, qn3, qn4, qn5, qn6, qn7, qn8] at hc
              all_goals ((first | (exfalso; omega) | skip))
              all_goals refine tc_skip ?_; ((refine hK10 ?_; try (clear hK10; clear K10)))
              all_goals refine tc_seq fun K11 hK11 => ?_; refine tc_block ?_; refine tc_seq fun K12 hK12 => ?_; refine tc_region ?_; refine tl_q (y_index rfl rfl (by omega) rfl) rfl ?_; ((refine tl_q (y_loadN rfl (by repeat constructor) (by (repeat (first | exact .nil | apply CA.cons rfl)); done)) rfl ?_))
              all_goals refine tl_e (e_allocN rfl) rfl (fun _ _ => ?_); refine tl_e (e_storeW rfl rfl (by repeat constructor) (by rfl) (by rfl) (by simp [Value.oneCell'])) rfl (fun _ _ => ?_); refine tl_nil ?_; ((refine hK12 ?_; try (clear hK12; clear K12)))
              all_goals refine tc_seq fun K13 hK13 => ?_; refine tc_region ?_; refine tl_q (y_field rfl) rfl ?_; refine tl_q (y_load1 rfl (by repeat constructor) (by rfl)) rfl ?_; refine tl_q (y_move rfl) rfl ?_; refine tl_q (y_move rfl) rfl ?_; refine tl_q (y_build_g (by repeat constructor)) rfl ?_; (first | refine tl_e (e_callVf rfl rfl (.cons rfl .nil) (fun w' hw' => spanAbove_c (get3 e k) tol (he.get k) ht w')) rfl (fun _ _ => ?_) | refine tl_e (e_callVf rfl rfl (.cons rfl .nil) (fun w' hw' => spanBelow_c (get3 e k) tol (he.get k) ht w')) rfl (fun _ _ => ?_)); refine tl_q (y_gtr rfl rfl) rfl ?_; refine tl_nil ?_; ((refine hK13 ?_; try (clear hK13; clear K13)))
              all_goals (
               refine tc_cond rfl (fun hc => ?_) (fun hc => ?_)
               · try simp only [qn1, qn2, qn3, qn4, qn5, qn6, qn7, qn8] at hc
                 all_goals refine tc_seq fun K14 hK14 => ?_; refine tc_region ?_; refine tl_q (y_assign rfl) rfl ?_; refine tl_nil ?_; ((refine hK14 ?_; try (clear hK14; clear K14)))
                 all_goals refine tc_ret ?_; (repeat (first | refine tk_then_ret ?_ | refine tk_block_ret ?_))
                 all_goals (refine tk_ret rfl rfl (.cons (.tmp rfl) .nil) ?_)
                 all_goals (
                  first
                  | exact fun w' hw' => ⟨by rw [goodN_no (t := t) (i := k) (by omega) (by omega)]; rfl, hw'.fr (by simp)⟩
                  | exact fun w' hw' => ⟨by rw [goodN_yes (t := t) (fun i hi => hg i (by omega))]; rfl, hw'.fr (by simp)⟩)
               · try simp only [qn1, qn2, qn3, qn4, qn5, qn6, qn7, qn8] at hc
                 all_goals refine tc_skip ?_; ((refine hK11 ?_; try (clear hK11; clear K11)))
                 all_goals refine tc_region ?_; refine tl_q (y_add rfl rfl (by omega)) rfl ?_; refine tl_q (y_move rfl) rfl ?_; refine tl_nil ?_
                 all_goals (
                  first
                  | exact tk_round 1 ⟨by omega, fun _ => by omega, fun h => by omega⟩ (by omega) (.cons rfl (.cons rfl (.cons rfl (.cons rfl (.cons rfl (.cons rfl (.cons rfl (.cons rfl .nil)))))))) (fun _ h => h.subl SB.s SB.s)
                  | exact tk_round 2 ⟨by omega, fun _ => by omega, fun h => by omega⟩ (by omega) (.cons rfl (.cons rfl (.cons rfl (.cons rfl (.cons rfl (.cons rfl (.cons rfl (.cons rfl .nil)))))))) (fun _ h => h.subl SB.s SB.s)))
            · try simp only [qn1, qn2, qn3, qn4, qn5, qn6, qn7, qn8] at hc
              all_goals ((first | (exfalso; omega) | skip))
              all_goals refine tc_exit ?_; ((refine hK6 ?_; try (clear hK6; clear K6)))
              all_goals refine tc_region ?_; refine tl_q (y_add rfl rfl (by omega)) rfl ?_; refine tl_q (y_move rfl) rfl ?_; refine tl_nil ?_
              all_goals (
               exact tk_round (k + 1) ⟨by omega, fun i hi => by rcases Nat.lt_succ_iff_lt_or_eq.1 hi with g | rfl; exact hg i g; exact ⟨hj0 (by omega), hj1 (by omega)⟩⟩ (by omega) (.cons rfl (.cons rfl (.cons rfl (.cons rfl .nil)))) (fun _ h => h.subl SB.s SB.s))))
      · try simp only [qn1, qn2, qn3, qn4, qn5, qn6, qn7, qn8] at hc
        all_goals refine tc_exit ?_; ((refine hK2 ?_; try (clear hK2; clear K2)))
        all_goals refine tc_seq fun K15 hK15 => ?_; refine tc_region ?_; refine tl_q (y_assign rfl) rfl ?_; refine tl_nil ?_; ((refine hK15 ?_; try (clear hK15; clear K15)))
        all_goals refine tc_ret ?_; (repeat (first | refine tk_then_ret ?_))
        all_goals (refine tk_ret rfl rfl (.cons (.tmp rfl) .nil) ?_)
        all_goals (
         first
         | exact fun w' hw' => ⟨by rw [goodN_no (t := t) (i := k) (by omega) (by omega)]; rfl, hw'.fr (by simp)⟩
         | exact fun w' hw' => ⟨by rw [goodN_yes (t := t) (fun i hi => hg i (by omega))]; rfl, hw'.fr (by simp)⟩)))
end Go.Sp
/-
  What the statements about trials are made of: a trial.
-/
namespace Go.Sp
open Go Go.Proofs
def outOkT : Nat × Option (Nat × Nat × List Value) → Prop
  | (n, none) => n = 0
  | (n, some (_, cap, junk)) => n ≤ cap ∧ junk.length = (cap - n) * 3
theorem takeT_succ {l : List (Int × Int × Int)} {n : Nat} (h : n < l.length) : l.take (n + 1) = l.take n ++ [l.getD n (0, 0, 0)] := by
  rw [List.take_add_one, List.getElem?_eq_getElem h, List.getD_eq_getElem?_getD, List.getElem?_eq_getElem h]; rfl
end Go.Sp
/-
  Package trial: errors that are good and errors that are not; judging.
-/
namespace Go.Sp
open Go Go.Proofs
/-- The blocks of a slice in the making: its own, if there is one. -/
def slH (e : TypeId) (vs : List Value) : Option (Nat × Nat × List Value) → List (Nat × Obj)
  | none => []
  | some (b, _, junk) => [(b, .cells (vs ++ junk).toArray e (0, 0))]
theorem slH_none {e : TypeId} {vs : List Value} : slH e vs none = [] := rfl
theorem slH_some {e : TypeId} {vs : List Value} {b c : Nat} {j : List Value} : slH e vs (some (b, c, j)) = [(b, .cells (vs ++ j).toArray e (0, 0))] := rfl
def slS : Option (Nat × Nat × List Value) → List Nat
  | none => []
  | some (b, _, _) => [b]
def filN (p : Int × Int × Int → Bool) (l : List (Int × Int × Int)) (k : Nat) : List (Int × Int × Int) := (l.take k).filter p
theorem filN_succ {p : Int × Int × Int → Bool} {l : List (Int × Int × Int)} {k : Nat} (h : k < l.length) : filN p l (k + 1) = if p (l.getD k (0, 0, 0)) = true then filN p l k ++ [l.getD k (0, 0, 0)] else filN p l k := by
  unfold filN
  rw [takeT_succ h, List.filter_append]
  split
  · rename_i hp; rw [List.filter_cons, if_pos hp]; rfl
  · rename_i hp; rw [List.filter_cons, if_neg hp, List.filter_nil, List.append_nil]
theorem filN_all (p : Int × Int × Int → Bool) (l : List (Int × Int × Int)) : filN p l l.length = l.filter p := by unfold filN; rw [List.take_length]
theorem filN_len (p : Int × Int × Int → Bool) (l : List (Int × Int × Int)) (k : Nat) : (filN p l k).length ≤ k := Nat.le_trans (List.length_filter_le _ _) (by rw [List.length_take]; omega)
def badB (t : Tr) (tol : Int) (e : Int × Int × Int) : Bool := !goodB t tol e
set_option maxHeartbeats 1000000 in
theorem split_c (t : Tr) (hv : VT t) (l : List (Int × Int × Int)) (hl : l.length ≤ 343) (hb : ∀ e ∈ l, ErB e) (tol : Int) (ht : 0 ≤ tol ∧ tol ≤ 1000) (sl pl ll tl lv : Value) (w : World) (hr : RdTr w t sl pl ll tl) (hL : RdT w lv l) :
    CnX Tryz.prog 86 #[trV t sl pl ll tl, lv, vi tol] w [] (fun y : (Option Addr × Nat) × (Option Addr × Nat) => .tuple #[slV (l.filter (goodB t tol)).length y.1, slV (l.filter (badB t tol)).length y.2])
      (fun y w' => (RdT w' (slV (l.filter (goodB t tol)).length y.1) (l.filter (goodB t tol)) ∧ RdT w' (slV (l.filter (badB t tol)).length y.2) (l.filter (badB t tol))) ∧ NewS w (slV (l.filter (goodB t tol)).length y.1) ∧ NewS w (slV (l.filter (badB t tol)).length y.2)) := by
  have hr0 := hr
  obtain ⟨ad, cp, bL, oL, rfl, had, hcell⟩ := hL.open
  refine cnx0 (vs := [_, _, _]) Tryz.func86 rfl rfl ?_
  all_goals refine tc_seq fun K1 hK1 => ?_; refine tc_region ?_; refine tl_e (e_box rfl rfl rfl) rfl (fun b3 _ => ?_); refine tl_q (y_assign rfl) rfl ?_; refine tl_q (y_assign rfl) rfl ?_; refine tl_nil ?_; ((refine hK1 ?_; try (clear hK1; clear K1)))
  all_goals refine tc_seq fun K2 hK2 => ?_; refine tc_seq fun K3 hK3 => ?_; refine tc_region ?_; refine tl_q (y_move rfl) rfl ?_; refine tl_q (y_len rfl) rfl ?_; refine tl_q (y_move rfl) rfl ?_; refine tl_nil ?_; ((refine hK3 ?_; try (clear hK3; clear K3)))
  all_goals refine tc_block ?_
  all_goals (
   refine tc_loop (fun p : Nat × Option (Nat × Nat × List Value) × Option (Nat × Nat × List Value) => p.1 ≤ l.length ∧ outOkT ((filN (goodB t tol) l p.1).length, p.2.1) ∧ outOkT ((filN (badB t tol) l p.1).length, p.2.2)) (fun p => [(2, vi tol), (3, ptr b3), (6, outV' ((filN (goodB t tol) l p.1).length, p.2.1)), (7, outV' ((filN (badB t tol) l p.1).length, p.2.2)), (10, .slice ad l.length cp), (11, vi l.length), (12, vi p.1)]) (fun _ => [(w, [])]) (fun p => slH 126 (flatT (filN (goodB t tol) l p.1)) p.2.1 ++ (slH 126 (flatT (filN (badB t tol) l p.1)) p.2.2 ++ [(b3, .cells (trV t sl pl ll tl).cells 38 (0, 0))])) (fun p => l.length - p.1) ?_ ?_
   · exact tk_start (0, none, none) ⟨Nat.zero_le _, rfl, rfl⟩ (.cons rfl (.cons rfl (.cons rfl (.cons rfl (.cons rfl (.cons rfl (.cons rfl .nil))))))) (fun _ h => h.subl SB.s SB.s)
   · rintro ⟨k, og, ob⟩ ⟨hk, hog, hob⟩
     have hlg := filN_len (goodB t tol) l k
     have hlb := filN_len (badB t tol) l k
     rcases og with _ | ⟨bg, cg, jg⟩ <;> rcases ob with _ | ⟨bb, cb, jb⟩
     all_goals ((dsimp only [outOkT, slH, List.cons_append, List.nil_append] at hk hog hob ⊢; dsimp only [outV']))
     all_goals refine tc_seq fun K4 hK4 => ?_; refine tc_region ?_; refine tl_q (y_lss rfl rfl) rfl ?_; refine tl_nil ?_; ((refine hK4 ?_; try (clear hK4; clear K4)))
     all_goals refine tc_seq fun K5 hK5 => ?_
     all_goals (
      refine tc_cond rfl (fun hc => ?_) (fun hc => ?_)
      · try simp only [qn1, qn2, qn3, qn4, qn5, qn6, qn7, qn8] at hc
        all_goals refine tc_skip ?_; ((refine hK5 ?_; try (clear hK5; clear K5)))
        all_goals refine tc_seq fun K6 hK6 => ?_; refine tc_block ?_; refine tc_seq fun K7 hK7 => ?_; have had' := had (by omega)
        all_goals (have hmem : l.getD k (0, 0, 0) ∈ l := by rw [List.getD_eq_getElem?_getD, List.getElem?_eq_getElem (by omega)]; exact List.getElem_mem (by omega))
        all_goals have hsg := filN_succ (p := goodB t tol) (l := l) (k := k) (by omega)
        all_goals have hsb := filN_succ (p := badB t tol) (l := l) (k := k) (by omega)
        all_goals refine tc_region ?_; refine tl_q (y_index rfl rfl (by omega) had') rfl ?_; ((refine tl_q (y_loadNo (n := 3) rfl (fun w' hw' => by rw [show Int.toNat (k : Int) * 3 = k * 3 from by omega]; exact hcell w' [] (hw'.fr (w0 := w) (S := []) MI.m) (by simp) k (by omega))) rfl ?_))
        all_goals refine tl_e (e_allocN rfl) rfl (fun _ _ => ?_); refine tl_e (e_storeW rfl rfl (by repeat constructor) (by rfl) (by rfl) (by simp [Value.oneCell'])) rfl (fun _ _ => ?_); refine tl_nil ?_; ((refine hK7 ?_; try (clear hK7; clear K7)))
        all_goals refine tc_seq fun K8 hK8 => ?_; refine tc_region ?_; refine tl_q (y_loadW rfl (by repeat constructor) (by rfl)) rfl ?_; refine tl_q (y_loadW rfl (by repeat constructor) (by rfl)) rfl ?_; refine tl_q (y_move rfl) rfl ?_; refine tl_e (e_callV rfl (.cons rfl (.cons rfl (.cons rfl .nil))) (fun w' hw' => good_c t hv (l.getD k (0, 0, 0)) (hb _ hmem) tol ht sl pl ll tl w' (hr0.fr (hw'.fr (w0 := w) (S := []) MI.m)).ps)) rfl (fun _ _ => ?_); refine tl_nil ?_; ((refine hK8 ?_; try (clear hK8; clear K8)))
        all_goals (
         refine tc_cond rfl (fun hc => ?_) (fun hc => ?_)
         · all_goals (skip)
           all_goals refine tc_region ?_; refine tl_q (y_move rfl) rfl ?_; refine tl_q (y_loadW rfl (by repeat constructor) (by rfl)) rfl ?_; refine tl_e (e_bslice31 rfl rfl) rfl (fun _ _ => ?_); ((first | refine tl_e (e_append_own (old := flatT (filN (goodB t tol) l k)) (junk := jg) rfl rfl rfl (by repeat constructor) (flatT_len _) hog.2 hog.1 (fun w' hw' => RdT.own0 (xs := [l.getD k (0, 0, 0)]) hw' (by repeat constructor)) (flatT_one _) (by simp only [List.length_cons, List.length_nil]; omega) rfl) rfl (fun y hy => ?_) | refine tl_e (e_append_nil rfl rfl rfl (fun w' hw' => RdT.own0 (xs := [l.getD k (0, 0, 0)]) hw' (by repeat constructor)) (flatT_one _) Nat.zero_lt_one (Nat.le_of_ble_eq_true rfl) rfl) rfl (fun y hy => ?_)))
           all_goals refine tl_q (y_assign rfl) rfl ?_; refine tl_nil ?_; ((refine hK6 ?_; try (clear hK6; clear K6)))
           all_goals refine tc_region ?_; refine tl_q (y_add rfl rfl (by omega)) rfl ?_; refine tl_q (y_move rfl) rfl ?_; refine tl_nil ?_
           all_goals (
            first
            | (have hs1 : filN (goodB t tol) l (k + 1) = filN (goodB t tol) l k ++ [l.getD k (0, 0, 0)] := by rw [hsg, if_pos hc]
               have hs2 : filN (badB t tol) l (k + 1) = filN (badB t tol) l k := by rw [hsb, if_neg (by unfold badB; rw [hc]; exact Bool.false_ne_true)]
               first
               | (refine tk_round (k + 1, some (y.1, y.2.1, y.2.2), none) ⟨by dsimp only; omega, ?_, (by dsimp only; rw [hs2]; exact hob)⟩ (by dsimp only; omega) (.cons rfl (.cons rfl (.cons ?_ (.cons rfl (.cons rfl (.cons rfl (.cons rfl .nil))))))) (fun _ h => ?_)
                  · dsimp only; rw [hs1, List.length_append]; simp only [List.length_cons, List.length_nil] at hy ⊢; omega
                  · dsimp only; rw [hs1, List.length_append]; first | rfl | (rw [hog]; rfl)
                  · dsimp only [List.cons_append, List.nil_append]; rw [hs1, flatT_append]
                    try rw [show filN (goodB t tol) l k = [] from List.eq_nil_of_length_eq_zero hog, show flatT [] = [] from rfl, List.nil_append]
                    exact h.subl SB.s SB.s)
               | (refine tk_round (k + 1, some (y.1, y.2.1, y.2.2), some (bb, cb, jb)) ⟨by dsimp only; omega, ?_, (by dsimp only; rw [hs2]; exact hob)⟩ (by dsimp only; omega) (.cons rfl (.cons rfl (.cons ?_ (.cons ?_ (.cons rfl (.cons rfl (.cons rfl .nil))))))) (fun _ h => ?_)
                  · dsimp only; rw [hs1, List.length_append]; simp only [List.length_cons, List.length_nil] at hy ⊢; omega
                  · dsimp only; rw [hs1, List.length_append]; first | rfl | (rw [hog]; rfl)
                  · dsimp only; rw [hs2]; rfl
                  · dsimp only [List.cons_append, List.nil_append]; rw [hs1, hs2, flatT_append]
                    try rw [show filN (goodB t tol) l k = [] from List.eq_nil_of_length_eq_zero hog, show flatT [] = [] from rfl, List.nil_append]
                    exact h.subl SB.s SB.s))
            | (have hs1 : filN (goodB t tol) l (k + 1) = filN (goodB t tol) l k := by rw [hsg, if_neg (by rw [hc]; exact Bool.false_ne_true)]
               have hs2 : filN (badB t tol) l (k + 1) = filN (badB t tol) l k ++ [l.getD k (0, 0, 0)] := by rw [hsb, if_pos (by unfold badB; rw [hc]; rfl)]
               first
               | (refine tk_round (k + 1, none, some (y.1, y.2.1, y.2.2)) ⟨by dsimp only; omega, (by dsimp only; rw [hs1]; exact hog), ?_⟩ (by dsimp only; omega) (.cons rfl (.cons rfl (.cons rfl (.cons ?_ (.cons rfl (.cons rfl (.cons rfl .nil))))))) (fun _ h => ?_)
                  · dsimp only; rw [hs2, List.length_append]; simp only [List.length_cons, List.length_nil] at hy ⊢; omega
                  · dsimp only; rw [hs2, List.length_append]; first | rfl | (rw [hob]; rfl)
                  · dsimp only [List.cons_append, List.nil_append]; rw [hs2, flatT_append]
                    try rw [show filN (badB t tol) l k = [] from List.eq_nil_of_length_eq_zero hob, show flatT [] = [] from rfl, List.nil_append]
                    exact h.subl SB.s SB.s)
               | (refine tk_round (k + 1, some (bg, cg, jg), some (y.1, y.2.1, y.2.2)) ⟨by dsimp only; omega, (by dsimp only; rw [hs1]; exact hog), ?_⟩ (by dsimp only; omega) (.cons rfl (.cons rfl (.cons ?_ (.cons ?_ (.cons rfl (.cons rfl (.cons rfl .nil))))))) (fun _ h => ?_)
                  · dsimp only; rw [hs2, List.length_append]; simp only [List.length_cons, List.length_nil] at hy ⊢; omega
                  · dsimp only; rw [hs1]; rfl
                  · dsimp only; rw [hs2, List.length_append]; first | rfl | (rw [hob]; rfl)
                  · dsimp only [List.cons_append, List.nil_append]; rw [hs1, hs2, flatT_append]
                    try rw [show filN (badB t tol) l k = [] from List.eq_nil_of_length_eq_zero hob, show flatT [] = [] from rfl, List.nil_append]
                    exact (h.subl SB.s SB.s).sw)))
         · all_goals (skip)
           all_goals refine tc_region ?_; refine tl_q (y_move rfl) rfl ?_; refine tl_q (y_loadW rfl (by repeat constructor) (by rfl)) rfl ?_; refine tl_e (e_bslice31 rfl rfl) rfl (fun _ _ => ?_); ((first | refine tl_e (e_append_own (old := flatT (filN (badB t tol) l k)) (junk := jb) rfl rfl rfl (by repeat constructor) (flatT_len _) hob.2 hob.1 (fun w' hw' => RdT.own0 (xs := [l.getD k (0, 0, 0)]) hw' (by repeat constructor)) (flatT_one _) (by simp only [List.length_cons, List.length_nil]; omega) rfl) rfl (fun y hy => ?_) | refine tl_e (e_append_nil rfl rfl rfl (fun w' hw' => RdT.own0 (xs := [l.getD k (0, 0, 0)]) hw' (by repeat constructor)) (flatT_one _) Nat.zero_lt_one (Nat.le_of_ble_eq_true rfl) rfl) rfl (fun y hy => ?_)))
           all_goals refine tl_q (y_assign rfl) rfl ?_; refine tl_nil ?_; ((refine hK6 ?_; try (clear hK6; clear K6)))
           all_goals refine tc_region ?_; refine tl_q (y_add rfl rfl (by omega)) rfl ?_; refine tl_q (y_move rfl) rfl ?_; refine tl_nil ?_
           all_goals (
            first
            | (have hs1 : filN (goodB t tol) l (k + 1) = filN (goodB t tol) l k ++ [l.getD k (0, 0, 0)] := by rw [hsg, if_pos hc]
               have hs2 : filN (badB t tol) l (k + 1) = filN (badB t tol) l k := by rw [hsb, if_neg (by unfold badB; rw [hc]; exact Bool.false_ne_true)]
               first
               | (refine tk_round (k + 1, some (y.1, y.2.1, y.2.2), none) ⟨by dsimp only; omega, ?_, (by dsimp only; rw [hs2]; exact hob)⟩ (by dsimp only; omega) (.cons rfl (.cons rfl (.cons ?_ (.cons rfl (.cons rfl (.cons rfl (.cons rfl .nil))))))) (fun _ h => ?_)
                  · dsimp only; rw [hs1, List.length_append]; simp only [List.length_cons, List.length_nil] at hy ⊢; omega
                  · dsimp only; rw [hs1, List.length_append]; first | rfl | (rw [hog]; rfl)
                  · dsimp only [List.cons_append, List.nil_append]; rw [hs1, flatT_append]
                    try rw [show filN (goodB t tol) l k = [] from List.eq_nil_of_length_eq_zero hog, show flatT [] = [] from rfl, List.nil_append]
                    exact h.subl SB.s SB.s)
               | (refine tk_round (k + 1, some (y.1, y.2.1, y.2.2), some (bb, cb, jb)) ⟨by dsimp only; omega, ?_, (by dsimp only; rw [hs2]; exact hob)⟩ (by dsimp only; omega) (.cons rfl (.cons rfl (.cons ?_ (.cons ?_ (.cons rfl (.cons rfl (.cons rfl .nil))))))) (fun _ h => ?_)
                  · dsimp only; rw [hs1, List.length_append]; simp only [List.length_cons, List.length_nil] at hy ⊢; omega
                  · dsimp only; rw [hs1, List.length_append]; first | rfl | (rw [hog]; rfl)
                  · dsimp only; rw [hs2]; rfl
                  · dsimp only [List.cons_append, List.nil_append]; rw [hs1, hs2, flatT_append]
                    try rw [show filN (goodB t tol) l k = [] from List.eq_nil_of_length_eq_zero hog, show flatT [] = [] from rfl, List.nil_append]
                    exact h.subl SB.s SB.s))
            | (have hs1 : filN (goodB t tol) l (k + 1) = filN (goodB t tol) l k := by rw [hsg, if_neg (by rw [hc]; exact Bool.false_ne_true)]
               have hs2 : filN (badB t tol) l (k + 1) = filN (badB t tol) l k ++ [l.getD k (0, 0, 0)] := by rw [hsb, if_pos (by unfold badB; rw [hc]; rfl)]
               first
               | (refine tk_round (k + 1, none, some (y.1, y.2.1, y.2.2)) ⟨by dsimp only; omega, (by dsimp only; rw [hs1]; exact hog), ?_⟩ (by dsimp only; omega) (.cons rfl (.cons rfl (.cons rfl (.cons ?_ (.cons rfl (.cons rfl (.cons rfl .nil))))))) (fun _ h => ?_)
                  · dsimp only; rw [hs2, List.length_append]; simp only [List.length_cons, List.length_nil] at hy ⊢; omega
                  · dsimp only; rw [hs2, List.length_append]; first | rfl | (rw [hob]; rfl)
                  · dsimp only [List.cons_append, List.nil_append]; rw [hs2, flatT_append]
                    try rw [show filN (badB t tol) l k = [] from List.eq_nil_of_length_eq_zero hob, show flatT [] = [] from rfl, List.nil_append]
                    exact h.subl SB.s SB.s)
               | (refine tk_round (k + 1, some (bg, cg, jg), some (y.1, y.2.1, y.2.2)) ⟨by dsimp only; omega, (by dsimp only; rw [hs1]; exact hog), ?_⟩ (by dsimp only; omega) (.cons rfl (.cons rfl (.cons ?_ (.cons ?_ (.cons rfl (.cons rfl (.cons rfl .nil))))))) (fun _ h => ?_)
                  · dsimp only; rw [hs2, List.length_append]; simp only [List.length_cons, List.length_nil] at hy ⊢; omega
                  · dsimp only; rw [hs1]; rfl
                  · dsimp only; rw [hs2, List.length_append]; first | rfl | (rw [hob]; rfl)
                  · dsimp only [List.cons_append, List.nil_append]; rw [hs1, hs2, flatT_append]
                    try rw [show filN (badB t tol) l k = [] from List.eq_nil_of_length_eq_zero hob, show flatT [] = [] from rfl, List.nil_append]
                    exact (h.subl SB.s SB.s).sw))))
      · try simp only [qn1, qn2, qn3, qn4, qn5, qn6, qn7, qn8] at hc
        all_goals refine tc_exit ?_; ((refine hK2 ?_; try (clear hK2; clear K2)))
        all_goals refine tc_seq fun K9 hK9 => ?_; (have hkl : k = l.length := by omega)
        all_goals subst hkl
        all_goals (rw [filN_all] at hog hob hlg hlb)
        all_goals refine tc_region ?_; refine tl_q (y_move rfl) rfl ?_; refine tl_q (y_move rfl) rfl ?_; refine tl_q (y_assign rfl) rfl ?_; refine tl_q (y_assign rfl) rfl ?_; refine tl_nil ?_; ((refine hK9 ?_; try (clear hK9; clear K9)))
        all_goals refine tc_ret ?_; (repeat (first | refine tk_then_ret ?_))
        all_goals (refine tk_ret rfl rfl (.cons (.tmp rfl) (.cons (.tmp rfl) .nil)) ?_)
        all_goals (
         refine fun w' hw' => ?_
         try rw [filN_all] at hw'
         try rw [filN_all] at hw'
         first
         | exact ⟨((none, 0), (none, 0)), by unfold slV; rw [hog, hob]; rfl, hw'.fr (by simp), ⟨by unfold slV; rw [hog, List.eq_nil_of_length_eq_zero hog]; exact RdT.nil _, by unfold slV; rw [hob, List.eq_nil_of_length_eq_zero hob]; exact RdT.nil _⟩, NewS.nil _ _ _, NewS.nil _ _ _⟩
         | exact ⟨((some ⟨bg, 0, none⟩, cg), (none, 0)), by unfold slV; rw [hob]; try rw [filN_all]
                                                            rfl, hw'.fr (by simp), ⟨RdT.own (cap := cg) (junk := jg) (b := bg) hw' (by repeat constructor), by unfold slV; rw [hob, List.eq_nil_of_length_eq_zero hob]; exact RdT.nil _⟩, NewS.own hw' (b := bg) (by repeat constructor) (by simp), NewS.nil _ _ _⟩
         | exact ⟨((none, 0), (some ⟨bb, 0, none⟩, cb)), by unfold slV; rw [hog]; try rw [filN_all]
                                                            rfl, hw'.fr (by simp), ⟨by unfold slV; rw [hog, List.eq_nil_of_length_eq_zero hog]; exact RdT.nil _, RdT.own (cap := cb) (junk := jb) (b := bb) hw' (by repeat constructor)⟩, NewS.nil _ _ _, NewS.own hw' (b := bb) (by repeat constructor) (by simp)⟩
         | exact ⟨((some ⟨bg, 0, none⟩, cg), (some ⟨bb, 0, none⟩, cb)), by rw [filN_all, filN_all]; rfl, hw'.fr (by simp), ⟨RdT.own (cap := cg) (junk := jg) (b := bg) hw' (by repeat constructor), RdT.own (cap := cb) (junk := jb) (b := bb) hw' (by repeat constructor)⟩, NewS.own hw' (b := bg) (by repeat constructor) (by simp), NewS.own hw' (b := bb) (by repeat constructor) (by simp)⟩)))
theorem CnX.weak {P : Program} {f : FuncId} {args : Array Value} {w : World} {S : List Nat} {α : Type} {val : α → Value} {p p' : α → World → Prop} (h : CnX P f args w S val p) (hp : ∀ x w', Fr S w w' → p x w' → p' x w') : CnX P f args w S val p' := h.imp id (fun _ => rfl) (fun _ h => h) hp
theorem asked_rd (t : Tr) (hn : NT t) (he : askedE t = 0) (sl pl ll tl : Value) (w : World) (hr : RdTr w t sl pl ll tl) :
    CnX Tryz.prog 77 #[trV t sl pl ll tl] w [] (fun y : Nat × (Option Addr × Nat) => .tuple #[ptr y.1, slV (truthsL t []).length y.2, vi 0]) (fun y w' => RdT w' (slV (truthsL t []).length y.2) (truthsL t [])) :=
  (asked_ok t hn he sl pl ll tl w hr).imp (fun y => (y.1.1, y.2.1)) (fun _ => rfl) (fun _ h => h) (fun _ _ _ h => h.1.1)
theorem judgeJ_len {t : Tr} {tol : Int} : judgeJ t tol = if ((truthsL t []).filter (badB t tol)).length = 0 then 1 else if ((truthsL t []).filter (goodB t tol)).length = 0 then 2 else 3 := by
  have h1 : ((truthsL t []).filter (badB t tol)).length = 0 ↔ (truthsL t []).all (goodB t tol) = true := by
    rw [List.length_eq_zero_iff, List.filter_eq_nil_iff, List.all_eq_true]
    exact ⟨fun h x hx => by have := h x hx; unfold badB at this; simpa using this, fun h x hx => by unfold badB; rw [h x hx]; exact Bool.false_ne_true⟩
  have h2 : ((truthsL t []).filter (goodB t tol)).length = 0 ↔ (truthsL t []).any (goodB t tol) = false := by
    rw [List.length_eq_zero_iff, List.filter_eq_nil_iff, List.any_eq_false]
  unfold judgeJ
  by_cases c1 : (truthsL t []).all (goodB t tol) = true
  · rw [if_pos c1, if_pos (h1.2 c1)]
  · rw [if_neg c1, if_neg (fun h => c1 (h1.1 h))]
    by_cases c2 : (truthsL t []).any (goodB t tol) = false
    · rw [if_pos c2, if_pos (h2.2 c2)]
    · rw [if_neg c2, if_neg (fun h => c2 (h2.1 h))]
theorem judge_tolE {t : Tr} {tol : Int} (h : ¬ tolE t tol = 0) : judgeE t tol = (0, tolE t tol) := by
  unfold tolE at h ⊢
  unfold judgeE
  by_cases c1 : chkT t = 0
  · rw [if_neg (fun g => g c1)] at h
    rw [if_neg (fun g : ¬ chkT t = 0 => g c1), if_neg (fun g : ¬ chkT t = 0 => g c1)]
    by_cases c2 : tol < 0
    · rw [if_pos c2, if_pos c2]
    · rw [if_neg c2] at h; exact absurd rfl h
  · rw [if_pos c1, if_pos c1]
theorem judge_c (t : Tr) (hn : NT t) (tol : Int) (ht : tol ≤ 1000) (sl pl ll tl : Value) (w : World) (hr : RdTr w t sl pl ll tl) : CnV Tryz.prog 36 #[trV t sl pl ll tl, vi tol] w (.tuple #[vi (judgeE t tol).1, vi (judgeE t tol).2]) := by
  have hr0 := hr
  have htl : VT t → (truthsL t []).length ≤ 343 := fun hv => Nat.le_trans (List.length_filter_le _ _) (every_len hv)
  have hT : tolE t tol = 0 → VT t ∧ 0 ≤ tol := fun h => by
    unfold tolE at h
    split at h
    · omega
    · split at h
      · omega
      · exact ⟨chkT_0.1 (by omega), by omega⟩
  refine cnv (vs := [_, _]) Tryz.func36 rfl rfl ?_
  all_goals refine tc_seq fun K1 hK1 => ?_; refine tc_region ?_; refine tl_e (e_box rfl rfl rfl) rfl (fun b2 _ => ?_); refine tl_q (y_assign rfl) rfl ?_; refine tl_q (y_assign rfl) rfl ?_; refine tl_nil ?_; ((refine hK1 ?_; try (clear hK1; clear K1)))
  all_goals refine tc_seq fun K2 hK2 => ?_; refine tc_seq fun K3 hK3 => ?_; refine tc_region ?_; refine tl_q (y_loadW rfl (by repeat constructor) (by rfl)) rfl ?_; refine tl_q (y_move rfl) rfl ?_; refine tl_e (e_callV rfl (.cons rfl (.cons rfl .nil)) (fun w' hw' => tolerant_c t hn tol sl pl ll tl w' (hr0.fr (hw'.fr (by simp))))) rfl (fun _ _ => ?_); refine tl_q (y_assign rfl) rfl ?_; refine tl_nil ?_; ((refine hK3 ?_; try (clear hK3; clear K3)))
  all_goals refine tc_seq fun K4 hK4 => ?_; refine tc_region ?_; refine tl_q (y_move rfl) rfl ?_; refine tl_q (y_neq rfl rfl) rfl ?_; refine tl_nil ?_; ((refine hK4 ?_; try (clear hK4; clear K4)))
  all_goals (
   refine tc_cond rfl (fun hc => ?_) (fun hc => ?_)
   · try simp only [qn1, qn2, qn3, qn4, qn5, qn6, qn7, qn8] at hc
     all_goals refine tc_seq fun K5 hK5 => ?_; refine tc_region ?_; refine tl_q (y_move rfl) rfl ?_; refine tl_q (y_assign rfl) rfl ?_; refine tl_q (y_assign rfl) rfl ?_; refine tl_nil ?_; ((refine hK5 ?_; try (clear hK5; clear K5)))
     all_goals refine tc_ret ?_; (repeat (refine tk_then_ret ?_))
     all_goals (refine tk_ret rfl rfl (.cons (.tmp rfl) (.cons (.tmp rfl) .nil)) ?_)
     all_goals (
      refine fun w' hw' => ⟨?_, hw'.fr (by simp)⟩
      first
      | (rw [judge_tolE (by assumption)]; rfl)
      | (unfold judgeE; rw [if_neg (by have := chkT_0.2 hv; omega), if_neg (by omega), if_pos (by omega)]; rfl)
      | (unfold judgeE; rw [if_neg (by have := chkT_0.2 hv; omega), if_neg (by omega), if_neg (by omega), judgeJ_len]
         first
         | (rw [if_pos (by omega)]; rfl)
         | (rw [if_neg (by omega), if_pos (by omega)]; rfl)
         | (rw [if_neg (by omega), if_neg (by omega)]; rfl)))
   · try simp only [qn1, qn2, qn3, qn4, qn5, qn6, qn7, qn8] at hc
     all_goals refine tc_skip ?_; ((refine hK2 ?_; try (clear hK2; clear K2)))
     all_goals refine tc_seq fun K6 hK6 => ?_; (obtain ⟨hv, ht0⟩ := hT (by omega))
     all_goals rcases Decidable.em (askedE t = 0) with hA | hA
     all_goals refine tc_region ?_; refine tl_q (y_loadW rfl (by repeat constructor) (by rfl)) rfl ?_; (first | refine tl_e (e_callX rfl (.cons rfl .nil) (fun w' hw' => asked_rd t hn hA sl pl ll tl w' (hr0.fr (hw'.fr (by simp))))) rfl (fun y hy => ?_) | refine tl_e (e_callV rfl (.cons rfl .nil) (fun w' hw' => asked_no t hn hA sl pl ll tl w' (hr0.fr (hw'.fr (by simp))))) rfl (fun y hy => ?_)); refine tl_q (y_move rfl) rfl ?_; refine tl_q (y_extract rfl rfl) rfl ?_; refine tl_q (y_extract rfl rfl) rfl ?_; refine tl_q (y_extract rfl rfl) rfl ?_; refine tl_q (y_assign rfl) rfl ?_; refine tl_q (y_assign rfl) rfl ?_; refine tl_q (y_assign rfl) rfl ?_; refine tl_nil ?_; ((refine hK6 ?_; try (clear hK6; clear K6)))
     all_goals refine tc_seq fun K7 hK7 => ?_; refine tc_seq fun K8 hK8 => ?_; refine tc_region ?_; refine tl_q (y_move rfl) rfl ?_; refine tl_q (y_neq rfl rfl) rfl ?_; refine tl_nil ?_; ((refine hK8 ?_; try (clear hK8; clear K8)))
     all_goals (
      refine tc_cond rfl (fun hc => ?_) (fun hc => ?_)
      · try simp only [qn1, qn2, qn3, qn4, qn5, qn6, qn7, qn8] at hc
        all_goals refine tc_seq fun K9 hK9 => ?_; refine tc_region ?_; refine tl_q (y_move rfl) rfl ?_; refine tl_q (y_assign rfl) rfl ?_; refine tl_q (y_assign rfl) rfl ?_; refine tl_nil ?_; ((refine hK9 ?_; try (clear hK9; clear K9)))
        all_goals refine tc_ret ?_; (repeat (refine tk_then_ret ?_))
        all_goals (refine tk_ret rfl rfl (.cons (.tmp rfl) (.cons (.tmp rfl) .nil)) ?_)
        all_goals (
         refine fun w' hw' => ⟨?_, hw'.fr (by simp)⟩
         first
         | (rw [judge_tolE (by assumption)]; rfl)
         | (unfold judgeE; rw [if_neg (by have := chkT_0.2 hv; omega), if_neg (by omega), if_pos (by omega)]; rfl)
         | (unfold judgeE; rw [if_neg (by have := chkT_0.2 hv; omega), if_neg (by omega), if_neg (by omega), judgeJ_len]
            first
            | (rw [if_pos (by omega)]; rfl)
            | (rw [if_neg (by omega), if_pos (by omega)]; rfl)
            | (rw [if_neg (by omega), if_neg (by omega)]; rfl)))
      · try simp only [qn1, qn2, qn3, qn4, qn5, qn6, qn7, qn8] at hc
        all_goals ((first | (exfalso; omega) | skip))
        all_goals refine tc_skip ?_; ((refine hK7 ?_; try (clear hK7; clear K7)))
        all_goals refine tc_seq fun K10 hK10 => ?_; refine tc_seq fun K11 hK11 => ?_; refine tc_region ?_; refine tl_q (y_loadW rfl (by repeat constructor) (by rfl)) rfl ?_; refine tl_q (y_move rfl) rfl ?_; refine tl_q (y_move rfl) rfl ?_; refine tl_e (e_callX rfl (.cons rfl (.cons rfl (.cons rfl .nil))) (fun w' hw' => (split_c t hv (truthsL t []) (htl hv) (fun e he => truths_bd hv he) tol ⟨ht0, ht⟩ sl pl ll tl _ w' (hr0.fr (hw'.fr (by simp))) (hy.1.fr (hw'.calm hy.2 (by simp) (List.Sublist.refl _)))).weak (p' := fun _ _ => True) (fun _ _ _ _ => trivial))) rfl (fun _ _ => ?_); refine tl_q (y_move rfl) rfl ?_; refine tl_q (y_extract rfl rfl) rfl ?_; refine tl_q (y_extract rfl rfl) rfl ?_; refine tl_q (y_assign rfl) rfl ?_; refine tl_q (y_assign rfl) rfl ?_; refine tl_nil ?_; ((refine hK11 ?_; try (clear hK11; clear K11)))
        all_goals refine tc_block ?_; refine tc_seq fun K12 hK12 => ?_; refine tc_region ?_; refine tl_q (y_move rfl) rfl ?_; refine tl_q (y_len rfl) rfl ?_; refine tl_q (y_eql rfl rfl) rfl ?_; refine tl_q (y_assign rfl) rfl ?_; refine tl_nil ?_; ((refine hK12 ?_; try (clear hK12; clear K12)))
        all_goals (
         refine tc_cond rfl (fun hc => ?_) (fun hc => ?_)
         · try simp only [qn1, qn2, qn3, qn4, qn5, qn6, qn7, qn8] at hc
           all_goals refine tc_seq fun K13 hK13 => ?_; refine tc_region ?_; refine tl_q (y_assign rfl) rfl ?_; refine tl_q (y_assign rfl) rfl ?_; refine tl_nil ?_; ((refine hK13 ?_; try (clear hK13; clear K13)))
           all_goals refine tc_ret ?_; (repeat (first | refine tk_then_ret ?_ | refine tk_block_ret ?_))
           all_goals (refine tk_ret rfl rfl (.cons (.tmp rfl) (.cons (.tmp rfl) .nil)) ?_)
           all_goals (
            refine fun w' hw' => ⟨?_, hw'.fr (by simp)⟩
            first
            | (rw [judge_tolE (by assumption)]; rfl)
            | (unfold judgeE; rw [if_neg (by have := chkT_0.2 hv; omega), if_neg (by omega), if_pos (by omega)]; rfl)
            | (unfold judgeE; rw [if_neg (by have := chkT_0.2 hv; omega), if_neg (by omega), if_neg (by omega), judgeJ_len]
               first
               | (rw [if_pos (by omega)]; rfl)
               | (rw [if_neg (by omega), if_pos (by omega)]; rfl)
               | (rw [if_neg (by omega), if_neg (by omega)]; rfl)))
         · try simp only [qn1, qn2, qn3, qn4, qn5, qn6, qn7, qn8] at hc
           all_goals refine tc_seq fun K14 hK14 => ?_; refine tc_region ?_; refine tl_q (y_move rfl) rfl ?_; refine tl_q (y_len rfl) rfl ?_; refine tl_q (y_eql rfl rfl) rfl ?_; refine tl_q (y_assign rfl) rfl ?_; refine tl_nil ?_; ((refine hK14 ?_; try (clear hK14; clear K14)))
           all_goals (
            refine tc_cond rfl (fun hc => ?_) (fun hc => ?_)
            · try simp only [qn1, qn2, qn3, qn4, qn5, qn6, qn7, qn8] at hc
              all_goals refine tc_seq fun K15 hK15 => ?_; refine tc_region ?_; refine tl_q (y_assign rfl) rfl ?_; refine tl_q (y_assign rfl) rfl ?_; refine tl_nil ?_; ((refine hK15 ?_; try (clear hK15; clear K15)))
              all_goals refine tc_ret ?_; (repeat (first | refine tk_then_ret ?_ | refine tk_block_ret ?_))
              all_goals (refine tk_ret rfl rfl (.cons (.tmp rfl) (.cons (.tmp rfl) .nil)) ?_)
              all_goals (
               refine fun w' hw' => ⟨?_, hw'.fr (by simp)⟩
               first
               | (rw [judge_tolE (by assumption)]; rfl)
               | (unfold judgeE; rw [if_neg (by have := chkT_0.2 hv; omega), if_neg (by omega), if_pos (by omega)]; rfl)
               | (unfold judgeE; rw [if_neg (by have := chkT_0.2 hv; omega), if_neg (by omega), if_neg (by omega), judgeJ_len]
                  first
                  | (rw [if_pos (by omega)]; rfl)
                  | (rw [if_neg (by omega), if_pos (by omega)]; rfl)
                  | (rw [if_neg (by omega), if_neg (by omega)]; rfl)))
            · try simp only [qn1, qn2, qn3, qn4, qn5, qn6, qn7, qn8] at hc
              all_goals refine tc_skip ?_; ((refine hK10 ?_; try (clear hK10; clear K10)))
              all_goals refine tc_seq fun K16 hK16 => ?_; refine tc_region ?_; refine tl_q (y_assign rfl) rfl ?_; refine tl_q (y_assign rfl) rfl ?_; refine tl_nil ?_; ((refine hK16 ?_; try (clear hK16; clear K16)))
              all_goals refine tc_ret ?_; (repeat (first | refine tk_then_ret ?_))
              all_goals (refine tk_ret rfl rfl (.cons (.tmp rfl) (.cons (.tmp rfl) .nil)) ?_)
              all_goals (
               refine fun w' hw' => ⟨?_, hw'.fr (by simp)⟩
               first
               | (rw [judge_tolE (by assumption)]; rfl)
               | (unfold judgeE; rw [if_neg (by have := chkT_0.2 hv; omega), if_neg (by omega), if_pos (by omega)]; rfl)
               | (unfold judgeE; rw [if_neg (by have := chkT_0.2 hv; omega), if_neg (by omega), if_neg (by omega), judgeJ_len]
                  first
                  | (rw [if_pos (by omega)]; rfl)
                  | (rw [if_neg (by omega), if_pos (by omega)]; rfl)
                  | (rw [if_neg (by omega), if_neg (by omega)]; rfl)))))))
end Go.Sp
/-
  Slices of slices in the making.
-/
namespace Go.Sp
open Go Go.Proofs
/-- The slices that lie in a slice so far. -/
def InV (wl : World) (S : List Nat) (vs : List Value) (ls : List (List Int)) : Prop := vs.length = ls.length ∧ ∀ j, j < ls.length → RdI wl (vs.getD j (.slice none 0 0)) (ls.getD j []) ∧ ∀ p m c, vs.getD j (.slice none 0 0) = .slice (some p) m c → p.block < wl.heap.size ∧ p.block ∉ S
theorem InV.nil {wl : World} {S : List Nat} : InV wl S [] [] := ⟨rfl, fun j hj => absurd hj (Nat.not_lt_zero j)⟩
theorem InV.step {wl w1 : World} {S S' : List Nat} {vs : List Value} {ls : List (List Int)} (h : InV wl S vs ls) (f : Fr S wl w1) (hS : ∀ b ∈ S', b ∈ S ∨ wl.heap.size ≤ b) : InV w1 S' vs ls := ⟨h.1, fun j hj => by
  obtain ⟨h1, h2⟩ := h.2 j hj
  refine ⟨h1.frS f (fun p m c e => (h2 p m c e).2), fun p m c e => ?_⟩
  obtain ⟨g1, g2⟩ := h2 p m c e
  refine ⟨Nat.lt_of_lt_of_le g1 f.size, fun hm => ?_⟩
  rcases hS _ hm with h | h
  · exact g2 h
  · omega⟩
theorem InV.snoc {wl : World} {S : List Nat} {vs : List Value} {ls : List (List Int)} {v : Value} {l : List Int} (h : InV wl S vs ls) (hv : RdI wl v l) (hs : ∀ p m c, v = .slice (some p) m c → p.block < wl.heap.size ∧ p.block ∉ S) : InV wl S (vs ++ [v]) (ls ++ [l]) := by
  refine ⟨by simp [h.1], fun j hj => ?_⟩
  have hl := h.1
  rcases Nat.lt_or_ge j ls.length with hjl | hjl
  · obtain ⟨h1, h2⟩ := h.2 j hjl
    rw [List.getD_eq_getElem?_getD, List.getElem?_append_left (by omega), ← List.getD_eq_getElem?_getD, List.getD_eq_getElem?_getD (l := ls ++ [l]), List.getElem?_append_left hjl, ← List.getD_eq_getElem?_getD]
    exact ⟨h1, h2⟩
  · have e : j = ls.length := by simp at hj; omega
    subst e
    rw [List.getD_eq_getElem?_getD, List.getElem?_append_right (by omega), List.getD_eq_getElem?_getD (l := ls ++ [l]), List.getElem?_append_right (by omega), hl]
    simp only [Nat.sub_self, List.getElem?_cons_zero, Option.getD_some]
    exact ⟨hv, hs⟩
theorem InV.rd {wl : World} {S : List Nat} {vs : List Value} {ls : List (List Int)} (h : InV wl S vs ls) {bs : List (World × List Nat)} {H : List (Nat × Obj)} {b cap : Nat} {junk : List Value} {e : TypeId} {f : Nat × Nat} {w' : World} (hw : HG bs H w') (hm : HM b (.cells (vs ++ junk).toArray e f) H) (fr : Fr S wl w') : RdLL w' (.slice (some ⟨b, 0, none⟩) ls.length cap) ls := by
  refine ⟨vs, ⟨by rw [h.1]; simp, some ⟨b, 0, none⟩, cap, rfl, fun _ => ⟨b, 0, rfl, ?_⟩⟩, fun i hi => ((h.step fr (S' := S) (fun b hb => .inl hb)).2 i hi).1⟩
  have := CA_pre vs junk e f
  rw [h.1] at this
  rw [Nat.mul_one]
  exact this.cells (hw.heap _ hm.mem)
theorem Reads.own1 {bs : List (World × List Nat)} {H : List (Nat × Obj)} {w : World} {b : Nat} {v : Value} {e : TypeId} {f : Nat × Nat} {cap : Nat} (hw : HG bs H w) (hm : HM b (.cells #[v] e f) H) : Reads w (.slice (some ⟨b, 0, none⟩) 1 cap) 1 1 [v] :=
  ⟨rfl, _, _, rfl, fun _ => ⟨b, 0, rfl, .cons (cellAt_cell? (hw.heap _ hm.mem) rfl) .nil⟩⟩
theorem RdLL.frM {w w' : World} {v : Value} {ls : List (List Int)} {bm : Nat} (h : RdLL w v ls) (f : Fr [bm] w w') (hm : ∃ es ck, w.heap[bm]? = some (.map es ck)) : RdLL w' v ls := by
  obtain ⟨vs, h1, h2⟩ := h
  exact ⟨vs, Reads.frM h1 f (fun q hq => by rw [List.mem_singleton.1 hq]; exact hm), fun i hi => Reads.frM (h2 i hi) f (fun q hq => by rw [List.mem_singleton.1 hq]; exact hm)⟩
end Go.Sp
/-
  DERIVED: THE SHELF's CONTRACTS AT THIS DUMP, IN PLAIN WORDS (tools/lay-plain.mjs out of 'TryzShelf.lean', which tools/lay-shelf.mjs wrote): THE SAME DECLARATIONS UNDER THE SAME NAMES: 'import', 'namespace', 'open', 'def', 'theorem' AND NOTHING ELSE: no command of the shelf's: FOR A HAND-IN. Each laying: the table of numbers ('.._ren') and one theorem, a field a fact of the dump's own or the kernel's comparison; each contract: ONE APPLICATION.
-/
namespace Go.Proofs
open Go.Shelf
def Tryz.lays189_ren : Go.Shelf.Ren := ⟨fun | 189 => 96 | 125 => 144 | 257 => 143 | 128 => 175 | 129 => 176 | 294 => 166 | 295 => 167 | 296 => 168 | 297 => 169 | 298 => 170 | 299 => 171 | 216 => 172 | 300 => 173 | 301 => 174 | 328 => 178 | 329 => 179 | 330 => 180 | 331 => 181 | 332 => 182 | 215 => 183 | 343 => 184 | n => n, fun | 28 => 22 | 3 => 3 | 46 => 90 | 0 => 0 | 51 => 227 | 53 => 229 | 4 => 4 | 183 => 220 | 182 => 219 | 131 => 224 | 5 => 5 | 9 => 9 | 218 => 231 | 222 => 235 | 228 => 237 | 229 => 238 | n => n, fun | n => n⟩
theorem Tryz.lays189 : Go.Proofs.Lays.n189 Tryz.prog Tryz.lays189_ren := {
  mixed := by kernel_rfl
  f125 := Tryz.func144.trans (congrArg some (by kernel_rfl))
  f128 := Tryz.func175.trans (congrArg some (by kernel_rfl))
  f129 := Tryz.func176.trans (congrArg some (by kernel_rfl))
  f189 := Tryz.func96.trans (congrArg some (by kernel_rfl))
  f215 := Tryz.func183.trans (congrArg some (by kernel_rfl))
  f216 := Tryz.func172.trans (congrArg some (by kernel_rfl))
  f257 := Tryz.func143.trans (congrArg some (by kernel_rfl))
  f294 := Tryz.func166.trans (congrArg some (by kernel_rfl))
  f295 := Tryz.func167.trans (congrArg some (by kernel_rfl))
  f296 := Tryz.func168.trans (congrArg some (by kernel_rfl))
  f297 := Tryz.func169.trans (congrArg some (by kernel_rfl))
  f298 := Tryz.func170.trans (congrArg some (by kernel_rfl))
  f299 := Tryz.func171.trans (congrArg some (by kernel_rfl))
  f300 := Tryz.func173.trans (congrArg some (by kernel_rfl))
  f301 := Tryz.func174.trans (congrArg some (by kernel_rfl))
  f328 := Tryz.func178.trans (congrArg some (by kernel_rfl))
  f329 := Tryz.func179.trans (congrArg some (by kernel_rfl))
  f330 := Tryz.func180.trans (congrArg some (by kernel_rfl))
  f331 := Tryz.func181.trans (congrArg some (by kernel_rfl))
  f332 := Tryz.func182.trans (congrArg some (by kernel_rfl))
  f343 := Tryz.func184.trans (congrArg some (by kernel_rfl))
  t0 := Tryz.underlying0
  a0 := Tryz.isAgg0
  z0 := Tryz.sizeOf0
  v0 := Tryz.zeroValue0
  t3 := Tryz.underlying3
  a3 := Tryz.isAgg3
  z3 := Tryz.sizeOf3
  v3 := Tryz.zeroValue3
  t4 := Tryz.underlying4
  a4 := Tryz.isAgg4
  z4 := Tryz.sizeOf4
  v4 := Tryz.zeroValue4
  t5 := Tryz.underlying5
  a5 := Tryz.isAgg5
  z5 := Tryz.sizeOf5
  v5 := Tryz.zeroValue5
  t9 := Tryz.underlying9
  a9 := Tryz.isAgg9
  z9 := Tryz.sizeOf9
  v9 := Tryz.zeroValue9
  t28 := Tryz.underlying22
  a28 := Tryz.isAgg22
  z28 := Tryz.sizeOf22
  v28 := Tryz.zeroValue22
  t46 := Tryz.underlying90
  a46 := Tryz.isAgg90
  z46 := Tryz.sizeOf90
  v46 := Tryz.zeroValue90
  t51 := Tryz.underlying227
  a51 := Tryz.isAgg227
  z51 := Tryz.sizeOf227
  v51 := Tryz.zeroValue227
  t53 := Tryz.underlying229
  a53 := Tryz.isAgg229
  z53 := Tryz.sizeOf229
  v53 := Tryz.zeroValue229
  t131 := Tryz.underlying224
  a131 := Tryz.isAgg224
  z131 := Tryz.sizeOf224
  v131 := Tryz.zeroValue224
  t182 := Tryz.underlying219
  a182 := Tryz.isAgg219
  z182 := Tryz.sizeOf219
  v182 := Tryz.zeroValue219
  t183 := Tryz.underlying220
  a183 := Tryz.isAgg220
  z183 := Tryz.sizeOf220
  v183 := Tryz.zeroValue220
  t218 := Tryz.underlying231
  a218 := Tryz.isAgg231
  z218 := Tryz.sizeOf231
  v218 := Tryz.zeroValue231
  t222 := Tryz.underlying235
  a222 := Tryz.isAgg235
  z222 := Tryz.sizeOf235
  v222 := Tryz.zeroValue235
  t228 := Tryz.underlying237
  a228 := Tryz.isAgg237
  z228 := Tryz.sizeOf237
  v228 := Tryz.zeroValue237
  t229 := Tryz.underlying238
  a229 := Tryz.isAgg238
  z229 := Tryz.sizeOf238
  v229 := Tryz.zeroValue238 }
def Tryz.lays20_ren : Go.Shelf.Ren := ⟨fun | 20 => 97 | n => n, fun | 22 => 22 | 3 => 3 | 4 => 4 | 0 => 0 | n => n, fun | n => n⟩
theorem Tryz.lays20 : Go.Proofs.Lays2.n20 Tryz.prog Tryz.lays20_ren := {
  mixed := by kernel_rfl
  f20 := Tryz.func97.trans (congrArg some (by kernel_rfl))
  t0 := Tryz.underlying0
  a0 := Tryz.isAgg0
  z0 := Tryz.sizeOf0
  v0 := Tryz.zeroValue0
  t3 := Tryz.underlying3
  a3 := Tryz.isAgg3
  z3 := Tryz.sizeOf3
  v3 := Tryz.zeroValue3
  t4 := Tryz.underlying4
  a4 := Tryz.isAgg4
  z4 := Tryz.sizeOf4
  v4 := Tryz.zeroValue4
  t22 := Tryz.underlying22
  a22 := Tryz.isAgg22
  z22 := Tryz.sizeOf22
  v22 := Tryz.zeroValue22
  i3 := by kernel_rfl }
end Go.Proofs
/-
  Package trial: the possible errors of all parts.
-/
namespace Go.Sp
open Go Go.Proofs
theorem put_world {w w' : World} {n : Nat} {os : Array Obj} {b : Nat} {e : TypeId} {xs ys : List Int} {junk : List Value} (hb : w.heap[b]? = some (.cells (xs.map vi ++ junk).toArray e (0, 0))) (hl : ys.length = xs.length)
    (hw : w' = Sort.grow (Sort.putRow (Value.int .i64) (Sort.ahead w n) b 0 ys.toArray) os) : Fr [b] w w' ∧ w'.heap[b]? = some (.cells (ys.map vi ++ junk).toArray e (0, 0)) := by
  have hlt : b < w.heap.size := (Array.getElem?_eq_some_iff.1 hb).1
  have hsz : (Sort.putRow (Value.int .i64) (Sort.ahead w n) b 0 ys.toArray).heap.size = w.heap.size := by rw [Sort.size_putRow]; rfl
  have hmod : ∀ k : Nat, (Sort.putRow (Value.int .i64) (Sort.ahead w n) b 0 ys.toArray).heap[k]? = if b = k then (w.heap[k]?).map (Sort.onCells (Sort.putCells (Value.int .i64) 0 ys.toArray)) else w.heap[k]? := fun k => by
    unfold Sort.putRow Sort.mapBlock
    show (w.heap.modify b _)[k]? = _
    rw [Array.getElem?_modify]
  subst hw
  refine ⟨⟨rfl, rfl, rfl, by rw [Sort.size_grow, hsz]; omega, fun k hk hn => ?_⟩, ?_⟩
  · rw [Sort.heap_grow_old _ _ (by rw [hsz]; exact hk), hmod k, if_neg (fun h => hn (by rw [h]; simp))]
  · rw [Sort.heap_grow_old _ _ (by rw [hsz]; exact hlt), hmod b, if_pos rfl, hb]
    simp only [Option.map_some, Sort.onCells]
    congr 2
    apply Array.ext_getElem?
    intro k
    simp only [Sort.putCells, Array.getElem?_mapIdx, List.getElem?_toArray, Nat.zero_le, true_and, Nat.zero_add, List.size_toArray, Nat.sub_zero]
    by_cases hk : k < ys.length
    · rw [List.getElem?_append_left (by simp; omega), List.getElem?_append_left (by simpa using hk)]
      simp [hk, show k < xs.length by omega]
    · rw [List.getElem?_append_right (by simp; omega), List.getElem?_append_right (by simp; omega)]
      simp only [List.length_map, hl]
      rw [show xs.length = ys.length from hl.symm]
      cases junk[k - ys.length]? with
      | none => rfl
      | some v => simp [hk]
theorem holds_own {w : World} {b : Nat} {e : TypeId} {xs : List Int} {junk : List Value} (hb : w.heap[b]? = some (.cells (xs.map vi ++ junk).toArray e (0, 0))) : Sort.Holds (Value.int .i64) w b 0 xs.toArray := fun j hj => by
  have hj' : j < xs.length := by simpa using hj
  refine ⟨?_, unfz_at hb rfl rfl⟩
  rw [Nat.zero_add]
  refine cell0 hb ?_
  simp [List.getElem?_append_left, hj']
theorem sort_own (xs : List Int) (n : Nat) (hn : xs.length = n) (hx : n ≤ 1000000) (b cap : Nat) (junk : List Value) (w : World) (hb : w.heap[b]? = some (.cells (xs.map vi ++ junk).toArray 3 (0, 0))) :
    CnX Tryz.prog 96 #[.slice (some ⟨b, 0, none⟩) n cap] w [b] (fun _ : Unit => .tuple #[]) (fun _ w' => True ∧ w'.heap[b]? = some (.cells ((xs.mergeSort fun x y => decide (x ≤ y)).map vi ++ junk).toArray 3 (0, 0))) := by
  subst hn
  have h : Calls Tryz.prog 96 #[.slice (some ⟨b, 0, none⟩) xs.length cap] w _ := Any.slices_Sort_int Tryz.lays189 b 0 cap xs w (holds_own hb) (Array.getElem?_eq_some_iff.1 hb).1 (by omega)
  refine CnX.of (h.mono fun e w' he => ?_)
  obtain ⟨he, n, os, hw⟩ := he
  obtain ⟨h1, h2⟩ := put_world hb (List.length_mergeSort ..) hw
  exact ⟨(), he, h1, trivial, h2⟩
theorem compact_own (xs : List Int) (n : Nat) (hn : xs.length = n) (hx : n ≤ 1000000) (b cap : Nat) (hc : n ≤ cap) (junk : List Value) (w : World) (hb : w.heap[b]? = some (.cells (xs.map vi ++ junk).toArray 3 (0, 0))) :
    CnX Tryz.prog 97 #[.slice (some ⟨b, 0, none⟩) n cap] w [b] (fun _ : Unit => .slice (some ⟨b, 0, none⟩) (Lib.compact xs).length cap) (fun _ w' => True ∧ w'.heap[b]? = some (.cells ((Lib.compact xs).map vi ++ ((List.replicate (n - (Lib.compact xs).length) (vi 0)) ++ junk)).toArray 3 (0, 0))) := by
  subst hn
  have h : Calls Tryz.prog 97 #[.slice (some ⟨b, 0, none⟩) xs.length cap] w _ := Any.slices_Compact_int Tryz.lays20 b 0 cap xs w (holds_own hb) (by omega) hc
  refine CnX.of (h.mono fun e w' he => ?_)
  obtain ⟨he, n, hw⟩ := he
  have hcl : (Lib.compact xs).length ≤ xs.length := by
    unfold Lib.compact Lib.compactUpTo
    rw [List.length_map]
    exact Nat.le_trans (List.length_filter_le _ _) (by simp)
  obtain ⟨h1, h2⟩ := put_world (ys := Lib.compact xs ++ List.replicate (xs.length - (Lib.compact xs).length) 0) hb (by simp; omega) (hw.trans (Sort.grow_empty _).symm)
  refine ⟨(), he, h1, trivial, ?_⟩
  rw [h2, List.map_append, List.map_replicate, List.append_assoc]
theorem poss_uniq {t : Tr} (hv : VT t) (i : Nat) : uniqS ((truthsL t []).map fun e => get3 e i) = possL t i := by
  refine uniqS_eq ?_ fun x => ?_
  · unfold possL
    exact List.Pairwise.filter _ (by decide)
  · unfold possL
    rw [List.mem_filter, List.any_eq_true, List.mem_map]
    constructor
    · rintro ⟨_, e, he, h⟩
      exact ⟨e, he, of_decide_eq_true h⟩
    · rintro ⟨e, he, rfl⟩
      have := (truths_bd hv he).get i
      refine ⟨?_, e, he, decide_eq_true rfl⟩
      simp only [List.mem_cons, List.not_mem_nil, or_false]
      omega
theorem errors_no (t : Tr) (hn : NT t) (he : ¬ askedE t = 0) (sl pl ll tl : Value) (w : World) (hr : RdTr w t sl pl ll tl) : CnV Tryz.prog 35 #[trV t sl pl ll tl] w (.tuple #[.slice none 0 0, vi (askedE t)]) := by
  have hr0 := hr
  refine cnv (vs := [_]) Tryz.func35 rfl rfl ?_
  all_goals refine tc_seq fun K1 hK1 => ?_; refine tc_region ?_; refine tl_e (e_box rfl rfl rfl) rfl (fun b1 _ => ?_); refine tl_q (y_assign rfl) rfl ?_; refine tl_q (y_assign rfl) rfl ?_; refine tl_nil ?_; ((refine hK1 ?_; try (clear hK1; clear K1)))
  all_goals refine tc_seq fun K2 hK2 => ?_; refine tc_region ?_; refine tl_q (y_loadW rfl (by repeat constructor) (by rfl)) rfl ?_; refine tl_e (e_callV rfl (.cons rfl .nil) (fun w' hw' => asked_no t hn he _ _ _ _ w' (hr0.fr (hw'.fr (by simp))))) rfl (fun _ _ => ?_); refine tl_q (y_move rfl) rfl ?_; refine tl_q (y_extract rfl rfl) rfl ?_; refine tl_q (y_extract rfl rfl) rfl ?_; refine tl_q (y_extract rfl rfl) rfl ?_; refine tl_q (y_assign rfl) rfl ?_; refine tl_q (y_assign rfl) rfl ?_; refine tl_q (y_assign rfl) rfl ?_; refine tl_nil ?_; ((refine hK2 ?_; try (clear hK2; clear K2)))
  all_goals refine tc_seq fun K3 hK3 => ?_; refine tc_seq fun K4 hK4 => ?_; refine tc_region ?_; refine tl_q (y_move rfl) rfl ?_; refine tl_q (y_neq rfl rfl) rfl ?_; refine tl_nil ?_; ((refine hK4 ?_; try (clear hK4; clear K4)))
  all_goals (
   refine tc_cond rfl (fun hc => ?_) (fun hc => ?_)
   · try simp only [qn1, qn2, qn3, qn4, qn5, qn6, qn7, qn8] at hc
     all_goals refine tc_seq fun K5 hK5 => ?_; refine tc_region ?_; refine tl_q (y_move rfl) rfl ?_; refine tl_q (y_assign rfl) rfl ?_; refine tl_q (y_assign rfl) rfl ?_; refine tl_nil ?_; ((refine hK5 ?_; try (clear hK5; clear K5)))
     all_goals refine tc_ret ?_; (repeat (refine tk_then_ret ?_))
     all_goals (refine tk_ret rfl rfl (.cons (.tmp rfl) (.cons (.tmp rfl) .nil)) ?_)
     all_goals (
      refine fun w' hw' => ⟨rfl, hw'.fr (by simp)⟩)
   · try simp only [qn1, qn2, qn3, qn4, qn5, qn6, qn7, qn8] at hc
     all_goals ((exfalso; omega))
     all_goals skip)
def gL (t : Tr) (i k : Nat) : List Int := ((truthsL t []).take k).map fun e => get3 e i
theorem gL_len {t : Tr} {i k : Nat} (h : k ≤ (truthsL t []).length) : (gL t i k).length = k := by unfold gL; rw [List.length_map, List.length_take]; omega
theorem gL_0 {t : Tr} {i k : Nat} (h : k = 0) : gL t i k = [] := by rw [h]; rfl
theorem gL_succ {t : Tr} {i k : Nat} (h : k < (truthsL t []).length) : gL t i (k + 1) = gL t i k ++ [get3 ((truthsL t []).getD k (0, 0, 0)) i] := by
  unfold gL
  rw [List.take_add_one, List.getElem?_eq_getElem h, List.map_append, List.getD_eq_getElem?_getD, List.getElem?_eq_getElem h]; rfl
theorem gL_all {t : Tr} (hv : VT t) (i : Nat) : Lib.compact ((gL t i (truthsL t []).length).mergeSort fun x y => decide (x ≤ y)) = possL t i := by
  unfold gL
  rw [List.take_length]
  exact poss_uniq hv i
set_option maxHeartbeats 1000000 in
theorem errors_ok (t : Tr) (hn : NT t) (he : askedE t = 0) (sl pl ll tl : Value) (w : World) (hr : RdTr w t sl pl ll tl) :
    CnX Tryz.prog 35 #[trV t sl pl ll tl] w [] (fun y : Option Addr × Nat => .tuple #[slV t.parts.length y, vi 0]) (fun y w' => RdLL w' (slV t.parts.length y) (possLL t t.parts.length)) := by
  have hr0 := hr
  obtain ⟨hv, hpos⟩ := askedE_0 he
  have hp1 := hv.p1
  have hp3 := hv.p3
  have htl : (truthsL t []).length ≤ 343 := Nat.le_trans (List.length_filter_le _ _) (every_len hv)
  obtain ⟨ad, cp, b0, o0, rfl, had, hcell⟩ := hr.ps.open
  refine cnx0 (vs := [_]) Tryz.func35 rfl rfl ?_
  all_goals refine tc_seq fun K1 hK1 => ?_; refine tc_region ?_; refine tl_e (e_box rfl rfl rfl) rfl (fun b1 _ => ?_); refine tl_q (y_assign rfl) rfl ?_; refine tl_q (y_assign rfl) rfl ?_; refine tl_nil ?_; ((refine hK1 ?_; try (clear hK1; clear K1)))
  all_goals refine tc_seq fun K2 hK2 => ?_; refine tc_lay ([]) (SB.s .nil) (fun wl1 hl1 => ?_); refine tc_region ?_; refine tl_q (y_loadWf rfl (hl1.at (by repeat constructor)) MI.m (by simp) (by rfl)) rfl ?_; refine tl_e (e_callX rfl (.cons rfl .nil) (fun w' hw' => asked_rd t hn he _ _ _ _ w' (hr0.fr (hw'.fr (w0 := w) (S := []) MI.m)))) rfl (fun y hy => ?_); refine tl_q (y_move rfl) rfl ?_; refine tl_q (y_extract rfl rfl) rfl ?_; refine tl_q (y_extract rfl rfl) rfl ?_; refine tl_q (y_extract rfl rfl) rfl ?_; refine tl_q (y_assign rfl) rfl ?_; refine tl_q (y_assign rfl) rfl ?_; refine tl_q (y_assign rfl) rfl ?_; refine tl_nil ?_; ((refine hK2 ?_; try (clear hK2; clear K2)))
  all_goals refine tc_seq fun K3 hK3 => ?_; refine tc_seq fun K4 hK4 => ?_; refine tc_lay ([]) (SB.s .nil) (fun wl2 hl2 => ?_); refine tc_region ?_; refine tl_q (y_move rfl) rfl ?_; refine tl_q (y_neq rfl rfl) rfl ?_; refine tl_nil ?_; ((refine hK4 ?_; try (clear hK4; clear K4)))
  all_goals (
   refine tc_cond rfl (fun hc => ?_) (fun hc => ?_)
   · try simp only [qn1, qn2, qn3, qn4, qn5, qn6, qn7, qn8] at hc
   · try simp only [qn1, qn2, qn3, qn4, qn5, qn6, qn7, qn8] at hc
     all_goals refine tc_skip ?_; ((refine hK3 ?_; try (clear hK3; clear K3)))
     all_goals refine tc_seq fun K6 hK6 => ?_; refine tc_lay ([]) (SB.s .nil) (fun wl4 hl4 => ?_); (obtain ⟨bT, oT, hadT⟩ := hy.1.opens1)
     all_goals (have hadT' := hadT hpos)
     all_goals (have hTat : ∀ w', Fr [] y.2 w' → ∀ k, k < (truthsL t []).length → CA (fun j => w'.cell? ⟨bT, j, none⟩) (oT + k * 3) 3 [vi ((truthsL t []).getD k (0, 0, 0)).1, vi ((truthsL t []).getD k (0, 0, 0)).2.1, vi ((truthsL t []).getD k (0, 0, 0)).2.2] := fun w' f k hk => (hy.1.fr f).at1 hadT' hk)
     all_goals refine tc_region ?_; refine tl_q (y_assign rfl) rfl ?_; refine tl_nil ?_; ((refine hK6 ?_; try (clear hK6; clear K6)))
     all_goals refine tc_seq fun K7 hK7 => ?_; refine tc_seq fun K8 hK8 => ?_; refine tc_lay ([]) (SB.s .nil) (fun wl5 hl5 => ?_); refine tc_region ?_; refine tl_q (y_field rfl) rfl ?_; refine tl_q (y_load1f rfl (hl1.at (by repeat constructor)) MI.m (by simp) (by rfl)) rfl ?_; refine tl_q (y_len rfl) rfl ?_; refine tl_q (y_move rfl) rfl ?_; refine tl_nil ?_; ((refine hK8 ?_; try (clear hK8; clear K8)))
     all_goals refine tc_block ?_
     all_goals (
      refine tc_loop (fun p : Nat × Option (Nat × Nat × List Value) × List Value × World => p.1 ≤ t.parts.length ∧ outOk (p.1, p.2.1) ∧ InV p.2.2.2 (slS p.2.1) p.2.2.1 (possLL t p.1)) (fun p => [(5, slV (truthsL t []).length y.1.2), (7, outV' (p.1, p.2.1)), (23, vi t.parts.length), (24, vi p.1)]) (fun p => [(p.2.2.2, slS p.2.1), (y.2, []), (w, [])]) (fun p => slH 22 p.2.2.1 p.2.1) (fun p => t.parts.length - p.1) ?_ ?_
      · exact tk_start (0, none, [], y.2) ⟨Nat.zero_le _, rfl, InV.nil⟩ (.cons rfl (.cons rfl (.cons rfl (.cons rfl .nil)))) (fun _ h => h.sub (fun β hβ => by rcases (by simpa [slS] using hβ : β = (y.2, []) ∨ β = (w, [])) with rfl | rfl <;> simp) (List.nil_sublist _))
      · rintro ⟨i, oo, vs, wl⟩ ⟨hi, hok, hin⟩
        dsimp only at hi hok hin ⊢
        all_goals refine tc_seq fun K9 hK9 => ?_; refine tc_region ?_; refine tl_q (y_lss rfl rfl) rfl ?_; refine tl_nil ?_; ((refine hK9 ?_; try (clear hK9; clear K9)))
        all_goals refine tc_seq fun K10 hK10 => ?_
        all_goals (
         refine tc_cond rfl (fun hc => ?_) (fun hc => ?_)
         · try simp only [qn1, qn2, qn3, qn4, qn5, qn6, qn7, qn8] at hc
           all_goals refine tc_skip ?_; ((refine hK10 ?_; try (clear hK10; clear K10)))
           all_goals refine tc_seq fun K11 hK11 => ?_; refine tc_block ?_; refine tc_seq fun K12 hK12 => ?_; refine tc_region ?_; refine tl_q (y_move rfl) rfl ?_; refine tl_q (y_assign rfl) rfl ?_; refine tl_nil ?_; ((refine hK12 ?_; try (clear hK12; clear K12)))
           all_goals refine tc_seq fun K13 hK13 => ?_; refine tc_region ?_; refine tl_q (y_assign rfl) rfl ?_; refine tl_nil ?_; ((refine hK13 ?_; try (clear hK13; clear K13)))
           all_goals refine tc_seq fun K14 hK14 => ?_; refine tc_seq fun K15 hK15 => ?_; refine tc_region ?_; refine tl_q (y_move rfl) rfl ?_; refine tl_q (y_len rfl) rfl ?_; refine tl_q (y_move rfl) rfl ?_; refine tl_nil ?_; ((refine hK15 ?_; try (clear hK15; clear K15)))
           all_goals refine tc_block ?_
           all_goals (
            refine tc_loop (fun q : Nat × Option (Nat × Nat × List Value) => q.1 ≤ (truthsL t []).length ∧ outOk (q.1, q.2)) (fun q => [(5, slV (truthsL t []).length y.1.2), (7, outV' (i, oo)), (8, vi i), (9, outV' (q.1, q.2)), (23, vi t.parts.length), (24, vi i), (27, slV (truthsL t []).length y.1.2), (28, vi (truthsL t []).length), (29, vi q.1)]) (fun _ => [(wl, slS oo), (y.2, []), (w, [])]) (fun q => slH 3 ((gL t i q.1).map vi) q.2 ++ slH 22 vs oo) (fun q => (truthsL t []).length - q.1) ?_ ?_
            · exact tk_start (0, none) ⟨Nat.zero_le _, rfl⟩ (.cons rfl (.cons rfl (.cons rfl (.cons rfl (.cons rfl (.cons rfl (.cons rfl (.cons rfl (.cons rfl .nil))))))))) (fun _ h => h)
            · rintro ⟨k, o2⟩ ⟨hk, hok2⟩
              have hgl := gL_len (i := i) hk
              rcases o2 with _ | ⟨b2, cap2, junk2⟩
              all_goals ((dsimp only [outOk] at hk hok2; dsimp only [slH_none, slH_some, List.cons_append, List.nil_append]; dsimp only [outV']))
              all_goals refine tc_seq fun K16 hK16 => ?_; refine tc_region ?_; refine tl_q (y_lss rfl rfl) rfl ?_; refine tl_nil ?_; ((refine hK16 ?_; try (clear hK16; clear K16)))
              all_goals refine tc_seq fun K17 hK17 => ?_
              all_goals (
               refine tc_cond rfl (fun hc => ?_) (fun hc => ?_)
               · try simp only [qn1, qn2, qn3, qn4, qn5, qn6, qn7, qn8] at hc
                 all_goals refine tc_skip ?_; ((refine hK17 ?_; try (clear hK17; clear K17)))
                 all_goals refine tc_seq fun K18 hK18 => ?_; refine tc_block ?_; refine tc_seq fun K19 hK19 => ?_; refine tc_region ?_; refine tl_q (y_index rfl rfl (by omega) hadT') rfl ?_; ((refine tl_q (y_loadNo (n := 3) rfl (fun w' hw' => by rw [show Int.toNat (k : Int) * 3 = k * 3 from by omega]; exact hTat w' (hw'.fr (w0 := y.2) (S := []) MI.m) k (by omega))) rfl ?_))
                 all_goals refine tl_e (e_allocN rfl) rfl (fun b11 _ => ?_); refine tl_e (e_storeW rfl rfl (by repeat constructor) (by rfl) (by rfl) (by simp [Value.oneCell'])) rfl (fun _ _ => ?_); refine tl_nil ?_; ((refine hK19 ?_; try (clear hK19; clear K19)))
                 all_goals refine tc_region ?_; refine tl_q (y_move rfl) rfl ?_; refine tl_q (y_move rfl) rfl ?_; refine tl_q (y_indexA rfl rfl (by omega)) rfl ?_; ((refine tl_q (y_load1 (v := vi (get3 ((truthsL t []).getD k (0, 0, 0)) i)) rfl (by repeat constructor) (by rcases (by omega : i = 0 ∨ i = 1 ∨ i = 2) with rfl | rfl | rfl <;> rfl)) rfl ?_))
                 all_goals (refine tl_e (e_bslice rfl (by (repeat (first | exact .nil | apply PV.one rfl rfl)); done) rfl rfl) rfl (fun _ _ => ?_))
                 all_goals ((first | refine tl_e (e_append_own (old := (gL t i k).map vi) (junk := junk2) rfl rfl rfl (by repeat constructor) (by simp; omega) (by omega) hok2.1 (fun w' hw' => RdI.own0 (xs := [get3 ((truthsL t []).getD k (0, 0, 0)) i]) hw' (by repeat constructor)) (fun u hu => by obtain ⟨_, _, rfl⟩ := List.mem_map.1 hu; rfl) (by simp only [List.length_cons, List.length_nil]; omega) rfl) rfl (fun z hz => ?_) | refine tl_e (e_append_nil rfl rfl rfl (fun w' hw' => RdI.own0 (xs := [get3 ((truthsL t []).getD k (0, 0, 0)) i]) hw' (by repeat constructor)) (fun u hu => by obtain ⟨_, _, rfl⟩ := List.mem_map.1 hu; rfl) Nat.zero_lt_one (Nat.le_of_ble_eq_true rfl) rfl) rfl (fun z hz => ?_)))
                 all_goals refine tl_q (y_assign rfl) rfl ?_; refine tl_nil ?_; ((refine hK18 ?_; try (clear hK18; clear K18)))
                 all_goals refine tc_region ?_; refine tl_q (y_add rfl rfl (by omega)) rfl ?_; refine tl_q (y_move rfl) rfl ?_; refine tl_nil ?_
                 all_goals (
                  have hts := gL_succ (t := t) (i := i) (k := k) (by omega)
                  refine tk_round (k + 1, some (z.1, z.2.1, z.2.2)) ⟨by dsimp only; omega, ?_⟩ (by dsimp only; omega) (.cons rfl (.cons rfl (.cons rfl (.cons ?_ (.cons rfl (.cons rfl (.cons rfl (.cons rfl (.cons rfl .nil))))))))) (fun _ h => ?_)
                  · dsimp only [outOk]; simp only [List.length_cons, List.length_nil] at hz ⊢; omega
                  · dsimp only [outV']; first | rfl | (rw [show k = 0 from hok2]; rfl)
                  · dsimp only [slH_some, List.cons_append, List.nil_append]; rw [hts, List.map_append]
                    try rw [show gL t i k = [] from gL_0 hok2, List.map_nil, List.nil_append]
                    exact h.subl SB.s SB.s)
               · try simp only [qn1, qn2, qn3, qn4, qn5, qn6, qn7, qn8] at hc
                 all_goals ((first | (exfalso; omega) | skip))
                 all_goals refine tc_exit ?_; ((refine hK14 ?_; try (clear hK14; clear K14)))
                 all_goals refine tc_seq fun K20 hK20 => ?_; (have hkl : k = (truthsL t []).length := by omega)
                 all_goals subst hkl
                 all_goals refine tc_region ?_; refine tl_q (y_move rfl) rfl ?_; refine tl_e (e_callU (val := fun _ : Unit => .tuple #[]) (p := fun _ => True) (ob := fun _ => .cells (((gL t i (truthsL t []).length).mergeSort fun x y => decide (x ≤ y)).map vi ++ junk2).toArray 3 (0, 0)) rfl (.cons rfl .nil) (fun w' hw' => sort_own (gL t i (truthsL t []).length) _ hgl (by omega) b2 cap2 junk2 w' (hw'.heap _ (HM.mem (by repeat constructor)))) (fun _ => (by repeat constructor))) rfl (fun _ _ => ?_); refine tl_nil ?_; ((refine hK20 ?_; try (clear hK20; clear K20)))
                 all_goals rcases oo with _ | ⟨bo, cap, junk⟩
                 all_goals ((dsimp only [outOk, slS] at hok hin ⊢; dsimp only [slH_none, slH_some, List.cons_append, List.nil_append]; dsimp only [outV']))
                 all_goals refine tc_region ?_; refine tl_q (y_move rfl) rfl ?_; refine tl_q (y_move rfl) rfl ?_; refine tl_e (e_callU (val := fun _ : Unit => .slice (some ⟨b2, 0, none⟩) (Lib.compact ((gL t i (truthsL t []).length).mergeSort fun x y => decide (x ≤ y))).length cap2) (p := fun _ => True) (ob := fun _ => .cells ((Lib.compact ((gL t i (truthsL t []).length).mergeSort fun x y => decide (x ≤ y))).map vi ++ ((List.replicate ((truthsL t []).length - (Lib.compact ((gL t i (truthsL t []).length).mergeSort fun x y => decide (x ≤ y))).length) (vi 0)) ++ junk2)).toArray 3 (0, 0)) rfl (.cons rfl .nil) (fun w' hw' => compact_own ((gL t i (truthsL t []).length).mergeSort fun x y => decide (x ≤ y)) _ (by rw [List.length_mergeSort, hgl]) (by omega) b2 cap2 hok2.1 junk2 w' (hw'.heap _ (HM.mem (by repeat constructor)))) (fun _ => (by repeat constructor))) rfl (fun _ _ => ?_); (refine tl_e (e_bslice rfl (by (repeat (first | exact .nil | apply PV.one rfl rfl)); done) rfl rfl) rfl (fun _ _ => ?_))
                 all_goals ((first | refine tl_e (e_append_own (old := vs) (junk := junk) rfl rfl rfl (by repeat constructor) (by rw [hin.1, possLL_len, Nat.mul_one]) (by omega) hok.1 (fun w' hw' => Reads.own1 hw' (by repeat constructor)) (fun u hu => by obtain rfl := List.mem_singleton.1 hu; rfl) (by omega) rfl) rfl (fun z hz => ?_) | refine tl_e (e_append_nil rfl rfl rfl (fun w' hw' => Reads.own1 hw' (by repeat constructor)) (fun u hu => by obtain rfl := List.mem_singleton.1 hu; rfl) Nat.zero_lt_one (Nat.le_of_ble_eq_true rfl) rfl) rfl (fun z hz => ?_)))
                 all_goals refine tl_q (y_assign rfl) rfl ?_; refine tl_nil ?_; ((refine hK11 ?_; try (clear hK11; clear K11)))
                 all_goals refine tc_region ?_; refine tl_q (y_add rfl rfl (by omega)) rfl ?_; refine tl_q (y_move rfl) rfl ?_; refine tl_nil ?_
                 all_goals (
                  rw [gL_all hv i]
                  refine tk_lay [(z.1, _)] SB.s (fun w2 h2 => ?_)
                  have hz1 := h2.own (z.1, _) (HM.mem (by repeat constructor)) (wl, _) MI.m
                  have hnd := h2.nodup
                  have hv2 : RdI w2 (.slice (some ⟨b2, 0, none⟩) (possL t i).length cap2) (possL t i) := RdI.own h2 (b := b2) (by repeat constructor)
                  have hin2 : InV w2 [z.1] (vs ++ [Value.slice (some ⟨b2, 0, none⟩) (possL t i).length cap2]) (possLL t (i + 1)) := by
                    rw [possLL_succ]
                    refine (hin.step (h2.fr (w0 := wl) MI.m) (S' := [z.1]) (fun b hb => by obtain rfl := List.mem_singleton.1 hb; exact hz1)).snoc hv2 (fun p m c e => ?_)
                    cases e
                    have hzb : ¬ z.1 = b2 := fun e => by rw [e] at hnd; simp at hnd
                    exact ⟨h2.lt (HM.mem (b := b2) (by repeat constructor)), fun hm => hzb (List.mem_singleton.1 hm).symm⟩
                  refine tk_round (i + 1, some (z.1, z.2.1, z.2.2), vs ++ [Value.slice (some ⟨b2, 0, none⟩) (possL t i).length cap2], w2) ⟨by dsimp only; omega, ?_, hin2⟩ (by dsimp only; omega) (.cons rfl (.cons ?_ (.cons rfl (.cons rfl .nil)))) (fun _ h => ?_)
                  · dsimp only [outOk]; first | omega | (simp only [List.length_cons, List.length_nil] at hz ⊢; omega)
                  · dsimp only [outV']; first | rfl | (rw [show i = 0 from hok]; rfl)
                  · dsimp only [slH_some, slS]
                    try rw [show vs = [] from List.eq_nil_of_length_eq_zero (by rw [hin.1, possLL_len]; exact hok), List.nil_append]
                    exact h.subl SB.s SB.s)))
         · try simp only [qn1, qn2, qn3, qn4, qn5, qn6, qn7, qn8] at hc
           all_goals refine tc_exit ?_; ((refine hK7 ?_; try (clear hK7; clear K7)))
           all_goals refine tc_seq fun K21 hK21 => ?_; (have hil : i = t.parts.length := by omega)
           all_goals subst hil
           all_goals rcases oo with _ | ⟨bo, cap, junk⟩
           all_goals ((dsimp only [outOk, slS] at hok hin ⊢; dsimp only [slH_none, slH_some]))
           all_goals refine tc_region ?_; refine tl_q (y_move rfl) rfl ?_; refine tl_q (y_assign rfl) rfl ?_; refine tl_q (y_assign rfl) rfl ?_; refine tl_nil ?_; ((refine hK21 ?_; try (clear hK21; clear K21)))
           all_goals refine tc_ret ?_; (repeat (first | refine tk_then_ret ?_))
           all_goals (refine tk_ret rfl rfl (.cons (.tmp rfl) (.cons (.tmp rfl) .nil)) ?_)
           all_goals (
            first
            | (exfalso; omega)
            | (refine fun w' hw' => ⟨(some ⟨bo, 0, none⟩, cap), rfl, hw'.fr MI.m, ?_⟩
               have := hin.rd hw' (b := bo) (cap := cap) (by repeat constructor) (hw'.fr MI.m)
               rw [possLL_len] at this
               exact this)))))
end Go.Sp
/-
  Package trial: the certificate.
-/
namespace Go.Sp
open Go Go.Proofs
theorem RdLL.opensL {w : World} {ls : List (List Int)} {n : Nat} (hn : ls.length = n) {x : Option Addr × Nat} (h : RdLL w (slV n x) ls) : ∃ b o, ∃ vs : List Value, (0 < ls.length → x.1 = some ⟨b, o, none⟩) ∧
    (∀ w', Fr [] w w' → ∀ i, i < ls.length → w'.cell? ⟨b, o + i, none⟩ = some (vs.getD i (.slice none 0 0))) ∧ ∀ w', Fr [] w w' → ∀ i, i < ls.length → RdI w' (vs.getD i (.slice none 0 0)) (ls.getD i []) := by
  obtain ⟨ad, cap, b, o, vs, e, had, hc, hi⟩ := h.open
  injection e with e1 e2 e3
  subst e1
  exact ⟨b, o, vs, had, hc, hi⟩
theorem possLL_get {t : Tr} {n i : Nat} (h : i < n) : (possLL t n).getD i [] = possL t i := by
  unfold possLL
  rw [List.getD_eq_getElem?_getD, List.getElem?_map, List.getElem?_range h]; rfl
theorem poss_bd (t : Tr) {i j : Nat} : -3 ≤ (possL t i).getD j 0 ∧ (possL t i).getD j 0 ≤ 3 := by
  rcases Nat.lt_or_ge j (possL t i).length with h | h
  · have hm : (possL t i).getD j 0 ∈ possL t i := by rw [List.getD_eq_getElem?_getD, List.getElem?_eq_getElem h]; exact List.getElem_mem h
    have := (List.mem_filter.1 hm).1
    simp only [List.mem_cons, List.not_mem_nil, or_false] at this
    omega
  · rw [List.getD_eq_getElem?_getD, List.getElem?_eq_none h]; simp
def certLn (p : List Int) : Int × Int := ((p.getD 0 0 + p.getD (p.length - 1) 0) / 2, p.getD (p.length - 1) 0 - (p.getD 0 0 + p.getD (p.length - 1) 0) / 2)
def certL (t : Tr) (n : Nat) : List (Int × Int) := (List.range n).map fun i => certLn (possL t i)
theorem certL_succ (t : Tr) (n : Nat) : certL t (n + 1) = certL t n ++ [certLn (possL t n)] := by simp [certL, List.range_succ]
theorem certL_len (t : Tr) (n : Nat) : (certL t n).length = n := by simp [certL]
theorem certL_0 {t : Tr} {n : Nat} (h : n = 0) : certL t n = [] := by rw [h]; rfl
theorem y_shr1 {P : Program} {F : List (Nat × Value)} {bs : List (World × List Nat)} {H : List (Nat × Obj)} {d : Option Tmp} {ty : TypeId} {pos : String} {after : Array Edge} {g : Option (Nat × Bool)} {x y : Operand} {t t' : TypeId} {k' : IntKind} {m : Int} (hx : evalO F x = some (.int .i64 m)) (hy : evalO F y = some (.int k' 1)) :
    OpY P ⟨d, .binOp .shr t x y t', ty, pos, after, g⟩ F bs H (.int .i64 (m / 2)) := by
  have := y_shr (P := P) (bs := bs) (H := H) (d := d) (ty := ty) (pos := pos) (after := after) (g := g) (t := t) (t' := t') hx hy (by omega)
  exact this
theorem certificate_no (t : Tr) (hn : NT t) (he : ¬ askedE t = 0) (sl pl ll tl : Value) (w : World) (hr : RdTr w t sl pl ll tl) : CnV Tryz.prog 47 #[trV t sl pl ll tl] w (.tuple #[.slice none 0 0, vi (askedE t)]) := by
  have hr0 := hr
  refine cnv (vs := [_]) Tryz.func47 rfl rfl ?_
  all_goals refine tc_seq fun K1 hK1 => ?_; refine tc_region ?_; refine tl_e (e_box rfl rfl rfl) rfl (fun b1 _ => ?_); refine tl_q (y_assign rfl) rfl ?_; refine tl_q (y_assign rfl) rfl ?_; refine tl_nil ?_; ((refine hK1 ?_; try (clear hK1; clear K1)))
  all_goals refine tc_seq fun K2 hK2 => ?_; refine tc_region ?_; refine tl_q (y_loadW rfl (by repeat constructor) (by rfl)) rfl ?_; refine tl_e (e_callV rfl (.cons rfl .nil) (fun w' hw' => errors_no t hn he sl pl ll tl w' (hr0.fr (hw'.fr (by simp))))) rfl (fun _ _ => ?_); refine tl_q (y_move rfl) rfl ?_; refine tl_q (y_extract rfl rfl) rfl ?_; refine tl_q (y_extract rfl rfl) rfl ?_; refine tl_q (y_assign rfl) rfl ?_; refine tl_q (y_assign rfl) rfl ?_; refine tl_nil ?_; ((refine hK2 ?_; try (clear hK2; clear K2)))
  all_goals refine tc_seq fun K3 hK3 => ?_; refine tc_seq fun K4 hK4 => ?_; refine tc_region ?_; refine tl_q (y_move rfl) rfl ?_; refine tl_q (y_neq rfl rfl) rfl ?_; refine tl_nil ?_; ((refine hK4 ?_; try (clear hK4; clear K4)))
  all_goals (
   refine tc_cond rfl (fun hc => ?_) (fun hc => ?_)
   · try simp only [qn1, qn2, qn3, qn4, qn5, qn6, qn7, qn8] at hc
     all_goals refine tc_seq fun K5 hK5 => ?_; refine tc_region ?_; refine tl_q (y_move rfl) rfl ?_; refine tl_q (y_assign rfl) rfl ?_; refine tl_q (y_assign rfl) rfl ?_; refine tl_nil ?_; ((refine hK5 ?_; try (clear hK5; clear K5)))
     all_goals refine tc_ret ?_; (repeat (refine tk_then_ret ?_))
     all_goals (refine tk_ret rfl rfl (.cons (.tmp rfl) (.cons (.tmp rfl) .nil)) ?_)
     all_goals (
      refine fun w' hw' => ⟨rfl, hw'.fr (by simp)⟩)
   · try simp only [qn1, qn2, qn3, qn4, qn5, qn6, qn7, qn8] at hc
     all_goals ((exfalso; omega))
     all_goals skip)
theorem certificate_ok (t : Tr) (hn : NT t) (he : askedE t = 0) (sl pl ll tl : Value) (w : World) (hr : RdTr w t sl pl ll tl) :
    CnX Tryz.prog 47 #[trV t sl pl ll tl] w [] (fun y : Option Addr × Nat => .tuple #[slV t.parts.length y, vi 0]) (fun y w' => RdR w' (slV t.parts.length y) (certL t t.parts.length)) := by
  have hr0 := hr
  obtain ⟨hv, hpos⟩ := askedE_0 he
  have hp1 := hv.p1
  have hp3 := hv.p3
  refine cnx0 (vs := [_]) Tryz.func47 rfl rfl ?_
  all_goals refine tc_seq fun K1 hK1 => ?_; refine tc_region ?_; refine tl_e (e_box rfl rfl rfl) rfl (fun b1 _ => ?_); refine tl_q (y_assign rfl) rfl ?_; refine tl_q (y_assign rfl) rfl ?_; refine tl_nil ?_; ((refine hK1 ?_; try (clear hK1; clear K1)))
  all_goals refine tc_seq fun K2 hK2 => ?_; refine tc_lay ([]) (SB.s .nil) (fun wl1 hl1 => ?_); refine tc_region ?_; refine tl_q (y_loadWf rfl (hl1.at (by repeat constructor)) MI.m (by simp) (by rfl)) rfl ?_; refine tl_e (e_callX rfl (.cons rfl .nil) (fun w' hw' => errors_ok t hn he sl pl ll tl w' (hr0.fr (hw'.fr (w0 := w) (S := []) MI.m)))) rfl (fun y hy => ?_); refine tl_q (y_move rfl) rfl ?_; refine tl_q (y_extract rfl rfl) rfl ?_; refine tl_q (y_extract rfl rfl) rfl ?_; refine tl_q (y_assign rfl) rfl ?_; refine tl_q (y_assign rfl) rfl ?_; refine tl_nil ?_; ((refine hK2 ?_; try (clear hK2; clear K2)))
  all_goals refine tc_seq fun K3 hK3 => ?_; refine tc_seq fun K4 hK4 => ?_; refine tc_lay ([]) (SB.s .nil) (fun wl2 hl2 => ?_); refine tc_region ?_; refine tl_q (y_move rfl) rfl ?_; refine tl_q (y_neq rfl rfl) rfl ?_; refine tl_nil ?_; ((refine hK4 ?_; try (clear hK4; clear K4)))
  all_goals (
   refine tc_cond rfl (fun hc => ?_) (fun hc => ?_)
   · try simp only [qn1, qn2, qn3, qn4, qn5, qn6, qn7, qn8] at hc
   · try simp only [qn1, qn2, qn3, qn4, qn5, qn6, qn7, qn8] at hc
     all_goals refine tc_skip ?_; ((refine hK3 ?_; try (clear hK3; clear K3)))
     all_goals refine tc_seq fun K6 hK6 => ?_; refine tc_lay ([]) (SB.s .nil) (fun wl4 hl4 => ?_); (obtain ⟨bE, oE, vs, hadE, hcE, hiE⟩ := hy.1.opensL (possLL_len ..))
     all_goals (rw [possLL_len] at hadE hcE hiE)
     all_goals (have hadE' := hadE (by omega))
     all_goals refine tc_region ?_; refine tl_q (y_assign rfl) rfl ?_; refine tl_nil ?_; ((refine hK6 ?_; try (clear hK6; clear K6)))
     all_goals refine tc_seq fun K7 hK7 => ?_; refine tc_seq fun K8 hK8 => ?_; refine tc_lay ([]) (SB.s .nil) (fun wl5 hl5 => ?_); refine tc_region ?_; refine tl_q (y_move rfl) rfl ?_; refine tl_q (y_len rfl) rfl ?_; refine tl_q (y_move rfl) rfl ?_; refine tl_nil ?_; ((refine hK8 ?_; try (clear hK8; clear K8)))
     all_goals refine tc_block ?_
     all_goals (
      refine tc_loop (fun p : Nat × Option (Nat × Nat × List Value) => p.1 ≤ t.parts.length ∧ outOkR (p.1, p.2)) (fun p => [(6, outV' (p.1, p.2)), (20, slV t.parts.length y.1), (21, vi t.parts.length), (22, vi p.1)]) (fun _ => [(y.2, []), (w, [])]) (fun p => slH 104 (flatR (certL t p.1)) p.2) (fun p => t.parts.length - p.1) ?_ ?_
      · exact tk_start (0, none) ⟨Nat.zero_le _, rfl⟩ (.cons rfl (.cons rfl (.cons rfl (.cons rfl .nil)))) (fun _ h => h.subl SB.s SB.s)
      · rintro ⟨i, oo⟩ ⟨hi, hok⟩
        rcases oo with _ | ⟨bo, cap, junk⟩
        all_goals ((dsimp only [outOkR] at hi hok; dsimp only [slH_none, slH_some, outV']))
        all_goals refine tc_seq fun K9 hK9 => ?_; refine tc_region ?_; refine tl_q (y_lss rfl rfl) rfl ?_; refine tl_nil ?_; ((refine hK9 ?_; try (clear hK9; clear K9)))
        all_goals refine tc_seq fun K10 hK10 => ?_
        all_goals (
         refine tc_cond rfl (fun hc => ?_) (fun hc => ?_)
         · try simp only [qn1, qn2, qn3, qn4, qn5, qn6, qn7, qn8] at hc
           all_goals refine tc_skip ?_; ((refine hK10 ?_; try (clear hK10; clear K10)))
           all_goals refine tc_seq fun K11 hK11 => ?_; refine tc_block ?_; refine tc_seq fun K12 hK12 => ?_; ((have hri := hiE y.2 (Fr.refl _ _) i (by omega); rw [possLL_get (by omega)] at hri))
           all_goals (obtain ⟨ad2, cp2, b2, o2, e2, had2, hc2⟩ := hri.open)
           all_goals (have hpn := poss_ne hv he i)
           all_goals (have had2' := had2 hpn)
           all_goals ((have hb0 := poss_bd t (i := i) (j := 0); have hb1 := poss_bd t (i := i) (j := (possL t i).length - 1)))
           all_goals (have hpl : (possL t i).length ≤ 7 := List.length_filter_le _ _)
           all_goals refine tc_region ?_; refine tl_q (y_index rfl rfl (by omega) hadE') rfl ?_; ((refine tl_q (y_load1o (v := .slice ad2 (possL t i).length cp2) rfl (fun w' hw' => by rw [show Int.toNat (i : Int) * 1 = i from by omega, ← e2]; exact hcE w' (hw'.fr (w0 := y.2) (S := []) MI.m) i (by omega))) rfl ?_))
           all_goals refine tl_q (y_assign rfl) rfl ?_; refine tl_nil ?_; ((refine hK12 ?_; try (clear hK12; clear K12)))
           all_goals refine tc_seq fun K13 hK13 => ?_; refine tc_draw (by kernel_rfl) ?_; refine tx_p 0 rfl (by kernel_rfl) (y_move rfl) rfl (fun _ _ _ h => h) (fun _ h => h) ?_; refine tx_p 1 rfl (by kernel_rfl) (y_index rfl rfl (by omega) had2') rfl (fun _ _ _ h => h) (fun _ h => h) ?_; refine tx_q 2 rfl (by kernel_rfl) (y_load1o (v := vi ((possL t i).getD 0 0)) rfl (fun w' hw' => hc2 w' (hw'.fr (w0 := y.2) (S := []) MI.m) 0 hpn)) rfl (fun _ _ _ h => h) (fun _ h => h) ?_; refine tx_p 3 rfl (by kernel_rfl) (y_move rfl) rfl (fun _ _ _ h => h) (fun _ h => h) ?_; refine tx_p 4 rfl (by kernel_rfl) (y_move rfl) rfl (fun _ _ _ h => h) (fun _ h => h) ?_; refine tx_q 5 rfl (by kernel_rfl) (y_len rfl) rfl (fun _ _ _ h => h) (fun _ h => h) ?_; refine tx_p 6 rfl (by kernel_rfl) (y_sub rfl rfl (by omega)) rfl (fun _ _ _ h => h) (fun _ h => h) ?_; refine tx_p 7 rfl (by kernel_rfl) (y_index rfl rfl (by omega) had2') rfl (fun _ _ _ h => h) (fun _ h => h) ?_; ((refine tx_q 8 rfl (by kernel_rfl) (y_load1o (v := vi ((possL t i).getD ((possL t i).length - 1) 0)) rfl (fun w' hw' => by rw [show Int.toNat (((possL t i).length : Int) - 1) * 1 = (possL t i).length - 1 from by omega]; exact hc2 w' (hw'.fr (w0 := y.2) (S := []) MI.m) ((possL t i).length - 1) (by omega))) rfl (fun _ _ _ h => h) (fun _ h => h) ?_))
           all_goals refine tx_p 9 rfl (by kernel_rfl) (y_assign rfl) rfl (fun _ _ _ h => h) (fun _ h => h) ?_; refine tx_p 10 rfl (by kernel_rfl) (y_assign rfl) rfl (fun _ _ _ h => h) (fun _ h => h) ?_; refine tx_done (by kernel_rfl) ?_; ((refine hK13 ?_; try (clear hK13; clear K13)))
           all_goals refine tc_seq fun K14 hK14 => ?_; refine tc_region ?_; refine tl_q (y_move rfl) rfl ?_; refine tl_q (y_move rfl) rfl ?_; refine tl_q (y_add rfl rfl (by omega)) rfl ?_; refine tl_q (y_shr1 rfl rfl) rfl ?_; refine tl_q (y_assign rfl) rfl ?_; refine tl_nil ?_; ((refine hK14 ?_; try (clear hK14; clear K14)))
           all_goals refine tc_region ?_; refine tl_q (y_move rfl) rfl ?_; refine tl_q (y_move rfl) rfl ?_; refine tl_q (y_move rfl) rfl ?_; refine tl_q (y_move rfl) rfl ?_; refine tl_q (y_sub rfl rfl (by omega)) rfl ?_; refine tl_q (y_build_2 rfl rfl rfl rfl) rfl ?_; (refine tl_e (e_bslice rfl (by (repeat (first | exact .nil | apply PV.two rfl)); done) rfl rfl) rfl (fun _ _ => ?_))
           all_goals ((first | refine tl_e (e_append_own (old := flatR (certL t i)) (junk := junk) rfl rfl rfl (by repeat constructor) (by rw [flatR_len, certL_len]) (by omega) hok.1 (fun w' hw' => RdR.own0 (xs := [certLn (possL t i)]) hw' (by repeat constructor)) (flatR_one _) (by simp only [List.length_cons, List.length_nil]; omega) rfl) rfl (fun z hz => ?_) | refine tl_e (e_append_nil rfl rfl rfl (fun w' hw' => RdR.own0 (xs := [certLn (possL t i)]) hw' (by repeat constructor)) (flatR_one _) Nat.zero_lt_one (Nat.le_of_ble_eq_true rfl) rfl) rfl (fun z hz => ?_)))
           all_goals refine tl_q (y_assign rfl) rfl ?_; refine tl_nil ?_; ((refine hK11 ?_; try (clear hK11; clear K11)))
           all_goals refine tc_region ?_; refine tl_q (y_add rfl rfl (by omega)) rfl ?_; refine tl_q (y_move rfl) rfl ?_; refine tl_nil ?_
           all_goals (
            refine tk_round (i + 1, some (z.1, z.2.1, z.2.2)) ⟨by dsimp only; omega, ?_⟩ (by dsimp only; omega) (.cons ?_ (.cons rfl (.cons rfl (.cons rfl .nil)))) (fun _ h => ?_)
            · dsimp only [outOkR]; simp only [List.length_cons, List.length_nil] at hz ⊢; omega
            · dsimp only [outV']; first | rfl | (rw [show i = 0 from hok]; rfl)
            · dsimp only [slH_some]; rw [certL_succ, flatR_append]
              try rw [show certL t i = [] from certL_0 hok, show flatR [] = [] from rfl, List.nil_append]
              exact h.subl SB.s SB.s)
         · try simp only [qn1, qn2, qn3, qn4, qn5, qn6, qn7, qn8] at hc
           all_goals ((first | (exfalso; omega) | skip))
           all_goals refine tc_exit ?_; ((refine hK7 ?_; try (clear hK7; clear K7)))
           all_goals refine tc_seq fun K15 hK15 => ?_; (have hil : i = t.parts.length := by omega)
           all_goals subst hil
           all_goals refine tc_region ?_; refine tl_q (y_move rfl) rfl ?_; refine tl_q (y_assign rfl) rfl ?_; refine tl_q (y_assign rfl) rfl ?_; refine tl_nil ?_; ((refine hK15 ?_; try (clear hK15; clear K15)))
           all_goals refine tc_ret ?_; (repeat (first | refine tk_then_ret ?_))
           all_goals (refine tk_ret rfl rfl (.cons (.tmp rfl) (.cons (.tmp rfl) .nil)) ?_)
           all_goals (
            first
            | (exfalso; omega)
            | (refine fun w' hw' => ⟨(some ⟨bo, 0, none⟩, cap), rfl, hw'.fr MI.m, ?_⟩
               have := RdR.own (xs := certL t t.parts.length) (cap := cap) (junk := junk) hw' (b := bo) (by repeat constructor)
               rw [certL_len] at this
               exact this)))))
end Go.Sp
/-
  Package trial: what a division means, corrected.
-/
namespace Go.Sp
open Go Go.Proofs
def corrStep (t : Tr) (k n : Int) (o : Int × Int) (e : Int × Int × Int) : Int × Int :=
  if (meanE t.s k (n - ofF t e n)).2 = 0 ∧ (0 ≤ n - ofF t e n ∧ n - ofF t e n ≤ t.s.divisions) then
    (min (min o.1 (meanE t.s k (n - ofF t e n)).1.1) (meanE t.s k (n - ofF t e n)).1.2, max (max o.2 (meanE t.s k (n - ofF t e n)).1.1) (meanE t.s k (n - ofF t e n)).1.2) else o
def corrN (t : Tr) (k n : Int) (j : Nat) : Int × Int := ((truthsL t []).take j).foldl (corrStep t k n) (2001, 0)
theorem corrN_succ {t : Tr} {k n : Int} {j : Nat} (h : j < (truthsL t []).length) : corrN t k n (j + 1) = corrStep t k n (corrN t k n j) ((truthsL t []).getD j (0, 0, 0)) := by
  unfold corrN
  rw [takeT_succ h, List.foldl_append]; rfl
def correctE (t : Tr) (k n : Int) : (Int × Int) × Int :=
  if ¬ chkT t = 0 then ((0, 0), chkT t) else if ¬ ((0 ≤ k ∧ k ≤ t.s.weights.length) ∧ (0 ≤ n ∧ n ≤ t.s.divisions)) then ((0, 0), 2) else if ¬ askedE t = 0 then ((0, 0), askedE t)
  else if (corrN t k n (truthsL t []).length).2 = 0 then ((0, 0), 7) else (corrN t k n (truthsL t []).length, 0)
set_option maxHeartbeats 2000000 in
theorem correct_c (t : Tr) (hn : NT t) (k n : Int) (sl pl ll tl : Value) (w : World) (hr : RdTr w t sl pl ll tl) : CnV Tryz.prog 27 #[trV t sl pl ll tl, vi k, vi n] w (.tuple #[rV (correctE t k n).1, vi (correctE t k n).2]) := by
  have hr0 := hr
  refine cnv (vs := [_, _, _]) Tryz.func27 rfl rfl ?_
  all_goals refine tc_seq fun K1 hK1 => ?_; refine tc_region ?_; refine tl_e (e_box rfl rfl rfl) rfl (fun b3 _ => ?_); refine tl_e (e_allocN rfl) rfl (fun b6 _ => ?_); refine tl_q (y_assign rfl) rfl ?_; refine tl_nil ?_; ((refine hK1 ?_; try (clear hK1; clear K1)))
  all_goals refine tc_seq fun K2 hK2 => ?_; refine tc_seq fun K3 hK3 => ?_; refine tc_region ?_; refine tl_q (y_loadW rfl (by repeat constructor) (by rfl)) rfl ?_; refine tl_e (e_callV rfl (.cons rfl .nil) (fun w' hw' => checkTrial_c t hn sl pl ll tl w' (hr0.fr (hw'.fr (w0 := w) (S := []) MI.m)))) rfl (fun _ _ => ?_); refine tl_q (y_assign rfl) rfl ?_; refine tl_nil ?_; ((refine hK3 ?_; try (clear hK3; clear K3)))
  all_goals refine tc_seq fun K4 hK4 => ?_; refine tc_region ?_; refine tl_q (y_move rfl) rfl ?_; refine tl_q (y_neq rfl rfl) rfl ?_; refine tl_nil ?_; ((refine hK4 ?_; try (clear hK4; clear K4)))
  all_goals (
   refine tc_cond rfl (fun hc => ?_) (fun hc => ?_)
   · try simp only [qn1, qn2, qn3, qn4, qn5, qn6, qn7, qn8] at hc
     all_goals refine tc_seq fun K5 hK5 => ?_; refine tc_region ?_; refine tl_q (y_build_0) rfl ?_; refine tl_q (y_move rfl) rfl ?_; refine tl_e (e_storeW rfl rfl (by repeat constructor) (by rfl) (by rfl) (by simp [Value.oneCell'])) rfl (fun _ _ => ?_); refine tl_q (y_assign rfl) rfl ?_; refine tl_nil ?_; ((refine hK5 ?_; try (clear hK5; clear K5)))
     all_goals refine tc_ret ?_; (repeat (refine tk_then_ret ?_))
     all_goals (refine tk_ret rfl rfl (.cons (.agg inferInstance rfl (by repeat constructor) (by rfl)) (.cons (.tmp rfl) .nil)) ?_)
     all_goals (
      refine fun w' hw' => ⟨?_, hw'.fr (w0 := w) (S := []) MI.m⟩
      unfold correctE
      first
      | (rw [if_pos (by omega)]; rfl)
      | (rw [if_neg (by omega), if_pos (by omega)]; rfl)
      | (rw [if_neg (by omega), if_neg (by omega), if_pos (by omega)]; rfl)
      | (rw [if_neg (by omega), if_neg (by omega), if_neg (by omega), if_pos (by omega)]; rfl)
      | (rw [if_neg (by omega), if_neg (by omega), if_neg (by omega), if_neg (by omega)]; rfl))
   · try simp only [qn1, qn2, qn3, qn4, qn5, qn6, qn7, qn8] at hc
     all_goals refine tc_skip ?_; ((refine hK2 ?_; try (clear hK2; clear K2)))
     all_goals refine tc_seq fun K6 hK6 => ?_; refine tc_seq fun K7 hK7 => ?_; (have hv := chkT_0.1 (show chkT t = 0 by omega))
     all_goals refine tc_region ?_; refine tl_q (y_loadW rfl (by repeat constructor) (by rfl)) rfl ?_; refine tl_q (y_move rfl) rfl ?_; refine tl_e (e_callV rfl (.cons rfl (.cons rfl .nil)) (fun w' hw' => tload_c t k sl pl ll tl w' (hr0.fr (hw'.fr (w0 := w) (S := []) MI.m)).ws)) rfl (fun _ _ => ?_); refine tl_q (y_not_dec rfl) rfl ?_; refine tl_q (y_move rfl) rfl ?_; ((refine tl_gs rfl rfl (fun hc => ?_) (fun hc => ?_) <;> (try simp only [qn1, qn2, qn3, qn4, qn5, qn6, qn7, qn8] at hc) <;> (first | refine tl_sk rfl rfl rfl rfl ?_ | refine tl_qg rfl rfl (y_loadW rfl (by repeat constructor) (by rfl)) rfl ?_)))
     all_goals (first | refine tl_sk rfl rfl rfl rfl ?_ | refine tl_qg rfl rfl (y_move rfl) rfl ?_); (first | refine tl_sk rfl rfl rfl rfl ?_ | refine tl_eg rfl rfl rfl (e_callV rfl (.cons rfl (.cons rfl .nil)) (fun w' _ => tdivision_c t n sl pl ll tl w')) (fun _ _ => ?_)); (first | refine tl_sk rfl rfl rfl rfl ?_ | refine tl_qg rfl rfl (y_not_dec rfl) rfl ?_); (first | refine tl_q (y_pick_t rfl rfl) rfl ?_ | refine tl_q (y_pick_f rfl rfl) rfl ?_); refine tl_nil ?_; ((refine hK7 ?_; try (clear hK7; clear K7)))
     all_goals (
      refine tc_cond rfl (fun hc => ?_) (fun hc => ?_)
      · try simp only [qn1, qn2, qn3, qn4, qn5, qn6, qn7, qn8] at hc
        all_goals refine tc_seq fun K8 hK8 => ?_; refine tc_region ?_; refine tl_q (y_build_0) rfl ?_; refine tl_e (e_storeW rfl rfl (by repeat constructor) (by rfl) (by rfl) (by simp [Value.oneCell'])) rfl (fun _ _ => ?_); refine tl_q (y_assign rfl) rfl ?_; refine tl_nil ?_; ((refine hK8 ?_; try (clear hK8; clear K8)))
        all_goals refine tc_ret ?_; (repeat (refine tk_then_ret ?_))
        all_goals (refine tk_ret rfl rfl (.cons (.agg inferInstance rfl (by repeat constructor) (by rfl)) (.cons (.tmp rfl) .nil)) ?_)
        all_goals (
         refine fun w' hw' => ⟨?_, hw'.fr (w0 := w) (S := []) MI.m⟩
         unfold correctE
         first
         | (rw [if_pos (by omega)]; rfl)
         | (rw [if_neg (by omega), if_pos (by omega)]; rfl)
         | (rw [if_neg (by omega), if_neg (by omega), if_pos (by omega)]; rfl)
         | (rw [if_neg (by omega), if_neg (by omega), if_neg (by omega), if_pos (by omega)]; rfl)
         | (rw [if_neg (by omega), if_neg (by omega), if_neg (by omega), if_neg (by omega)]; rfl))
      · try simp only [qn1, qn2, qn3, qn4, qn5, qn6, qn7, qn8] at hc
        all_goals ((first | (exfalso; with_reducible exact btf hc) | skip))
        all_goals refine tc_skip ?_; ((refine hK6 ?_; try (clear hK6; clear K6)))
        all_goals refine tc_seq fun K9 hK9 => ?_; rcases Decidable.em (askedE t = 0) with hA | hA
        all_goals refine tc_region ?_; refine tl_q (y_loadW rfl (by repeat constructor) (by rfl)) rfl ?_; (first | refine tl_e (e_callX rfl (.cons rfl .nil) (fun w' hw' => asked_rd t hn hA sl pl ll tl w' (hr0.fr (hw'.fr (w0 := w) (S := []) MI.m)))) rfl (fun y hy => ?_) | refine tl_e (e_callV rfl (.cons rfl .nil) (fun w' hw' => asked_no t hn hA sl pl ll tl w' (hr0.fr (hw'.fr (w0 := w) (S := []) MI.m)))) rfl (fun y hy => ?_)); refine tl_q (y_move rfl) rfl ?_; refine tl_q (y_extract rfl rfl) rfl ?_; refine tl_q (y_extract rfl rfl) rfl ?_; refine tl_q (y_extract rfl rfl) rfl ?_; refine tl_q (y_assign rfl) rfl ?_; refine tl_q (y_assign rfl) rfl ?_; refine tl_q (y_assign rfl) rfl ?_; refine tl_nil ?_; ((refine hK9 ?_; try (clear hK9; clear K9)))
        all_goals refine tc_seq fun K10 hK10 => ?_; refine tc_seq fun K11 hK11 => ?_; refine tc_region ?_; refine tl_q (y_move rfl) rfl ?_; refine tl_q (y_neq rfl rfl) rfl ?_; refine tl_nil ?_; ((refine hK11 ?_; try (clear hK11; clear K11)))
        all_goals (
         refine tc_cond rfl (fun hc => ?_) (fun hc => ?_)
         · try simp only [qn1, qn2, qn3, qn4, qn5, qn6, qn7, qn8] at hc
           all_goals refine tc_seq fun K12 hK12 => ?_; refine tc_region ?_; refine tl_q (y_build_0) rfl ?_; refine tl_q (y_move rfl) rfl ?_; refine tl_e (e_storeW rfl rfl (by repeat constructor) (by rfl) (by rfl) (by simp [Value.oneCell'])) rfl (fun _ _ => ?_); refine tl_q (y_assign rfl) rfl ?_; refine tl_nil ?_; ((refine hK12 ?_; try (clear hK12; clear K12)))
           all_goals refine tc_ret ?_; (repeat (refine tk_then_ret ?_))
           all_goals (refine tk_ret rfl rfl (.cons (.agg inferInstance rfl (by repeat constructor) (by rfl)) (.cons (.tmp rfl) .nil)) ?_)
           all_goals (
            refine fun w' hw' => ⟨?_, hw'.fr (w0 := w) (S := []) MI.m⟩
            unfold correctE
            first
            | (rw [if_pos (by omega)]; rfl)
            | (rw [if_neg (by omega), if_pos (by omega)]; rfl)
            | (rw [if_neg (by omega), if_neg (by omega), if_pos (by omega)]; rfl)
            | (rw [if_neg (by omega), if_neg (by omega), if_neg (by omega), if_pos (by omega)]; rfl)
            | (rw [if_neg (by omega), if_neg (by omega), if_neg (by omega), if_neg (by omega)]; rfl))
         · try simp only [qn1, qn2, qn3, qn4, qn5, qn6, qn7, qn8] at hc
           all_goals ((first | (exfalso; omega) | skip))
           all_goals refine tc_skip ?_; ((refine hK10 ?_; try (clear hK10; clear K10)))
           all_goals refine tc_seq fun K13 hK13 => ?_; ((have hd2 := hv.s.d2; have htl : (truthsL t []).length ≤ 343 := Nat.le_trans (List.length_filter_le _ _) (every_len hv)))
           all_goals (obtain ⟨bT, oT, hadT⟩ := hy.1.opens1)
           all_goals refine tc_region ?_; refine tl_q (y_build_2 rfl rfl rfl rfl) rfl ?_; refine tl_e (e_allocN rfl) rfl (fun b12 _ => ?_); refine tl_e (e_storeW rfl rfl (by repeat constructor) (by rfl) (by rfl) (by simp [Value.oneCell'])) rfl (fun _ _ => ?_); refine tl_nil ?_; ((refine hK13 ?_; try (clear hK13; clear K13)))
           all_goals refine tc_seq fun K14 hK14 => ?_; refine tc_seq fun K15 hK15 => ?_; refine tc_region ?_; refine tl_q (y_move rfl) rfl ?_; refine tl_q (y_len rfl) rfl ?_; refine tl_q (y_move rfl) rfl ?_; refine tl_nil ?_; ((refine hK15 ?_; try (clear hK15; clear K15)))
           all_goals refine tc_block ?_
           all_goals (
            refine tc_loop (fun j : Nat => j ≤ (truthsL t []).length) (fun j => [(1, vi k), (2, vi n), (3, ptr b3), (6, ptr b6), (12, ptr b12), (45, slV (truthsL t []).length y.1.2), (46, vi (truthsL t []).length), (47, vi j)]) (fun _ => [(y.2, [b6, b3]), (w, [])]) (fun j => [(b12, .cells #[vi (corrN t k n j).1, vi (corrN t k n j).2] 50 (0, 0)), (b6, .cells #[vi 0, vi 0] 50 (0, 0)), (b3, .cells (trV t sl pl ll tl).cells 38 (0, 0))]) (fun j => (truthsL t []).length - j) ?_ ?_
            · exact tk_start 0 (Nat.zero_le _) (.cons rfl (.cons rfl (.cons rfl (.cons rfl (.cons rfl (.cons rfl (.cons rfl (.cons rfl .nil)))))))) (fun _ h => h.subl SB.s SB.s)
            · rintro j hj
              all_goals refine tc_seq fun K16 hK16 => ?_; refine tc_region ?_; refine tl_q (y_lss rfl rfl) rfl ?_; refine tl_nil ?_; ((refine hK16 ?_; try (clear hK16; clear K16)))
              all_goals refine tc_seq fun K17 hK17 => ?_
              all_goals (
               refine tc_cond rfl (fun hc => ?_) (fun hc => ?_)
               · try simp only [qn1, qn2, qn3, qn4, qn5, qn6, qn7, qn8] at hc
                 all_goals refine tc_skip ?_; ((refine hK17 ?_; try (clear hK17; clear K17)))
                 all_goals refine tc_seq fun K18 hK18 => ?_; refine tc_block ?_; refine tc_seq fun K19 hK19 => ?_; (have hadT' := hadT (by omega))
                 all_goals (obtain ⟨ej, hej0⟩ : ∃ e, (truthsL t [])[j]? = some e := ⟨_, List.getElem?_eq_getElem (by omega)⟩)
                 all_goals ((have hejd : (truthsL t []).getD j (0, 0, 0) = ej := by rw [List.getD_eq_getElem?_getD, hej0]; rfl))
                 all_goals (have hej : ErB ej := truths_bd hv (List.mem_of_getElem? hej0))
                 all_goals (have hof : -3 ≤ ofF t ej n ∧ ofF t ej n ≤ 3 := ErB.get hej (ofFrom t.parts n (t.parts.length - 1)))
                 all_goals ((have hcs := corrN_succ (t := t) (k := k) (n := n) (j := j) (by omega); rw [hejd] at hcs))
                 all_goals refine tc_region ?_; refine tl_q (y_index rfl rfl (by omega) hadT') rfl ?_; ((refine tl_q (y_loadNo (n := 3) (vs := [vi ej.1, vi ej.2.1, vi ej.2.2]) rfl (fun w' hw' => by rw [show Int.toNat (j : Int) * 3 = j * 3 from by omega, ← hejd]; exact (hy.1.fr (hw'.calm hy.2 MI.m SB.s)).at1 hadT' (by omega))) rfl ?_))
                 all_goals refine tl_e (e_allocN rfl) rfl (fun b14 _ => ?_); refine tl_e (e_storeW rfl rfl (by repeat constructor) (by rfl) (by rfl) (by simp [Value.oneCell'])) rfl (fun _ _ => ?_); refine tl_nil ?_; ((refine hK19 ?_; try (clear hK19; clear K19)))
                 all_goals refine tc_seq fun K20 hK20 => ?_; refine tc_drawS ([(b14, .cells #[vi ej.1, vi ej.2.1, vi ej.2.2] 126 (0, 0)), (b12, .cells #[vi (corrN t k n j).1, vi (corrN t k n j).2] 50 (0, 0)), (b6, .cells #[vi 0, vi 0] 50 (0, 0)), (b3, .cells (trV t sl pl ll tl).cells 38 (0, 0))]) (by kernel_rfl) ?_; refine tx_p 0 rfl (by kernel_rfl) (y_field rfl) rfl (fun _ _ _ h => h) (fun _ h => h.subl SB.s SB.s) ?_; ((refine tx_qS 1 rfl (by kernel_rfl) (y_loadN rfl (by repeat constructor) (by (repeat (first | exact .nil | apply CA.cons rfl)); done)) rfl (fun _ _ _ h => h) (fun _ h => h.subl SB.s SB.s) ?_))
                 all_goals refine tx_p 2 rfl (by kernel_rfl) (y_move rfl) rfl (fun _ _ _ h => h) (fun _ h => h.subl SB.s SB.s) ?_; refine tx_p 3 rfl (by kernel_rfl) (y_move rfl) rfl (fun _ _ _ h => h) (fun _ h => h.subl SB.s SB.s) ?_; refine tx_qS 4 rfl (by kernel_rfl) (y_loadW rfl (by repeat constructor) (by rfl)) rfl (fun _ _ _ h => h) (fun _ h => h.subl SB.s SB.s) ?_; refine tx_qS 5 rfl (by kernel_rfl) (y_loadW rfl (by repeat constructor) (by rfl)) rfl (fun _ _ _ h => h) (fun _ h => h.subl SB.s SB.s) ?_; refine tx_p 6 rfl (by kernel_rfl) (y_move rfl) rfl (fun _ _ _ h => h) (fun _ h => h.subl SB.s SB.s) ?_
                 all_goals (
                  refine tx_pair 7 13 (by kernel_rfl) ?_ ?_
                  rotate_left
                  focus (
                   (refine to_e rfl rfl (e_allocN rfl) (.inr ⟨fun _ _ h => h.subl SB.s SB.s, fun _ h => h⟩) (fun b15 _ => ?_))
                   all_goals refine tx_single 7 (by kernel_rfl) (to_e rfl rfl (e_callV rfl (.cons rfl (.cons rfl (.cons rfl .nil))) (fun w' hw' => tof_c t hv ej n (by omega) sl pl ll tl w' (hr0.fr (hw'.fr (w0 := w) (S := []) MI.m)).ps)) (.inr ⟨fun _ _ h => h.subl SB.s SB.s, fun _ h => h⟩) (fun _ _ => ?_)); refine tx_p 8 rfl (by kernel_rfl) (y_sub rfl rfl (by omega)) rfl (fun _ _ _ h => h) (fun _ h => h.subl SB.s SB.s) ?_; refine tx_single 9 (by kernel_rfl) (to_e rfl rfl (e_callV rfl (.cons rfl (.cons rfl (.cons rfl .nil))) (fun w' hw' => mean_e t.s hn.ws k (n - ofF t ej n) sl w' (hr0.fr (hw'.fr (w0 := w) (S := []) MI.m)).ws)) (.inr ⟨fun _ _ h => h.subl SB.s SB.s, fun _ h => h⟩) (fun _ _ => ?_)); refine tx_p 10 rfl (by kernel_rfl) (y_move rfl) rfl (fun _ _ _ h => h) (fun _ h => h.subl SB.s SB.s) ?_; refine tx_p 11 rfl (by kernel_rfl) (y_extract rfl rfl) rfl (fun _ _ _ h => h) (fun _ h => h.subl SB.s SB.s) ?_; refine tx_p 12 rfl (by kernel_rfl) (y_extract rfl rfl) rfl (fun _ _ _ h => h) (fun _ h => h.subl SB.s SB.s) ?_; refine tx_single 14 (by kernel_rfl) (to_e (S' := HG [] []) rfl rfl (e_storeW rfl rfl (by repeat constructor) (by rfl) (by rfl) (by simp [Value.oneCell'])) (.inl (by kernel_rfl)) (fun _ _ => ?_)); refine tx_p 15 rfl (by kernel_rfl) (y_assign rfl) rfl (fun _ _ _ h => h) (fun _ h => h.subl SB.s SB.s) ?_
                   all_goals refine tx_done (by kernel_rfl) ?_)
                  rotate_right
                  focus (
                   (refine to_e rfl rfl (e_callV rfl (.cons rfl (.cons rfl (.cons rfl .nil))) (fun w' hw' => tof_c t hv ej n (by omega) sl pl ll tl w' (hr0.fr (hw'.fr (w0 := w) (S := []) MI.m)).ps)) (.inr ⟨fun _ _ h => h.subl SB.s SB.s, fun _ h => h⟩) (fun _ _ => ?_))
                   all_goals refine tx_p 8 rfl (by kernel_rfl) (y_sub rfl rfl (by omega)) rfl (fun _ _ _ h => h) (fun _ h => h.subl SB.s SB.s) ?_
                   all_goals (
                    refine tx_pair 9 13 (by kernel_rfl) ?_ ?_
                    rotate_left
                    focus (
                     (refine to_e rfl rfl (e_allocN rfl) (.inr ⟨fun _ _ h => h.subl SB.s SB.s, fun _ h => h⟩) (fun b15 _ => ?_))
                     all_goals refine tx_single 9 (by kernel_rfl) (to_e rfl rfl (e_callV rfl (.cons rfl (.cons rfl (.cons rfl .nil))) (fun w' hw' => mean_e t.s hn.ws k (n - ofF t ej n) sl w' (hr0.fr (hw'.fr (w0 := w) (S := []) MI.m)).ws)) (.inr ⟨fun _ _ h => h.subl SB.s SB.s, fun _ h => h⟩) (fun _ _ => ?_)); refine tx_p 10 rfl (by kernel_rfl) (y_move rfl) rfl (fun _ _ _ h => h) (fun _ h => h.subl SB.s SB.s) ?_; refine tx_p 11 rfl (by kernel_rfl) (y_extract rfl rfl) rfl (fun _ _ _ h => h) (fun _ h => h.subl SB.s SB.s) ?_; refine tx_p 12 rfl (by kernel_rfl) (y_extract rfl rfl) rfl (fun _ _ _ h => h) (fun _ h => h.subl SB.s SB.s) ?_; refine tx_single 14 (by kernel_rfl) (to_e (S' := HG [] []) rfl rfl (e_storeW rfl rfl (by repeat constructor) (by rfl) (by rfl) (by simp [Value.oneCell'])) (.inl (by kernel_rfl)) (fun _ _ => ?_)); refine tx_p 15 rfl (by kernel_rfl) (y_assign rfl) rfl (fun _ _ _ h => h) (fun _ h => h.subl SB.s SB.s) ?_
                     all_goals refine tx_done (by kernel_rfl) ?_)
                    rotate_right
                    focus (
                     (refine to_e rfl rfl (e_callV rfl (.cons rfl (.cons rfl (.cons rfl .nil))) (fun w' hw' => mean_e t.s hn.ws k (n - ofF t ej n) sl w' (hr0.fr (hw'.fr (w0 := w) (S := []) MI.m)).ws)) (.inr ⟨fun _ _ h => h.subl SB.s SB.s, fun _ h => h⟩) (fun _ _ => ?_))
                     all_goals refine tx_p 10 rfl (by kernel_rfl) (y_move rfl) rfl (fun _ _ _ h => h) (fun _ h => h.subl SB.s SB.s) ?_; refine tx_p 11 rfl (by kernel_rfl) (y_extract rfl rfl) rfl (fun _ _ _ h => h) (fun _ h => h.subl SB.s SB.s) ?_; refine tx_p 12 rfl (by kernel_rfl) (y_extract rfl rfl) rfl (fun _ _ _ h => h) (fun _ h => h.subl SB.s SB.s) ?_; refine tx_single 13 (by kernel_rfl) (to_e rfl rfl (e_allocN rfl) (.inr ⟨fun _ _ h => h.subl SB.s SB.s, fun _ h => h⟩) (fun b15 _ => ?_)); refine tx_single 14 (by kernel_rfl) (to_e (S' := HG [] []) rfl rfl (e_storeW rfl rfl (by repeat constructor) (by rfl) (by rfl) (by simp [Value.oneCell'])) (.inl (by kernel_rfl)) (fun _ _ => ?_)); refine tx_p 15 rfl (by kernel_rfl) (y_assign rfl) rfl (fun _ _ _ h => h) (fun _ h => h.subl SB.s SB.s) ?_
                     all_goals refine tx_done (by kernel_rfl) ?_))))
                 all_goals ((refine hK20 ?_; try (clear hK20; clear K20)))
                 all_goals refine tc_seq fun K21 hK21 => ?_; refine tc_draw (by kernel_rfl) ?_; refine tx_p 0 rfl (by kernel_rfl) (y_move rfl) rfl (fun _ _ _ h => h) (fun _ h => h) ?_; refine tx_p 1 rfl (by kernel_rfl) (y_eql rfl rfl) rfl (fun _ _ _ h => h) (fun _ h => h) ?_; refine tx_p 2 rfl (by kernel_rfl) (y_move rfl) rfl (fun _ _ _ h => h) (fun _ h => h) ?_; ((refine tx_gs 66 rfl (fun hc => ?_) (fun hc => ?_) <;> (try simp only [qn1, qn2, qn3, qn4, qn5, qn6, qn7, qn8] at hc) <;> (first | refine tx_sk 3 rfl (by kernel_rfl) rfl rfl rfl rfl (fun _ _ _ h => h) (fun _ h => h) ?_ | refine tx_qg 3 rfl (by kernel_rfl) rfl rfl (y_loadW rfl (by repeat constructor) (by rfl)) rfl (fun _ _ _ h => h) (fun _ h => h) ?_)))
                 all_goals (first | refine tx_sk 4 rfl (by kernel_rfl) rfl rfl rfl rfl (fun _ _ _ h => h) (fun _ h => h) ?_ | refine tx_pg 4 rfl (by kernel_rfl) rfl rfl (y_move rfl) rfl (fun _ _ _ h => h) (fun _ h => h) ?_); (first | refine tx_sk 5 rfl (by kernel_rfl) rfl rfl rfl rfl (fun _ _ _ h => h) (fun _ h => h) ?_ | refine tx_qg 5 rfl (by kernel_rfl) rfl rfl (y_loadW rfl (by repeat constructor) (by rfl)) rfl (fun _ _ _ h => h) (fun _ h => h) ?_); (first | refine tx_sk 6 rfl (by kernel_rfl) rfl rfl rfl rfl (fun _ _ _ h => h) (fun _ h => h) ?_ | refine tx_qg 6 rfl (by kernel_rfl) rfl rfl (y_loadW rfl (by repeat constructor) (by rfl)) rfl (fun _ _ _ h => h) (fun _ h => h) ?_); (first | refine tx_sk 7 rfl (by kernel_rfl) rfl rfl rfl rfl (fun _ _ _ h => h) (fun _ h => h) ?_ | refine tx_pg 7 rfl (by kernel_rfl) rfl rfl (y_move rfl) rfl (fun _ _ _ h => h) (fun _ h => h) ?_); (first | refine tx_sk 8 rfl (by kernel_rfl) rfl rfl rfl rfl (fun _ _ _ h => h) (fun _ h => h) ?_ | refine tx_eg 8 rfl (by kernel_rfl) rfl rfl rfl (e_callV rfl (.cons rfl (.cons rfl (.cons rfl .nil))) (fun w' hw' => tof_c t hv ej n (by omega) sl pl ll tl w' (hr0.fr (hw'.fr (w0 := w) (S := []) MI.m)).ps)) (.inr fun _ _ h => h) (fun _ _ => ?_)); (first | refine tx_sk 9 rfl (by kernel_rfl) rfl rfl rfl rfl (fun _ _ _ h => h) (fun _ h => h) ?_ | refine tx_pg 9 rfl (by kernel_rfl) rfl rfl (y_sub rfl rfl (by omega)) rfl (fun _ _ _ h => h) (fun _ h => h) ?_); (first | refine tx_sk 10 rfl (by kernel_rfl) rfl rfl rfl rfl (fun _ _ _ h => h) (fun _ h => h) ?_ | refine tx_eg 10 rfl (by kernel_rfl) rfl rfl rfl (e_callV rfl (.cons rfl (.cons rfl .nil)) (fun w' _ => tdivision_c t (n - ofF t ej n) sl pl ll tl w')) (.inr fun _ _ h => h) (fun _ _ => ?_)); (first | refine tx_p 11 rfl (by kernel_rfl) (y_pick_t rfl rfl) rfl (fun _ _ _ h => h) (fun _ h => h) ?_ | refine tx_p 11 rfl (by kernel_rfl) (y_pick_f rfl rfl) rfl (fun _ _ _ h => h) (fun _ h => h) ?_); refine tx_done (by kernel_rfl) ?_; ((refine hK21 ?_; try (clear hK21; clear K21)))
                 all_goals (
                  refine tc_cond rfl (fun hc => ?_) (fun hc => ?_)
                  · try simp only [qn1, qn2, qn3, qn4, qn5, qn6, qn7, qn8] at hc
                    all_goals ((first | (exfalso; with_reducible exact bft hc) | skip))
                    all_goals refine tc_draw (by kernel_rfl) ?_; refine tx_q 0 rfl (by kernel_rfl) (y_loadW rfl (by repeat constructor) (by rfl)) rfl (fun _ _ _ h => h) (fun _ h => h) ?_; refine tx_p 1 rfl (by kernel_rfl) (y_field rfl) rfl (fun _ _ _ h => h) (fun _ h => h) ?_; refine tx_q 2 rfl (by kernel_rfl) (y_load1 rfl (by repeat constructor) (by rfl)) rfl (fun _ _ _ h => h) (fun _ h => h) ?_; refine tx_p 4 rfl (by kernel_rfl) (y_field rfl) rfl (fun _ _ _ h => h) (fun _ h => h) ?_; refine tx_q 5 rfl (by kernel_rfl) (y_load1 rfl (by repeat constructor) (by rfl)) rfl (fun _ _ _ h => h) (fun _ h => h) ?_; refine tx_e 3 rfl (by kernel_rfl) rfl (e_callV rfl (.cons rfl (.cons rfl .nil)) (fun w' _ => wider_c _ _ w')) (.inr fun _ _ h => h) (fun _ _ => ?_); refine tx_e 6 rfl (by kernel_rfl) rfl (e_callV rfl (.cons rfl (.cons rfl .nil)) (fun w' _ => wider_c _ _ w')) (.inr fun _ _ h => h) (fun _ _ => ?_); refine tx_e 7 rfl (by kernel_rfl) rfl (e_storeW rfl rfl (by repeat constructor) (by rfl) (by rfl) (by simp [Value.oneCell'])) (.inl (by kernel_rfl)) (fun _ _ => ?_); refine tx_done (by kernel_rfl) ?_; ((refine hK18 ?_; try (clear hK18; clear K18)))
                    all_goals refine tc_region ?_; refine tl_q (y_add rfl rfl (by omega)) rfl ?_; refine tl_q (y_move rfl) rfl ?_; refine tl_nil ?_
                    all_goals (
                     first
                     | (have h1 : corrStep t k n (corrN t k n j) ej = (min (min (corrN t k n j).1 (meanE t.s k (n - ofF t ej n)).1.1) (meanE t.s k (n - ofF t ej n)).1.2, max (max (corrN t k n j).2 (meanE t.s k (n - ofF t ej n)).1.1) (meanE t.s k (n - ofF t ej n)).1.2) := if_pos ⟨by omega, by omega⟩
                        exact tk_round (j + 1) (by omega) (by omega) (.cons rfl (.cons rfl (.cons rfl (.cons rfl (.cons rfl (.cons rfl (.cons rfl (.cons rfl .nil)))))))) (fun _ h => by rw [hcs, h1]; exact h.subl SB.s SB.s))
                     | (have h1 : corrStep t k n (corrN t k n j) ej = corrN t k n j := if_neg (by omega)
                        exact tk_round (j + 1) (by omega) (by omega) (.cons rfl (.cons rfl (.cons rfl (.cons rfl (.cons rfl (.cons rfl (.cons rfl (.cons rfl .nil)))))))) (fun _ h => by rw [hcs, h1]; exact h.subl SB.s SB.s)))
                  · try simp only [qn1, qn2, qn3, qn4, qn5, qn6, qn7, qn8] at hc
                    all_goals refine tc_skip ?_; ((refine hK18 ?_; try (clear hK18; clear K18)))
                    all_goals refine tc_region ?_; refine tl_q (y_add rfl rfl (by omega)) rfl ?_; refine tl_q (y_move rfl) rfl ?_; refine tl_nil ?_
                    all_goals (
                     first
                     | (have h1 : corrStep t k n (corrN t k n j) ej = (min (min (corrN t k n j).1 (meanE t.s k (n - ofF t ej n)).1.1) (meanE t.s k (n - ofF t ej n)).1.2, max (max (corrN t k n j).2 (meanE t.s k (n - ofF t ej n)).1.1) (meanE t.s k (n - ofF t ej n)).1.2) := if_pos ⟨by omega, by omega⟩
                        exact tk_round (j + 1) (by omega) (by omega) (.cons rfl (.cons rfl (.cons rfl (.cons rfl (.cons rfl (.cons rfl (.cons rfl (.cons rfl .nil)))))))) (fun _ h => by rw [hcs, h1]; exact h.subl SB.s SB.s))
                     | (have h1 : corrStep t k n (corrN t k n j) ej = corrN t k n j := if_neg (by omega)
                        exact tk_round (j + 1) (by omega) (by omega) (.cons rfl (.cons rfl (.cons rfl (.cons rfl (.cons rfl (.cons rfl (.cons rfl (.cons rfl .nil)))))))) (fun _ h => by rw [hcs, h1]; exact h.subl SB.s SB.s))))
               · try simp only [qn1, qn2, qn3, qn4, qn5, qn6, qn7, qn8] at hc
                 all_goals refine tc_exit ?_; ((refine hK14 ?_; try (clear hK14; clear K14)))
                 all_goals refine tc_seq fun K22 hK22 => ?_; refine tc_seq fun K23 hK23 => ?_; (have hjl : j = (truthsL t []).length := by omega)
                 all_goals subst hjl
                 all_goals refine tc_region ?_; refine tl_q (y_field rfl) rfl ?_; refine tl_q (y_load1 rfl (by repeat constructor) (by rfl)) rfl ?_; refine tl_q (y_eql rfl rfl) rfl ?_; refine tl_nil ?_; ((refine hK23 ?_; try (clear hK23; clear K23)))
                 all_goals (
                  refine tc_cond rfl (fun hc => ?_) (fun hc => ?_)
                  · try simp only [qn1, qn2, qn3, qn4, qn5, qn6, qn7, qn8] at hc
                    all_goals refine tc_seq fun K24 hK24 => ?_; refine tc_region ?_; refine tl_q (y_build_0) rfl ?_; refine tl_e (e_storeW rfl rfl (by repeat constructor) (by rfl) (by rfl) (by simp [Value.oneCell'])) rfl (fun _ _ => ?_); refine tl_q (y_assign rfl) rfl ?_; refine tl_nil ?_; ((refine hK24 ?_; try (clear hK24; clear K24)))
                    all_goals refine tc_ret ?_; (repeat (refine tk_then_ret ?_))
                    all_goals (refine tk_ret rfl rfl (.cons (.agg inferInstance rfl (by repeat constructor) (by rfl)) (.cons (.tmp rfl) .nil)) ?_)
                    all_goals (
                     refine fun w' hw' => ⟨?_, hw'.fr (w0 := w) (S := []) MI.m⟩
                     unfold correctE
                     first
                     | (rw [if_pos (by omega)]; rfl)
                     | (rw [if_neg (by omega), if_pos (by omega)]; rfl)
                     | (rw [if_neg (by omega), if_neg (by omega), if_pos (by omega)]; rfl)
                     | (rw [if_neg (by omega), if_neg (by omega), if_neg (by omega), if_pos (by omega)]; rfl)
                     | (rw [if_neg (by omega), if_neg (by omega), if_neg (by omega), if_neg (by omega)]; rfl))
                  · try simp only [qn1, qn2, qn3, qn4, qn5, qn6, qn7, qn8] at hc
                    all_goals refine tc_skip ?_; ((refine hK22 ?_; try (clear hK22; clear K22)))
                    all_goals refine tc_seq fun K25 hK25 => ?_; refine tc_region ?_; refine tl_q (y_loadW rfl (by repeat constructor) (by rfl)) rfl ?_; refine tl_e (e_storeW rfl rfl (by repeat constructor) (by rfl) (by rfl) (by simp [Value.oneCell'])) rfl (fun _ _ => ?_); refine tl_q (y_assign rfl) rfl ?_; refine tl_nil ?_; ((refine hK25 ?_; try (clear hK25; clear K25)))
                    all_goals refine tc_ret ?_; (repeat (first | refine tk_then_ret ?_))
                    all_goals (refine tk_ret rfl rfl (.cons (.agg inferInstance rfl (by repeat constructor) (by rfl)) (.cons (.tmp rfl) .nil)) ?_)
                    all_goals (
                     refine fun w' hw' => ⟨?_, hw'.fr (w0 := w) (S := []) MI.m⟩
                     unfold correctE
                     first
                     | (rw [if_pos (by omega)]; rfl)
                     | (rw [if_neg (by omega), if_pos (by omega)]; rfl)
                     | (rw [if_neg (by omega), if_neg (by omega), if_pos (by omega)]; rfl)
                     | (rw [if_neg (by omega), if_neg (by omega), if_neg (by omega), if_pos (by omega)]; rfl)
                     | (rw [if_neg (by omega), if_neg (by omega), if_neg (by omega), if_neg (by omega)]; rfl))))))))
end Go.Sp
/-
  Package trial: offers; whether two lists of errors are alike.
-/
namespace Go.Sp
open Go Go.Proofs
theorem indexFuncO_c (g : FuncId) [GoFn Tryz.prog g] (first cap : Array Value) (p : Int × Int → Bool) (xs : List (Int × Int)) (hx : (xs.length : Int) ≤ 9000000000000000000) (sl : Value) (w : World) (hr : RdR w sl xs) (ht : TestsR Tryz.prog g first cap p w) :
    CnV Tryz.prog 162 #[sl, .func (.func g) first cap] w (vi (idxR xs p)) := by
  obtain ⟨ad, cp, b0, o, rfl, had, hcell⟩ := hr.open
  refine cnv (vs := [_, _]) Tryz.func162 rfl rfl ?_
  all_goals refine tc_seq fun K1 hK1 => ?_; refine tc_region ?_; refine tl_q (y_assign rfl) rfl ?_; refine tl_nil ?_; ((refine hK1 ?_; try (clear hK1; clear K1)))
  all_goals refine tc_seq fun K2 hK2 => ?_; refine tc_seq fun K3 hK3 => ?_; refine tc_region ?_; refine tl_q (y_move rfl) rfl ?_; refine tl_q (y_len rfl) rfl ?_; refine tl_q (y_move rfl) rfl ?_; refine tl_nil ?_; ((refine hK3 ?_; try (clear hK3; clear K3)))
  all_goals refine tc_block ?_
  all_goals (
   refine tc_loop (fun k : Nat => k ≤ xs.length ∧ ∀ j, j < k → p (xs.getD j (0, 0)) = false) (fun k => [(0, .slice ad xs.length cp), (1, .func (.func g) first cap), (7, vi xs.length), (8, vi k)]) (fun _ => [(w, [])]) (fun _ => []) (fun k => xs.length - k) ?_ ?_
   · exact tk_start 0 ⟨Nat.zero_le _, fun j hj => absurd hj (Nat.not_lt_zero j)⟩ (.cons rfl (.cons rfl (.cons rfl (.cons rfl .nil)))) (fun _ h => h)
   · rintro k ⟨hk, hj⟩
     all_goals refine tc_seq fun K4 hK4 => ?_; refine tc_region ?_; refine tl_q (y_lss rfl rfl) rfl ?_; refine tl_nil ?_; ((refine hK4 ?_; try (clear hK4; clear K4)))
     all_goals refine tc_seq fun K5 hK5 => ?_
     all_goals (
      refine tc_cond rfl (fun hc => ?_) (fun hc => ?_)
      · try simp only [qn1, qn2, qn3, qn4, qn5, qn6, qn7, qn8] at hc
        all_goals refine tc_skip ?_; ((refine hK5 ?_; try (clear hK5; clear K5)))
        all_goals refine tc_seq fun K6 hK6 => ?_; refine tc_block ?_; refine tc_seq fun K7 hK7 => ?_; refine tc_region ?_; refine tl_q (y_move rfl) rfl ?_; refine tl_q (y_assign rfl) rfl ?_; refine tl_nil ?_; ((refine hK7 ?_; try (clear hK7; clear K7)))
        all_goals refine tc_seq fun K8 hK8 => ?_
        have had' := had (by omega)
        all_goals refine tc_region ?_; refine tl_q (y_move rfl) rfl ?_; refine tl_q (y_move rfl) rfl ?_; refine tl_q (y_move rfl) rfl ?_; refine tl_q (y_index rfl rfl (by omega) had') rfl ?_; refine tl_q (y_loadNo rfl (fun w' hw' => hcell w' [] (hw'.fr (by simp)) (by simp) (Int.toNat k) (by omega))) rfl ?_; refine tl_e (e_callVf rfl rfl (.cons rfl .nil) (fun w' hw' => ht (xs.getD (Int.toNat k) (0, 0)) w' (hw'.fr (by simp)))) rfl (fun _ _ => ?_); refine tl_nil ?_; ((refine hK8 ?_; try (clear hK8; clear K8)))
        all_goals (
         refine tc_cond rfl (fun hc => ?_) (fun hc => ?_)
         · all_goals (skip)
           all_goals refine tc_seq fun K9 hK9 => ?_; refine tc_region ?_; refine tl_q (y_move rfl) rfl ?_; refine tl_q (y_assign rfl) rfl ?_; refine tl_nil ?_; ((refine hK9 ?_; try (clear hK9; clear K9)))
           all_goals refine tc_ret ?_; (repeat (first | refine tk_then_ret ?_ | refine tk_block_ret ?_))
           all_goals (refine tk_ret rfl rfl (.cons (.tmp rfl) .nil) ?_)
           all_goals (
            first | exact fun w' hw' => ⟨by rw [idxR_hit (k := k) (by omega) (by simpa using hc) hj]; rfl, hw'.fr (by simp)⟩ | exact fun w' hw' => ⟨by rw [idxR_miss (fun j hjj => hj j (by omega))]; rfl, hw'.fr (by simp)⟩)
         · all_goals (skip)
           all_goals refine tc_skip ?_; ((refine hK6 ?_; try (clear hK6; clear K6)))
           all_goals refine tc_region ?_; refine tl_q (y_add rfl rfl (by omega)) rfl ?_; refine tl_q (y_move rfl) rfl ?_; refine tl_nil ?_
           all_goals (
            exact tk_round (k + 1) ⟨by omega, fun j hj' => by rcases Nat.lt_succ_iff_lt_or_eq.1 hj' with h | rfl; exact hj j h; simpa using hc⟩ (by omega) (.cons rfl (.cons rfl (.cons rfl (.cons rfl .nil)))) (fun _ h => h)))
      · try simp only [qn1, qn2, qn3, qn4, qn5, qn6, qn7, qn8] at hc
        all_goals refine tc_exit ?_; ((refine hK2 ?_; try (clear hK2; clear K2)))
        all_goals refine tc_seq fun K10 hK10 => ?_; refine tc_region ?_; refine tl_q (y_assign rfl) rfl ?_; refine tl_nil ?_; ((refine hK10 ?_; try (clear hK10; clear K10)))
        all_goals refine tc_ret ?_; (repeat (first | refine tk_then_ret ?_))
        all_goals (refine tk_ret rfl rfl (.cons (.tmp rfl) .nil) ?_)
        all_goals (
         first | exact fun w' hw' => ⟨by rw [idxR_hit (k := k) (by omega) (by simpa using hc) hj]; rfl, hw'.fr (by simp)⟩ | exact fun w' hw' => ⟨by rw [idxR_miss (fun j hjj => hj j (by omega))]; rfl, hw'.fr (by simp)⟩)))
theorem containsFuncO_c (g : FuncId) [GoFn Tryz.prog g] (first cap : Array Value) (p : Int × Int → Bool) (xs : List (Int × Int)) (hx : (xs.length : Int) ≤ 9000000000000000000) (sl : Value) (w : World) (hr : RdR w sl xs) (ht : TestsR Tryz.prog g first cap p w) :
    CnV Tryz.prog 134 #[sl, .func (.func g) first cap] w (.bool (xs.any p)) := by
  refine cnv (vs := [_, _]) Tryz.func134 rfl rfl ?_
  all_goals refine tc_seq fun K1 hK1 => ?_; refine tc_region ?_; refine tl_q (y_assign rfl) rfl ?_; refine tl_nil ?_; ((refine hK1 ?_; try (clear hK1; clear K1)))
  all_goals refine tc_seq fun K2 hK2 => ?_; refine tc_region ?_; refine tl_q (y_move rfl) rfl ?_; refine tl_q (y_move rfl) rfl ?_; refine tl_e (e_callV rfl (.cons rfl (.cons rfl .nil)) (fun w' hw' => indexFuncO_c g first cap p xs hx _ w' (hr.fr (hw'.fr (by simp))) (ht.fr (hw'.fr (by simp))))) rfl (fun _ _ => ?_); refine tl_q (y_geq rfl rfl) rfl ?_; refine tl_q (y_assign rfl) rfl ?_; refine tl_nil ?_; ((refine hK2 ?_; try (clear hK2; clear K2)))
  all_goals refine tc_ret ?_; (repeat (first | refine tk_then_ret ?_))
  all_goals (refine tk_ret rfl rfl (.cons (.tmp rfl) .nil) ?_)
  all_goals (
   exact fun w' hw' => ⟨by rw [← idxR_any]; rfl, hw'.fr (by simp)⟩)
theorem allO1_c (g : FuncId) [GoFn Tryz.prog g] (first cap : Array Value) (p : Int × Int → Bool) (x : Int × Int) (b : Nat) (w : World) (hb : w.cell? ⟨b, 0, none⟩ = some (.func (.func g) first cap)) (ht : TestsR Tryz.prog g first cap p w) :
    CnV Tryz.prog 135 #[rdV x, .pointer (some ⟨b, 0, none⟩)] w (.bool (!(p x))) := by
  refine cnv (vs := [_, _]) Tryz.func135 rfl rfl ?_
  all_goals refine tc_seq fun K1 hK1 => ?_; refine tc_region ?_; refine tl_e (e_box rfl rfl rfl) rfl (fun _ _ => ?_); refine tl_q (y_assign rfl) rfl ?_; refine tl_nil ?_; ((refine hK1 ?_; try (clear hK1; clear K1)))
  all_goals refine tc_seq fun K2 hK2 => ?_; refine tc_region ?_; refine tl_q (y_load1o rfl (fun w' hw' => (hw'.fr (S := []) (w0 := w) (by simp)).cell (by simp) hb)) rfl ?_; refine tl_q (y_loadW rfl (by repeat constructor) (by rfl)) rfl ?_; refine tl_e (e_callVf rfl rfl (.cons rfl .nil) (fun w' hw' => ht x w' (hw'.fr (by simp)))) rfl (fun _ _ => ?_); refine tl_q (y_not rfl) rfl ?_; refine tl_q (y_assign rfl) rfl ?_; refine tl_nil ?_; ((refine hK2 ?_; try (clear hK2; clear K2)))
  all_goals refine tc_ret ?_; (repeat (first | refine tk_then_ret ?_))
  all_goals (refine tk_ret rfl rfl (.cons (.tmp rfl) .nil) ?_)
  all_goals (
   exact fun w' hw' => ⟨rfl, hw'.fr (by simp)⟩)
theorem allO_c (g : FuncId) [GoFn Tryz.prog g] (first cap : Array Value) (p : Int × Int → Bool) (xs : List (Int × Int)) (hx : (xs.length : Int) ≤ 9000000000000000000) (sl : Value) (w : World) (hr : RdR w sl xs) (ht : TestsR Tryz.prog g first cap p w) :
    CnV Tryz.prog 85 #[sl, .func (.func g) first cap] w (.bool (xs.all p)) := by
  refine cnv (vs := [_, _]) Tryz.func85 rfl rfl ?_
  all_goals refine tc_seq fun K1 hK1 => ?_; refine tc_region ?_; refine tl_e (e_box rfl rfl rfl) rfl (fun b _ => ?_); refine tl_q (y_assign rfl) rfl ?_; refine tl_nil ?_; ((refine hK1 ?_; try (clear hK1; clear K1)))
  all_goals refine tc_seq fun K2 hK2 => ?_; refine tc_region ?_; refine tl_q (y_move rfl) rfl ?_; refine tl_q (y_fn .nil (.cons rfl .nil)) rfl ?_; refine tl_e (e_callV rfl (.cons rfl (.cons rfl .nil)) (fun w' hw' => containsFuncO_c 135 #[] #[.pointer (some ⟨b, 0, none⟩)] (fun x => !(p x)) xs hx _ w' (hr.fr (hw'.fr (by simp))) (fun x w2 f => by simpa using allO1_c g first cap p x b w2 (f.cell (by simp) (cellAt_cell? (hw'.heap _ (HM.mem (by repeat constructor))) rfl)) ((ht.fr (hw'.fr (by simp))).fr f)))) rfl (fun _ _ => ?_); refine tl_q (y_not rfl) rfl ?_; refine tl_q (y_assign rfl) rfl ?_; refine tl_nil ?_; ((refine hK2 ?_; try (clear hK2; clear K2)))
  all_goals refine tc_ret ?_; (repeat (first | refine tk_then_ret ?_))
  all_goals (refine tk_ret rfl rfl (.cons (.tmp rfl) .nil) ?_)
  all_goals (
   exact fun w' hw' => ⟨by simp [outV, List.all_eq_not_any_not], hw'.fr (by simp)⟩)
def offB (t : Tr) (x : Int × Int) : Bool := decide ((0 ≤ x.1 ∧ x.1 ≤ t.s.weights.length) ∧ (1 ≤ x.2 ∧ x.2 ≤ 2000))
theorem offer_c (t : Tr) (x : Int × Int) (sl pl ll tl : Value) (w : World) (hr : RdI w sl t.s.weights) : CnV Tryz.prog 84 #[trV t sl pl ll tl, rV x] w (.bool (offB t x)) := by
  refine cnv (vs := [_, _]) Tryz.func84 rfl rfl ?_
  all_goals refine tc_seq fun K1 hK1 => ?_; refine tc_region ?_; refine tl_e (e_box rfl rfl rfl) rfl (fun _ _ => ?_); refine tl_e (e_box rfl rfl rfl) rfl (fun _ _ => ?_); refine tl_q (y_assign rfl) rfl ?_; refine tl_nil ?_; ((refine hK1 ?_; try (clear hK1; clear K1)))
  all_goals refine tc_seq fun K2 hK2 => ?_; refine tc_region ?_; refine tl_q (y_loadW rfl (by repeat constructor) (by rfl)) rfl ?_; refine tl_q (y_field rfl) rfl ?_; refine tl_q (y_load1 rfl (by repeat constructor) (by rfl)) rfl ?_; refine tl_e (e_callV rfl (.cons rfl (.cons rfl .nil)) (fun w' hw' => tload_c t x.1 sl pl ll tl w' (hr.fr (hw'.fr (by simp))))) rfl (fun _ _ => ?_); refine tl_q (y_move rfl) rfl ?_; ((refine tl_gs rfl rfl (fun hc => ?_) (fun hc => ?_) <;> (try simp only [qn1, qn2, qn3, qn4, qn5, qn6, qn7, qn8] at hc) <;> (first | refine tl_sk rfl rfl rfl rfl ?_ | refine tl_qg rfl rfl (y_field rfl) rfl ?_)))
  all_goals (first | refine tl_sk rfl rfl rfl rfl ?_ | refine tl_qg rfl rfl (y_load1 rfl (by repeat constructor) (by rfl)) rfl ?_); (first | refine tl_sk rfl rfl rfl rfl ?_ | refine tl_eg rfl rfl rfl (e_callV rfl (.cons rfl (.cons rfl (.cons rfl .nil))) (fun w' _ => twithin_c _ _ _ w')) (fun _ _ => ?_)); (first | refine tl_q (y_pick_t rfl rfl) rfl ?_ | refine tl_q (y_pick_f rfl rfl) rfl ?_); refine tl_q (y_assign rfl) rfl ?_; refine tl_nil ?_; ((refine hK2 ?_; try (clear hK2; clear K2)))
  all_goals refine tc_ret ?_; (repeat (first | refine tk_then_ret ?_))
  all_goals (refine tk_ret rfl rfl (.cons (.tmp rfl) .nil) ?_)
  all_goals (
   refine fun w' hw' => ⟨?_, hw'.fr (by simp)⟩
   refine congrArg (fun b => Ending.returned (Value.bool b)) ?_
   unfold offB
   first
   | exact decide_eq_decide.2 (by omega)
   | exact (decide_eq_false (by omega)).symm)
/-- All that was known is known still, but for one block. -/
inductive AB (H : List (Nat × Obj)) (bm : Nat) : List (Nat × Obj) → Prop
  | nil : AB H bm []
  | old {b : Nat} {o : Obj} {r : List (Nat × Obj)} : HM b o H → AB H bm r → AB H bm ((b, o) :: r)
  | but {o : Obj} {r : List (Nat × Obj)} : AB H bm r → AB H bm ((bm, o) :: r)
theorem AB.mem {H : List (Nat × Obj)} {bm : Nat} {r : List (Nat × Obj)} (h : AB H bm r) : ∀ p ∈ r, p ∈ H ∨ p.1 = bm := by
  induction h with
  | nil => intro p hp; cases hp
  | old hm _ ih =>
    intro p hp
    rcases List.mem_cons.1 hp with rfl | hp
    · exact .inl hm.mem
    · exact ih p hp
  | but _ ih =>
    intro p hp
    rcases List.mem_cons.1 hp with rfl | hp
    · exact .inr rfl
    · exact ih p hp
theorem HG.calmM {bs bs0 : List (World × List Nat)} {H H0 : List (Nat × Obj)} {w w1 : World} (hw : HG bs H w) (h1 : HG bs0 H0 w1) {bm : Nat} (hb : (w1, H0.map Prod.fst) ∈ bs) (hs : AB H bm H0) : Fr [bm] w1 w :=
  let f := hw.base _ hb
  ⟨f.os, f.tape, f.output, f.size, fun k hk hn => by
    by_cases hm : k ∈ H0.map Prod.fst
    · obtain ⟨p, hp, rfl⟩ := List.mem_map.1 hm
      rcases hs.mem p hp with g | g
      · rw [hw.heap p g, h1.heap p hp]
      · exact absurd (by rw [g]; simp) hn
    · exact f.block k hk hm⟩
def alikeF (t : Tr) (a b : Int × Int × Int) (k d : Int) : Bool := decide (a = b) || (shownL t a k d).any fun x => decide (x ∈ shownL t b k d)
theorem alike1_c (l : List Int) (hl : (l.length : Int) ≤ 9000000000000000000) (d : Int) (v : Value) (b9 : Nat) (w : World) (hb : w.heap[b9]? = some (.cells #[v] 22 (0, 0))) (hr : RdI w v l) :
    CnV Tryz.prog 137 #[vi d, ptr b9] w (.bool (decide (d ∈ l))) := by
  refine cnv (vs := [_, _]) Tryz.func137 rfl rfl ?_
  all_goals refine tc_seq fun K1 hK1 => ?_; refine tc_region ?_; refine tl_q (y_assign rfl) rfl ?_; refine tl_nil ?_; ((refine hK1 ?_; try (clear hK1; clear K1)))
  all_goals refine tc_seq fun K2 hK2 => ?_; refine tc_region ?_; refine tl_q (y_load1o (v := v) rfl (fun w' hw' => cell0 ((hw'.fr (w0 := w) (S := []) (by simp)).keep hb) rfl)) rfl ?_; refine tl_q (y_move rfl) rfl ?_; refine tl_e (e_callV rfl (.cons rfl (.cons rfl .nil)) (fun w' hw' => contains_c l hl d v w' (hr.fr (hw'.fr (by simp))))) rfl (fun _ _ => ?_); refine tl_q (y_assign rfl) rfl ?_; refine tl_nil ?_; ((refine hK2 ?_; try (clear hK2; clear K2)))
  all_goals refine tc_ret ?_; (repeat (first | refine tk_then_ret ?_))
  all_goals (refine tk_ret rfl rfl (.cons (.tmp rfl) .nil) ?_)
  all_goals (
   exact fun w' hw' => ⟨rfl, hw'.fr (by simp)⟩)
theorem shown_len (t : Tr) (hv : VT t) (e : Int × Int × Int) (k d : Int) : (shownL t e k d).length ≤ 101 := by
  have h1 := hv.s.d1
  have h2 := hv.s.d2
  unfold shownL
  split
  · simp
  · have := shownN_len t e k d (t.s.divisions + 1).toNat
    omega
theorem alike_c (t : Tr) (hv : VT t) (a b : Int × Int × Int) (ha : ErB a) (hb : ErB b) (k d : Int) (sl pl ll tl : Value) (w : World) (bw bm : Nat) (es : Array MapEntry) (ck : Nat) (hT : TW w t sl pl ll tl bw bm es ck) :
    CnX Tryz.prog 87 #[ptr bw, tsV a, tsV b, .agg #[vi k, vi d]] w [bm] (fun _ : Array MapEntry × Nat => .bool (alikeF t a b k d)) (fun y w' => Cache (readV t.s) y.1.toList ∧ w'.heap[bm]? = some (.map y.1 y.2)) := by
  have hne := hT.ne
  have hla := shown_len t hv a k d
  have hlb := shown_len t hv b k d
  refine cnxS (vs := [_, _, _, _]) (S := [bw, bm]) [(bw, wkT t sl pl ll tl bm), (bm, .map es ck)] Tryz.func87 rfl rfl ⟨by simp [hT.hw, hT.hm], by simp [hne], by simp⟩ ?_
  all_goals refine tc_seq fun K1 hK1 => ?_; refine tc_region ?_; refine tl_e (e_box rfl rfl rfl) rfl (fun b5 _ => ?_); refine tl_e (e_box rfl rfl rfl) rfl (fun b6 _ => ?_); refine tl_e (e_box rfl rfl rfl) rfl (fun b7 _ => ?_); refine tl_q (y_assign rfl) rfl ?_; refine tl_nil ?_; ((refine hK1 ?_; try (clear hK1; clear K1)))
  all_goals refine tc_seq fun K2 hK2 => ?_; refine tc_seq fun K3 hK3 => ?_; refine tc_region ?_; refine tl_q (y_loadW rfl (by repeat constructor) (by rfl)) rfl ?_; refine tl_q (y_loadW rfl (by repeat constructor) (by rfl)) rfl ?_; refine tl_q (y_eqlA3 rfl rfl) rfl ?_; refine tl_nil ?_; ((refine hK3 ?_; try (clear hK3; clear K3)))
  all_goals (
   refine tc_cond rfl (fun hc => ?_) (fun hc => ?_)
   · try simp only [qn1, qn2, qn3, qn4, qn5, qn6, qn7, qn8] at hc
     all_goals refine tc_seq fun K4 hK4 => ?_; refine tc_region ?_; refine tl_q (y_assign rfl) rfl ?_; refine tl_nil ?_; ((refine hK4 ?_; try (clear hK4; clear K4)))
     all_goals refine tc_ret ?_; (repeat (refine tk_then_ret ?_))
     all_goals (refine tk_ret rfl rfl (.cons (.tmp rfl) .nil) ?_)
     all_goals (
      refine fun w' hw' => ?_
      have hb2 : Fr [bm] w w' := Fr.but (hw'.fr (w0 := w) (S := [bw, bm]) (by simp)) (by rw [hw'.heap (bw, wkT t sl pl ll tl bm) (HM.mem (by repeat constructor)), hT.hw])
      have hb1 := hw'.heap _ (HM.mem (b := bm) (by repeat constructor))
      first
      | (have hab : a = b := Prod.ext hc.1 (Prod.ext hc.2.1 hc.2.2)
         exact ⟨(es, ck), by unfold alikeF; rw [decide_eq_true hab, Bool.true_or]; rfl, hb2, hT.hc, hb1⟩)
      | (have hab : ¬ a = b := fun e => hc (by rw [e]; exact ⟨rfl, rfl, rfl⟩)
         exact ⟨(z.1.2.1, z.1.2.2), by unfold alikeF; rw [decide_eq_false hab, Bool.false_or]; rfl, hb2, hz.1.2, hb1⟩))
   · try simp only [qn1, qn2, qn3, qn4, qn5, qn6, qn7, qn8] at hc
     all_goals refine tc_skip ?_; ((refine hK2 ?_; try (clear hK2; clear K2)))
     all_goals refine tc_seq fun K5 hK5 => ?_; refine tc_region ?_; refine tl_q (y_move rfl) rfl ?_; refine tl_q (y_loadW rfl (by repeat constructor) (by rfl)) rfl ?_; refine tl_q (y_loadW rfl (by repeat constructor) (by rfl)) rfl ?_; refine tl_e (e_callUX rfl (.cons rfl (.cons rfl (.cons rfl .nil))) (fun w' hw' => shown_c t hv b hb k d sl pl ll tl w' bw bm es ck (hT.fr2 (hw'.fr (by simp)) (hw'.heap _ (HM.mem (by repeat constructor))) (hw'.heap _ (HM.mem (b := bm) (by repeat constructor))) hT.hc)) (fun _ => (by repeat constructor))) rfl (fun y hy => ?_); refine tl_e (e_alloc1 rfl) rfl (fun b9 _ => ?_); refine tl_e (e_store1 rfl rfl (by repeat constructor) (by repeat constructor) (by rfl) (by rfl)) rfl (fun _ _ => ?_); refine tl_nil ?_; ((refine hK5 ?_; try (clear hK5; clear K5)))
     all_goals refine tc_seq fun K6 hK6 => ?_; refine tc_region ?_; refine tl_q (y_move rfl) rfl ?_; refine tl_q (y_loadW rfl (by repeat constructor) (by rfl)) rfl ?_; refine tl_q (y_loadW rfl (by repeat constructor) (by rfl)) rfl ?_; refine tl_e (e_callUX rfl (.cons rfl (.cons rfl (.cons rfl .nil))) (fun w' hw' => shown_c t hv a ha k d sl pl ll tl w' bw bm y.1.2.1 y.1.2.2 (hT.fr2 (hw'.fr (w0 := w) (S := [bw, bm]) (by simp)) (hw'.heap _ (HM.mem (by repeat constructor))) (hw'.heap _ (HM.mem (b := bm) (by repeat constructor))) hy.1.2)) (fun _ => (by repeat constructor))) rfl (fun z hz => ?_); refine tl_q (y_fn .nil (.cons rfl .nil)) rfl ?_; (refine tl_e (e_callV rfl (.cons rfl (.cons rfl .nil)) (fun w' hw' => containsFunc_c 137 #[] #[ptr b9] (fun x => decide (x ∈ shownL t b k d)) (shownL t a k d) (by omega) _ w' (hz.1.1.fr (hw'.calm hz.2 (by simp) (List.Sublist.refl _))) (fun x w2 f => by simpa using alike1_c (shownL t b k d) (by omega) x _ b9 w2 (f.keep (hw'.heap _ (HM.mem (b := b9) (by repeat constructor)))) (Reads.frM hy.1.1 ((hw'.calmM hy.2 (bm := bm) MI.m (by (repeat (first | exact .nil | (refine AB.old ?_ ?_; (focus ((repeat constructor); done))) | refine AB.but ?_)); done)).trans f (by simp)) (fun q hq => by rw [List.mem_singleton.1 hq]; exact ⟨_, _, hy.2.heap _ (HM.mem (b := bm) (by repeat constructor))⟩))))) rfl (fun _ _ => ?_))
     all_goals refine tl_q (y_assign rfl) rfl ?_; refine tl_nil ?_; ((refine hK6 ?_; try (clear hK6; clear K6)))
     all_goals refine tc_ret ?_; (repeat (first | refine tk_then_ret ?_))
     all_goals (refine tk_ret rfl rfl (.cons (.tmp rfl) .nil) ?_)
     all_goals (
      refine fun w' hw' => ?_
      have hb2 : Fr [bm] w w' := Fr.but (hw'.fr (w0 := w) (S := [bw, bm]) (by simp)) (by rw [hw'.heap (bw, wkT t sl pl ll tl bm) (HM.mem (by repeat constructor)), hT.hw])
      have hb1 := hw'.heap _ (HM.mem (b := bm) (by repeat constructor))
      first
      | (have hab : a = b := Prod.ext hc.1 (Prod.ext hc.2.1 hc.2.2)
         exact ⟨(es, ck), by unfold alikeF; rw [decide_eq_true hab, Bool.true_or]; rfl, hb2, hT.hc, hb1⟩)
      | (have hab : ¬ a = b := fun e => hc (by rw [e]; exact ⟨rfl, rfl, rfl⟩)
         exact ⟨(z.1.2.1, z.1.2.2), by unfold alikeF; rw [decide_eq_false hab, Bool.false_or]; rfl, hb2, hz.1.2, hb1⟩)))
end Go.Sp
/-
  Package trial: the fewest offers that decide.
-/
namespace Go.Sp
open Go Go.Proofs
def fewP (ps : List (List Int)) (xs : List Int) : Bool := ps.all fun ap => ap.any fun i => decide (i ∈ xs)
theorem few1_c (l : List Int) (hl : (l.length : Int) ≤ 9000000000000000000) (d : Int) (v : Value) (b9 : Nat) (w : World) (hb : w.heap[b9]? = some (.cells #[v] 22 (0, 0))) (hr : RdI w v l) :
    CnV Tryz.prog 93 #[vi d, ptr b9] w (.bool (decide (d ∈ l))) := by
  refine cnv (vs := [_, _]) Tryz.func93 rfl rfl ?_
  all_goals refine tc_seq fun K1 hK1 => ?_
  all_goals refine tc_region ?_
  all_goals refine tl_q (y_assign rfl) rfl ?_
  all_goals refine tl_nil ?_
  all_goals (refine hK1 ?_; try (clear hK1; clear K1))
  all_goals refine tc_seq fun K2 hK2 => ?_
  all_goals refine tc_region ?_
  all_goals (first | refine tl_q (y_load1 rfl (by repeat constructor) (by rfl)) rfl ?_ | refine tl_q (y_load1o (v := v) rfl (fun w' hw' => cell0 ((hw'.fr (w0 := w) (S := []) (by simp)).keep hb) rfl)) rfl ?_)
  all_goals refine tl_q (y_move rfl) rfl ?_
  all_goals refine tl_e (e_callV rfl (.cons rfl (.cons rfl .nil)) (fun w' hw' => contains_c l hl d v w' (hr.fr (hw'.fr (by simp))))) rfl (fun _ _ => ?_)
  all_goals refine tl_q (y_assign rfl) rfl ?_
  all_goals refine tl_nil ?_
  all_goals (refine hK2 ?_; try (clear hK2; clear K2))
  all_goals refine tc_ret ?_
  all_goals (repeat (first | refine tk_then_ret ?_ | refine tk_block_ret ?_ | refine tk_scope_ret ?_))
  all_goals first | refine tk_ret rfl rfl (.cons (.tmp rfl) .nil) ?_ | refine tk_retM rfl (by repeat constructor) rfl (.cons (.tmp rfl) .nil) ?_
  all_goals (
   exact fun w' hw' => ⟨rfl, hw'.fr (by simp)⟩)
theorem few2_c (l : List Int) (hl : (l.length : Int) ≤ 9000000000000000000) (ap : List Int) (ha : (ap.length : Int) ≤ 9000000000000000000) (v u : Value) (b9 : Nat) (w : World) (hb : w.heap[b9]? = some (.cells #[v] 22 (0, 0))) (hr : RdI w v l) (hu : RdI w u ap) :
    CnV Tryz.prog 91 #[u, ptr b9] w (.bool (ap.any fun i => decide (i ∈ l))) := by
  refine cnv (vs := [_, _]) Tryz.func91 rfl rfl ?_
  all_goals refine tc_seq fun K1 hK1 => ?_
  all_goals refine tc_region ?_
  all_goals refine tl_q (y_assign rfl) rfl ?_
  all_goals refine tl_nil ?_
  all_goals (refine hK1 ?_; try (clear hK1; clear K1))
  all_goals refine tc_seq fun K2 hK2 => ?_
  all_goals refine tc_region ?_
  all_goals refine tl_q (y_move rfl) rfl ?_
  all_goals refine tl_q (y_fn .nil (.cons rfl .nil)) rfl ?_
  all_goals refine tl_e (e_callV rfl (.cons rfl (.cons rfl .nil)) (fun w' hw' => containsFunc_c 93 #[] #[ptr b9] (fun i => decide (i ∈ l)) ap ha u w' (hu.fr (hw'.fr (by simp))) (fun x w2 f => by simpa using few1_c l hl x v b9 w2 (f.keep ((hw'.fr (w0 := w) (S := []) (by simp)).keep hb)) ((hr.fr (hw'.fr (by simp))).fr f)))) rfl (fun _ _ => ?_)
  all_goals refine tl_q (y_assign rfl) rfl ?_
  all_goals refine tl_nil ?_
  all_goals (refine hK2 ?_; try (clear hK2; clear K2))
  all_goals refine tc_ret ?_
  all_goals (repeat (first | refine tk_then_ret ?_ | refine tk_block_ret ?_ | refine tk_scope_ret ?_))
  all_goals first | refine tk_ret rfl rfl (.cons (.tmp rfl) .nil) ?_ | refine tk_retM rfl (by repeat constructor) rfl (.cons (.tmp rfl) .nil) ?_
  all_goals (
   exact fun w' hw' => ⟨rfl, hw'.fr (by simp)⟩)
theorem few3_c (l : List Int) (hl : (l.length : Int) ≤ 9000000000000000000) (ps : List (List Int)) (hp : (ps.length : Int) ≤ 9000000000000000000) (hpa : ∀ ap ∈ ps, (ap.length : Int) ≤ 9000000000000000000) (v u : Value) (hv1 : v.oneCell' = true) (b13 : Nat) (w : World) (hb : w.heap[b13]? = some (.cells #[u] 54 (0, 0))) (hr : RdI w v l) (hu : RdLL w u ps) :
    CnV Tryz.prog 89 #[v, ptr b13] w (.bool (fewP ps l)) := by
  obtain ⟨vad, vcp, _, _, rfl, _, _⟩ := hr.open
  refine cnv (vs := [_, _]) Tryz.func89 rfl rfl ?_
  all_goals refine tc_seq fun K1 hK1 => ?_
  all_goals refine tc_region ?_
  all_goals refine tl_e (e_box rfl rfl rfl) rfl (fun b2 _ => ?_)
  all_goals refine tl_q (y_assign rfl) rfl ?_
  all_goals refine tl_nil ?_
  all_goals (refine hK1 ?_; try (clear hK1; clear K1))
  all_goals refine tc_seq fun K2 hK2 => ?_
  all_goals refine tc_region ?_
  all_goals (first | refine tl_q (y_load1 rfl (by repeat constructor) (by rfl)) rfl ?_ | refine tl_q (y_load1o (v := u) rfl (fun w' hw' => cell0 ((hw'.fr (w0 := w) (S := []) (by simp)).keep hb) rfl)) rfl ?_)
  all_goals refine tl_q (y_fn .nil (.cons rfl .nil)) rfl ?_
  all_goals refine tl_e (e_callV rfl (.cons rfl (.cons rfl .nil)) (fun w' hw' => allLL_c 91 #[] #[ptr b2] (fun ap => ap.any fun i => decide (i ∈ l)) ps hp u w' (hu.fr (hw'.fr (by simp))) (fun x ap w2 f hm hx => few2_c l hl ap (hpa ap hm) (.slice vad l.length vcp) x b2 w2 (f.keep (hw'.heap _ (HM.mem (b := b2) (by repeat constructor)))) ((hr.fr (hw'.fr (by simp))).fr f) hx))) rfl (fun _ _ => ?_)
  all_goals refine tl_q (y_assign rfl) rfl ?_
  all_goals refine tl_nil ?_
  all_goals (refine hK2 ?_; try (clear hK2; clear K2))
  all_goals refine tc_ret ?_
  all_goals (repeat (first | refine tk_then_ret ?_ | refine tk_block_ret ?_ | refine tk_scope_ret ?_))
  all_goals first | refine tk_ret rfl rfl (.cons (.tmp rfl) .nil) ?_ | refine tk_retM rfl (by repeat constructor) rfl (.cons (.tmp rfl) .nil) ?_
  all_goals (
   exact fun w' hw' => ⟨rfl, hw'.fr (by simp)⟩)
end Go.Sp
/-
  Package trial: the fewest offers that decide, walked.
-/
namespace Go.Sp
open Go Go.Proofs
abbrev E3 := Int × Int × Int
def apN (t : Tr) (l : List (Int × Int)) (a b : E3) (i : Nat) : List Int := ((List.range i).filter fun j => !alikeF t a b (l.getD j (0, 0)).1 (l.getD j (0, 0)).2).map fun (j : Nat) => (j : Int)
theorem apN_succ (t : Tr) (l : List (Int × Int)) (a b : E3) (i : Nat) : apN t l a b (i + 1) = if alikeF t a b (l.getD i (0, 0)).1 (l.getD i (0, 0)).2 = true then apN t l a b i else apN t l a b i ++ [(i : Int)] := by
  unfold apN
  rw [List.range_succ, List.filter_append, List.map_append]
  cases h : alikeF t a b (l.getD i (0, 0)).1 (l.getD i (0, 0)).2
  · rw [if_neg Bool.false_ne_true, List.filter_cons, if_pos (by rw [h]; rfl)]; rfl
  · rw [if_pos rfl, List.filter_cons, if_neg (by rw [h]; exact Bool.false_ne_true)]; simp
theorem apN_len (t : Tr) (l : List (Int × Int)) (a b : E3) (i : Nat) : (apN t l a b i).length ≤ i := by
  unfold apN
  rw [List.length_map]
  exact Nat.le_trans (List.length_filter_le _ _) (by simp)
def apL (t : Tr) (l : List (Int × Int)) (a b : E3) : List Int := apN t l a b l.length
/-- For each two truths that must be told apart: the offers that do. -/
def prs (t : Tr) (l : List (Int × Int)) (G B : List E3) (k m : Nat) : List (List Int) := ((G.take k).flatMap fun a => B.map fun b => apL t l a b) ++ (B.take m).map fun b => apL t l (G.getD k (0, 0, 0)) b
theorem prs_m {t : Tr} {l : List (Int × Int)} {G B : List E3} {k m : Nat} (h : m < B.length) : prs t l G B k (m + 1) = prs t l G B k m ++ [apL t l (G.getD k (0, 0, 0)) (B.getD m (0, 0, 0))] := by
  unfold prs
  rw [takeT_succ h, List.map_append, List.append_assoc]; rfl
theorem prs_k {t : Tr} {l : List (Int × Int)} {G B : List E3} {k : Nat} (h : k < G.length) : prs t l G B (k + 1) 0 = prs t l G B k B.length := by
  unfold prs
  rw [takeT_succ h, List.flatMap_append, List.take_length]; simp
theorem prs_len (t : Tr) (l : List (Int × Int)) (G B : List E3) {k m : Nat} (hk : k ≤ G.length) (hm : m ≤ B.length) : (prs t l G B k m).length = k * B.length + m := by
  have : ∀ (L : List E3), (L.flatMap fun a => B.map fun b => apL t l a b).length = L.length * B.length := fun L => by
    induction L with
    | nil => simp
    | cons a L ih => rw [List.flatMap_cons, List.length_append, ih, List.length_map, List.length_cons, Nat.add_mul]; omega
  unfold prs
  rw [List.length_append, this, List.length_map, List.length_take, List.length_take]
  rw [Nat.min_eq_left hk, Nat.min_eq_left hm]
theorem prod_bd : ∀ g : Fin 344, g.1 * (343 - g.1) ≤ 29412 := by decide +kernel
theorem prod_le {g b : Nat} (h : g + b ≤ 343) : g * b ≤ 29412 := Nat.le_trans (Nat.mul_le_mul_left _ (by omega : b ≤ 343 - g)) (prod_bd ⟨g, by omega⟩)
theorem two_len (p : E3 → Bool) (q : E3 → Bool) (hq : ∀ e, q e = !p e) : ∀ L : List E3, (L.filter p).length + (L.filter q).length = L.length := by
  intro L
  induction L with
  | nil => rfl
  | cons a L ih =>
    rw [List.filter_cons, List.filter_cons, hq a]
    cases h : p a
    · simp; omega
    · simp; omega
theorem prs_ap {t : Tr} {l : List (Int × Int)} {G B : List E3} {k m : Nat} {ap : List Int} (h : ap ∈ prs t l G B k m) : ap.length ≤ l.length := by
  unfold prs at h
  rcases List.mem_append.1 h with h | h
  · obtain ⟨a, _, h⟩ := List.mem_flatMap.1 h
    obtain ⟨b, _, rfl⟩ := List.mem_map.1 h
    exact apN_len t l a b l.length
  · obtain ⟨b, _, rfl⟩ := List.mem_map.1 h
    exact apN_len t l _ b l.length
def gdL (t : Tr) (tol : Int) : List E3 := (truthsL t []).filter (goodB t tol)
def bdL (t : Tr) (tol : Int) : List E3 := (truthsL t []).filter (badB t tol)
theorem gb_len {t : Tr} (hv : VT t) (tol : Int) : (gdL t tol).length + (bdL t tol).length ≤ 343 := by
  unfold gdL bdL
  rw [two_len (goodB t tol) (badB t tol) (fun _ => rfl)]
  exact Nat.le_trans (List.length_filter_le _ _) (every_len hv)
def pairsL (t : Tr) (tol : Int) (l : List (Int × Int)) : List (List Int) := prs t l (gdL t tol) (bdL t tol) (gdL t tol).length 0
def fewestE (t : Tr) (tol : Int) (l : List (Int × Int)) : List Int × Int :=
  if ¬ tolE t tol = 0 then ([], tolE t tol) else if 4 < l.length then ([], 3) else if l.all (offB t) = false then ([], 2) else if ¬ askedE t = 0 then ([], askedE t)
  else match searchT (fewP (pairsL t tol l)) l.length with
    | none => ([], 9)
    | some r => (r, 0)
theorem getD_memE {L : List E3} {k : Nat} (h : k < L.length) : L.getD k (0, 0, 0) ∈ L := by rw [List.getD_eq_getElem?_getD, List.getElem?_eq_getElem h]; exact List.getElem_mem h
theorem CnV.toX {P : Program} {f : FuncId} {args : Array Value} {w : World} {v : Value} {S : List Nat} {α : Type} {val : α → Value} {p : α → World → Prop} (h : CnV P f args w v) (x : α) (hv : val x = v) (hp : ∀ w', Fr [] w w' → p x w') : CnX P f args w S val p :=
  CnX.of ((CnV.out h).mono fun e w' he => ⟨x, by rw [he.1, hv], he.2.mono (fun y hy => by simp at hy), hp w' he.2⟩)
theorem few_pass (t : Tr) (ps : List (List Int)) (n : Nat) (hps : (ps.length : Int) ≤ 9000000000000000000) (hpa : ∀ ap ∈ ps, (ap.length : Int) ≤ 9000000000000000000) (b13 bm : Nat) (hne : b13 ≠ bm) (u : Value) (es : Array MapEntry) (ck : Nat) (w : World) (hb : w.heap[b13]? = some (.cells #[u] 54 (0, 0))) (hm : w.heap[bm]? = some (.map es ck)) (hu : RdLL w u ps) :
    Pass Tryz.prog 89 #[ptr b13] (fewP ps) n [bm] bm (fun o => o = .map es ck) w := by
  intro w1 o xs v f1 h1 hJ hx hsep hone hlen _
  have hc := few3_c xs (by omega) ps hps hpa v u hone b13 w1 (f1.keepS (by simpa using hne) hb) hx (hu.frM f1 ⟨_, _, hm⟩)
  exact CnV.toX (by simpa using hc) o rfl (fun w' f => ⟨hJ, f.keep h1⟩)
theorem ba_out {a b c d e : Nat} (h : ([a, b, c, d, e] : List Nat).Nodup) : b ∉ [a, c, d, e] := by
  simp only [List.nodup_cons, List.mem_cons, List.not_mem_nil, not_or, or_false] at h ⊢
  exact ⟨Ne.symm h.1.1, h.2.1.1, h.2.1.2.1, h.2.1.2.2⟩
set_option maxHeartbeats 4000000 in
theorem fewest_c (t : Tr) (hn : NT t) (tol : Int) (htol : tol ≤ 1000) (l : List (Int × Int)) (hl : (l.length : Int) ≤ 9000000000000000000) (sl pl ll tl lv : Value) (w : World) (hr : RdTr w t sl pl ll tl) (hL : RdR w lv l) :
    CnX Tryz.prog 31 #[trV t sl pl ll tl, vi tol, lv] w [] (fun y : Value => .tuple #[y, vi (fewestE t tol l).2]) (fun y w' => RdI w' y (fewestE t tol l).1) := by
  have hr0 := hr
  have hL0 := hL
  have hT : tolE t tol = 0 → VT t ∧ 0 ≤ tol := fun h => by
    unfold tolE at h
    split at h
    · omega
    · split at h
      · omega
      · exact ⟨chkT_0.1 (by omega), by omega⟩
  obtain ⟨adl, cpl, bl, ol, rfl, hadl, hcl⟩ := hL.open
  refine cnx0 (vs := [_, _, _]) Tryz.func31 rfl rfl ?_
  all_goals refine tc_seq fun K1 hK1 => ?_; refine tc_region ?_; refine tl_e (e_box rfl rfl rfl) rfl (fun b3 _ => ?_); refine tl_q (y_assign rfl) rfl ?_; refine tl_q (y_assign rfl) rfl ?_; refine tl_nil ?_; ((refine hK1 ?_; try (clear hK1; clear K1)))
  all_goals refine tc_seq fun K2 hK2 => ?_; refine tc_seq fun K3 hK3 => ?_; refine tc_lay ([]) (SB.s .nil) (fun wl1 hl1 => ?_); refine tc_region ?_; refine tl_q (y_loadWf rfl (hl1.at (by repeat constructor)) MI.m (by simp) (by rfl)) rfl ?_; refine tl_q (y_move rfl) rfl ?_; refine tl_e (e_callV rfl (.cons rfl (.cons rfl .nil)) (fun w' hw' => tolerant_c t hn tol sl pl ll tl w' (hr0.fr (hw'.fr (w0 := w) (S := []) MI.m)))) rfl (fun _ _ => ?_); refine tl_q (y_assign rfl) rfl ?_; refine tl_nil ?_; ((refine hK3 ?_; try (clear hK3; clear K3)))
  all_goals refine tc_seq fun K4 hK4 => ?_; refine tc_region ?_; refine tl_q (y_move rfl) rfl ?_; refine tl_q (y_neq rfl rfl) rfl ?_; refine tl_nil ?_; ((refine hK4 ?_; try (clear hK4; clear K4)))
  all_goals (
   refine tc_cond rfl (fun hc => ?_) (fun hc => ?_)
   · try simp only [qn1, qn2, qn3, qn4, qn5, qn6, qn7, qn8] at hc
     all_goals refine tc_seq fun K5 hK5 => ?_; refine tc_region ?_; refine tl_q (y_move rfl) rfl ?_; refine tl_q (y_assign rfl) rfl ?_; refine tl_q (y_assign rfl) rfl ?_; refine tl_nil ?_; ((refine hK5 ?_; try (clear hK5; clear K5)))
     all_goals refine tc_ret ?_; (repeat (refine tk_then_ret ?_))
     all_goals (refine tk_ret rfl rfl (.cons (.tmp rfl) (.cons (.tmp rfl) .nil)) ?_)
     all_goals (
      first
      | (have hE : fewestE t tol l = ([], tolE t tol) := if_pos (by assumption)
         rw [hE]; exact fun w' hw' => ⟨_, rfl, hw'.fr (w0 := w) (S := []) MI.m, RdI.nil _⟩)
      | (have hE : fewestE t tol l = ([], 3) := by unfold fewestE; rw [if_neg (by omega), if_pos (by omega)]
         rw [hE]; exact fun w' hw' => ⟨_, rfl, hw'.fr (w0 := w) (S := []) MI.m, RdI.nil _⟩)
      | (have hE : fewestE t tol l = ([], 2) := by unfold fewestE; rw [if_neg (by omega), if_neg (by omega), if_pos (by assumption)]
         rw [hE]; exact fun w' hw' => ⟨_, rfl, hw'.fr (w0 := w) (S := []) MI.m, RdI.nil _⟩)
      | (have hE : fewestE t tol l = ([], askedE t) := by unfold fewestE; rw [if_neg (by omega), if_neg (by omega), if_neg (by rw [hall]; exact Bool.noConfusion), if_pos hA]
         rw [hE]; exact fun w' hw' => ⟨_, rfl, hw'.fr (w0 := w) (S := []) MI.m, RdI.nil _⟩)
      | (have hE : fewestE t tol l = ([], 9) := by unfold fewestE; rw [if_neg (by omega), if_neg (by omega), if_neg (by rw [hall]; exact Bool.noConfusion), if_neg (by omega), hsr]
         rw [hE]; exact fun w' hw' => ⟨_, rfl, hw'.fr (w0 := w) (S := []) MI.m, RdI.nil _⟩)
      | (have hE : fewestE t tol l = (rs, 0) := by unfold fewestE; rw [if_neg (by omega), if_neg (by omega), if_neg (by rw [hall]; exact Bool.noConfusion), if_neg (by omega), hsr]
         rw [hE]; exact fun w' hw' => ⟨v.1.1, rfl, hw'.fr (w0 := w) (S := []) MI.m, hv3.2.2.fr (hw'.fr (w0 := v.2.2) (S := []) MI.m)⟩))
   · try simp only [qn1, qn2, qn3, qn4, qn5, qn6, qn7, qn8] at hc
     all_goals refine tc_skip ?_; ((refine hK2 ?_; try (clear hK2; clear K2)))
     all_goals refine tc_seq fun K6 hK6 => ?_; (obtain ⟨hv, ht0⟩ := hT (by omega))
     all_goals refine tc_region ?_; refine tl_q (y_loadWf rfl (hl1.at (by repeat constructor)) MI.m (by simp) (by rfl)) rfl ?_; refine tl_q (y_fn (.cons rfl .nil) .nil) rfl ?_; refine tl_q (y_assign rfl) rfl ?_; refine tl_nil ?_; ((refine hK6 ?_; try (clear hK6; clear K6)))
     all_goals refine tc_seq fun K7 hK7 => ?_; refine tc_block ?_; refine tc_seq fun K8 hK8 => ?_; refine tc_region ?_; refine tl_q (y_move rfl) rfl ?_; refine tl_q (y_len rfl) rfl ?_; refine tl_q (y_gtr rfl rfl) rfl ?_; refine tl_q (y_assign rfl) rfl ?_; refine tl_nil ?_; ((refine hK8 ?_; try (clear hK8; clear K8)))
     all_goals (
      refine tc_cond rfl (fun hc => ?_) (fun hc => ?_)
      · try simp only [qn1, qn2, qn3, qn4, qn5, qn6, qn7, qn8] at hc
        all_goals refine tc_seq fun K9 hK9 => ?_; refine tc_region ?_; refine tl_q (y_assign rfl) rfl ?_; refine tl_q (y_assign rfl) rfl ?_; refine tl_nil ?_; ((refine hK9 ?_; try (clear hK9; clear K9)))
        all_goals refine tc_ret ?_; (repeat (first | refine tk_then_ret ?_ | refine tk_block_ret ?_))
        all_goals (refine tk_ret rfl rfl (.cons (.tmp rfl) (.cons (.tmp rfl) .nil)) ?_)
        all_goals (
         first
         | (have hE : fewestE t tol l = ([], tolE t tol) := if_pos (by assumption)
            rw [hE]; exact fun w' hw' => ⟨_, rfl, hw'.fr (w0 := w) (S := []) MI.m, RdI.nil _⟩)
         | (have hE : fewestE t tol l = ([], 3) := by unfold fewestE; rw [if_neg (by omega), if_pos (by omega)]
            rw [hE]; exact fun w' hw' => ⟨_, rfl, hw'.fr (w0 := w) (S := []) MI.m, RdI.nil _⟩)
         | (have hE : fewestE t tol l = ([], 2) := by unfold fewestE; rw [if_neg (by omega), if_neg (by omega), if_pos (by assumption)]
            rw [hE]; exact fun w' hw' => ⟨_, rfl, hw'.fr (w0 := w) (S := []) MI.m, RdI.nil _⟩)
         | (have hE : fewestE t tol l = ([], askedE t) := by unfold fewestE; rw [if_neg (by omega), if_neg (by omega), if_neg (by rw [hall]; exact Bool.noConfusion), if_pos hA]
            rw [hE]; exact fun w' hw' => ⟨_, rfl, hw'.fr (w0 := w) (S := []) MI.m, RdI.nil _⟩)
         | (have hE : fewestE t tol l = ([], 9) := by unfold fewestE; rw [if_neg (by omega), if_neg (by omega), if_neg (by rw [hall]; exact Bool.noConfusion), if_neg (by omega), hsr]
            rw [hE]; exact fun w' hw' => ⟨_, rfl, hw'.fr (w0 := w) (S := []) MI.m, RdI.nil _⟩)
         | (have hE : fewestE t tol l = (rs, 0) := by unfold fewestE; rw [if_neg (by omega), if_neg (by omega), if_neg (by rw [hall]; exact Bool.noConfusion), if_neg (by omega), hsr]
            rw [hE]; exact fun w' hw' => ⟨v.1.1, rfl, hw'.fr (w0 := w) (S := []) MI.m, hv3.2.2.fr (hw'.fr (w0 := v.2.2) (S := []) MI.m)⟩))
      · try simp only [qn1, qn2, qn3, qn4, qn5, qn6, qn7, qn8] at hc
        all_goals refine tc_seq fun K10 hK10 => ?_; refine tc_region ?_; refine tl_q (y_move rfl) rfl ?_; refine tl_q (y_move rfl) rfl ?_; refine tl_e (e_callV rfl (.cons rfl (.cons rfl .nil)) (fun w' hw' => allO_c 84 #[trV t sl pl ll tl] #[] (offB t) l hl _ w' (hL0.fr (hw'.fr (w0 := w) (S := []) MI.m)) (fun x w2 f => offer_c t x sl pl ll tl w2 ((hr0.ws.fr (hw'.fr (w0 := w) (S := []) MI.m)).fr f)))) rfl (fun _ _ => ?_); refine tl_q (y_not rfl) rfl ?_; refine tl_q (y_assign rfl) rfl ?_; refine tl_nil ?_; ((refine hK10 ?_; try (clear hK10; clear K10)))
        all_goals (
         refine tc_cond rfl (fun hc => ?_) (fun hc => ?_)
         · try simp only [qn1, qn2, qn3, qn4, qn5, qn6, qn7, qn8] at hc
           all_goals refine tc_seq fun K11 hK11 => ?_; refine tc_region ?_; refine tl_q (y_assign rfl) rfl ?_; refine tl_q (y_assign rfl) rfl ?_; refine tl_nil ?_; ((refine hK11 ?_; try (clear hK11; clear K11)))
           all_goals refine tc_ret ?_; (repeat (first | refine tk_then_ret ?_ | refine tk_block_ret ?_))
           all_goals (refine tk_ret rfl rfl (.cons (.tmp rfl) (.cons (.tmp rfl) .nil)) ?_)
           all_goals (
            first
            | (have hE : fewestE t tol l = ([], tolE t tol) := if_pos (by assumption)
               rw [hE]; exact fun w' hw' => ⟨_, rfl, hw'.fr (w0 := w) (S := []) MI.m, RdI.nil _⟩)
            | (have hE : fewestE t tol l = ([], 3) := by unfold fewestE; rw [if_neg (by omega), if_pos (by omega)]
               rw [hE]; exact fun w' hw' => ⟨_, rfl, hw'.fr (w0 := w) (S := []) MI.m, RdI.nil _⟩)
            | (have hE : fewestE t tol l = ([], 2) := by unfold fewestE; rw [if_neg (by omega), if_neg (by omega), if_pos (by assumption)]
               rw [hE]; exact fun w' hw' => ⟨_, rfl, hw'.fr (w0 := w) (S := []) MI.m, RdI.nil _⟩)
            | (have hE : fewestE t tol l = ([], askedE t) := by unfold fewestE; rw [if_neg (by omega), if_neg (by omega), if_neg (by rw [hall]; exact Bool.noConfusion), if_pos hA]
               rw [hE]; exact fun w' hw' => ⟨_, rfl, hw'.fr (w0 := w) (S := []) MI.m, RdI.nil _⟩)
            | (have hE : fewestE t tol l = ([], 9) := by unfold fewestE; rw [if_neg (by omega), if_neg (by omega), if_neg (by rw [hall]; exact Bool.noConfusion), if_neg (by omega), hsr]
               rw [hE]; exact fun w' hw' => ⟨_, rfl, hw'.fr (w0 := w) (S := []) MI.m, RdI.nil _⟩)
            | (have hE : fewestE t tol l = (rs, 0) := by unfold fewestE; rw [if_neg (by omega), if_neg (by omega), if_neg (by rw [hall]; exact Bool.noConfusion), if_neg (by omega), hsr]
               rw [hE]; exact fun w' hw' => ⟨v.1.1, rfl, hw'.fr (w0 := w) (S := []) MI.m, hv3.2.2.fr (hw'.fr (w0 := v.2.2) (S := []) MI.m)⟩))
         · try simp only [qn1, qn2, qn3, qn4, qn5, qn6, qn7, qn8] at hc
           all_goals refine tc_skip ?_; ((refine hK7 ?_; try (clear hK7; clear K7)))
           all_goals refine tc_seq fun K12 hK12 => ?_; (have hall : l.all (offB t) = true := by assumption)
           all_goals (have hgbl := gb_len hv tol)
           all_goals rcases Decidable.em (askedE t = 0) with hA | hA
           all_goals refine tc_region ?_; refine tl_q (y_loadWf rfl (hl1.at (by repeat constructor)) MI.m (by simp) (by rfl)) rfl ?_; (first | refine tl_e (e_callBX (bk := fun y : (Nat × Nat) × (Option Addr × Nat) × Array MapEntry × Nat => y.1.2) (ob := fun y => .map y.2.2.1 y.2.2.2) rfl (.cons rfl .nil) (fun w' hw' => asked_ok t hn hA sl pl ll tl w' (hr0.fr (hw'.fr (w0 := w) (S := []) MI.m)))) rfl (fun y hy => ?_) | refine tl_e (e_callV rfl (.cons rfl .nil) (fun w' hw' => asked_no t hn hA sl pl ll tl w' (hr0.fr (hw'.fr (w0 := w) (S := []) MI.m)))) rfl (fun y hy => ?_)); refine tl_q (y_move rfl) rfl ?_; refine tl_q (y_extract rfl rfl) rfl ?_; refine tl_q (y_extract rfl rfl) rfl ?_; refine tl_q (y_extract rfl rfl) rfl ?_; refine tl_q (y_assign rfl) rfl ?_; refine tl_q (y_assign rfl) rfl ?_; refine tl_q (y_assign rfl) rfl ?_; refine tl_nil ?_; ((refine hK12 ?_; try (clear hK12; clear K12)))
           all_goals refine tc_seq fun K13 hK13 => ?_; refine tc_seq fun K14 hK14 => ?_; refine tc_region ?_; refine tl_q (y_move rfl) rfl ?_; refine tl_q (y_neq rfl rfl) rfl ?_; refine tl_nil ?_; ((refine hK14 ?_; try (clear hK14; clear K14)))
           all_goals (
            refine tc_cond rfl (fun hc => ?_) (fun hc => ?_)
            · try simp only [qn1, qn2, qn3, qn4, qn5, qn6, qn7, qn8] at hc
              all_goals refine tc_seq fun K15 hK15 => ?_; refine tc_region ?_; refine tl_q (y_move rfl) rfl ?_; refine tl_q (y_assign rfl) rfl ?_; refine tl_q (y_assign rfl) rfl ?_; refine tl_nil ?_; ((refine hK15 ?_; try (clear hK15; clear K15)))
              all_goals refine tc_ret ?_; (repeat (refine tk_then_ret ?_))
              all_goals (refine tk_ret rfl rfl (.cons (.tmp rfl) (.cons (.tmp rfl) .nil)) ?_)
              all_goals (
               first
               | (have hE : fewestE t tol l = ([], tolE t tol) := if_pos (by assumption)
                  rw [hE]; exact fun w' hw' => ⟨_, rfl, hw'.fr (w0 := w) (S := []) MI.m, RdI.nil _⟩)
               | (have hE : fewestE t tol l = ([], 3) := by unfold fewestE; rw [if_neg (by omega), if_pos (by omega)]
                  rw [hE]; exact fun w' hw' => ⟨_, rfl, hw'.fr (w0 := w) (S := []) MI.m, RdI.nil _⟩)
               | (have hE : fewestE t tol l = ([], 2) := by unfold fewestE; rw [if_neg (by omega), if_neg (by omega), if_pos (by assumption)]
                  rw [hE]; exact fun w' hw' => ⟨_, rfl, hw'.fr (w0 := w) (S := []) MI.m, RdI.nil _⟩)
               | (have hE : fewestE t tol l = ([], askedE t) := by unfold fewestE; rw [if_neg (by omega), if_neg (by omega), if_neg (by rw [hall]; exact Bool.noConfusion), if_pos hA]
                  rw [hE]; exact fun w' hw' => ⟨_, rfl, hw'.fr (w0 := w) (S := []) MI.m, RdI.nil _⟩)
               | (have hE : fewestE t tol l = ([], 9) := by unfold fewestE; rw [if_neg (by omega), if_neg (by omega), if_neg (by rw [hall]; exact Bool.noConfusion), if_neg (by omega), hsr]
                  rw [hE]; exact fun w' hw' => ⟨_, rfl, hw'.fr (w0 := w) (S := []) MI.m, RdI.nil _⟩)
               | (have hE : fewestE t tol l = (rs, 0) := by unfold fewestE; rw [if_neg (by omega), if_neg (by omega), if_neg (by rw [hall]; exact Bool.noConfusion), if_neg (by omega), hsr]
                  rw [hE]; exact fun w' hw' => ⟨v.1.1, rfl, hw'.fr (w0 := w) (S := []) MI.m, hv3.2.2.fr (hw'.fr (w0 := v.2.2) (S := []) MI.m)⟩))
            · try simp only [qn1, qn2, qn3, qn4, qn5, qn6, qn7, qn8] at hc
              all_goals ((first | (exfalso; omega) | skip))
              all_goals refine tc_skip ?_; ((refine hK13 ?_; try (clear hK13; clear K13)))
              all_goals refine tc_seq fun K16 hK16 => ?_; (have hTW : TW y.2 t sl pl ll tl y.1.1.1 y.1.1.2 y.1.2.2.1 y.1.2.2.2 := ⟨hr0.fr (hy.2.fr (w0 := w) (S := []) MI.m), hy.1.2.2.1, hy.2.heap _ (HM.mem (by repeat constructor)), hy.1.2.1, hr0.ws.one, hr0.ps.one, hr0.ls.one, hr0.ts.one⟩)
              all_goals ((have hrdT : ∀ w', Fr [y.1.1.2] y.2 w' → RdT w' (slV (truthsL t []).length y.1.2.1) (truthsL t []) := fun w' f => Reads.frM hy.1.1 f (fun z hz => by obtain rfl := List.mem_singleton.1 hz; exact ⟨_, _, hy.2.heap _ (HM.mem .head)⟩)))
              all_goals (have htl : (truthsL t []).length ≤ 343 := Nat.le_trans (List.length_filter_le _ _) (every_len hv))
              all_goals refine tc_region ?_; refine tl_e (e_alloc1 rfl) rfl (fun b13 _ => ?_); refine tl_nil ?_; ((refine hK16 ?_; try (clear hK16; clear K16)))
              all_goals refine tc_seq fun K17 hK17 => ?_; refine tc_region ?_; refine tl_q (y_loadWf rfl (hl1.at (by repeat constructor)) MI.m (by simp) (by rfl)) rfl ?_; refine tl_q (y_move rfl) rfl ?_; refine tl_q (y_move rfl) rfl ?_; (refine tl_e (e_callX rfl (.cons rfl (.cons rfl (.cons rfl .nil))) (fun w' hw' => ((split_c t hv (truthsL t []) htl (fun e he => truths_bd hv he) tol ⟨ht0, htol⟩ sl pl ll tl _ w' (hr0.fr (hw'.fr (w0 := w) (S := []) MI.m)) (hrdT w' (hw'.fr (w0 := y.2) (S := [y.1.1.2]) MI.m))).weak (p' := fun (z : (Option Addr × Nat) × (Option Addr × Nat)) (w2 : World) => (RdT w2 (slV (gdL t tol).length z.1) (gdL t tol) ∧ RdT w2 (slV (bdL t tol).length z.2) (bdL t tol)) ∧ sepS (slV (gdL t tol).length z.1) [b13, y.1.1.2] ∧ sepS (slV (bdL t tol).length z.2) [b13, y.1.1.2]) (fun z w2 _ h => ⟨h.1, (fun p m c e hb => by have h1 := h.2.1 p m c e; have h2 := hw'.lt (HM.mem (b := b13) (by repeat constructor)); have h3 := hw'.lt (HM.mem (b := y.1.1.2) (by repeat constructor)); simp only [List.mem_cons, List.not_mem_nil, or_false] at hb; omega), (fun p m c e hb => by have h1 := h.2.2 p m c e; have h2 := hw'.lt (HM.mem (b := b13) (by repeat constructor)); have h3 := hw'.lt (HM.mem (b := y.1.1.2) (by repeat constructor)); simp only [List.mem_cons, List.not_mem_nil, or_false] at hb; omega)⟩)))) rfl (fun z hz => ?_))
              all_goals refine tl_q (y_move rfl) rfl ?_; refine tl_q (y_extract rfl rfl) rfl ?_; refine tl_q (y_extract rfl rfl) rfl ?_; refine tl_q (y_assign rfl) rfl ?_; refine tl_q (y_assign rfl) rfl ?_; refine tl_nil ?_; ((refine hK17 ?_; try (clear hK17; clear K17)))
              all_goals refine tc_seq fun K18 hK18 => ?_; refine tc_seq fun K19 hK19 => ?_; refine tc_region ?_; refine tl_q (y_move rfl) rfl ?_; refine tl_q (y_len rfl) rfl ?_; refine tl_q (y_move rfl) rfl ?_; refine tl_nil ?_; ((refine hK19 ?_; try (clear hK19; clear K19)))
              all_goals refine tc_block ?_
              all_goals (
               refine tc_loop (fun p : Nat × Option (Nat × Nat × List Value) × List Value × (World × List Nat) × (Array MapEntry × Nat) => p.1 ≤ (gdL t tol).length ∧ outOk ((prs t l (gdL t tol) (bdL t tol) p.1 0).length, p.2.1) ∧ InV p.2.2.2.1.1 p.2.2.2.1.2 p.2.2.1 (prs t l (gdL t tol) (bdL t tol) p.1 0) ∧ Cache (readV t.s) p.2.2.2.2.1.toList) (fun p => [(2, .slice adl l.length cpl), (10, ptr y.1.1.1), (13, ptr b13), (15, slV (bdL t tol).length z.1.2), (58, slV (gdL t tol).length z.1.1), (59, vi (gdL t tol).length), (60, vi p.1)]) (fun p => [(p.2.2.2.1.1, p.2.2.2.1.2), (z.2, [b13, y.1.1.2]), (y.2, [y.1.1.2]), (w, [])]) (fun p => (b13, .cells #[outV' ((prs t l (gdL t tol) (bdL t tol) p.1 0).length, p.2.1)] 54 (0, 0)) :: (y.1.1.2, .map p.2.2.2.2.1 p.2.2.2.2.2) :: slH 22 p.2.2.1 p.2.1) (fun p => (gdL t tol).length - p.1) ?_ ?_
               · exact tk_start (0, none, [], (z.2, [b13, y.1.1.2]), (y.1.2.2.1, y.1.2.2.2)) ⟨Nat.zero_le _, rfl, InV.nil, hy.1.2.1⟩ (.cons rfl (.cons rfl (.cons rfl (.cons rfl (.cons rfl (.cons rfl (.cons rfl .nil))))))) (fun _ h => h.sub (fun β hβ => by simp only [List.mem_cons, List.not_mem_nil, or_false] at hβ; rcases hβ with rfl | rfl | rfl | rfl <;> simp) SB.s)
               · rintro ⟨k, oo, vs, ⟨wl, S⟩, ⟨es2, ck2⟩⟩ ⟨hk, hok, hin, hca⟩
                 dsimp only at hk hok hin hca ⊢
                 all_goals refine tc_seq fun K20 hK20 => ?_; refine tc_region ?_; refine tl_q (y_lss rfl rfl) rfl ?_; refine tl_nil ?_; ((refine hK20 ?_; try (clear hK20; clear K20)))
                 all_goals refine tc_seq fun K21 hK21 => ?_
                 all_goals (
                  refine tc_cond rfl (fun hc => ?_) (fun hc => ?_)
                  · try simp only [qn1, qn2, qn3, qn4, qn5, qn6, qn7, qn8] at hc
                    all_goals refine tc_skip ?_; ((refine hK21 ?_; try (clear hK21; clear K21)))
                    all_goals refine tc_seq fun K22 hK22 => ?_; refine tc_block ?_; refine tc_seq fun K23 hK23 => ?_; (have hGr : ∀ w', Fr [b13, y.1.1.2] z.2 w' → RdT w' (slV (gdL t tol).length z.1.1) (gdL t tol) := fun w' f => Reads.frS hz.1.1.1 f hz.1.2.1)
                    all_goals (obtain ⟨bG, oG, hadG⟩ := hz.1.1.1.opens1)
                    all_goals (have hadG' := hadG (by omega))
                    all_goals (have hae : ErB ((gdL t tol).getD k (0, 0, 0)) := truths_bd hv (List.mem_filter.1 (getD_memE (L := (gdL t tol)) (k := k) (by omega))).1)
                    all_goals refine tc_region ?_; refine tl_q (y_index rfl rfl (by omega) hadG') rfl ?_; ((refine tl_q (y_loadNo (n := 3) (vs := [vi ((gdL t tol).getD k (0, 0, 0)).1, vi ((gdL t tol).getD k (0, 0, 0)).2.1, vi ((gdL t tol).getD k (0, 0, 0)).2.2]) rfl (fun w' hw' => by rw [show Int.toNat (k : Int) * 3 = k * 3 from by omega]; exact (hGr w' (hw'.fr (w0 := z.2) (S := [b13, y.1.1.2]) MI.m)).at1 hadG' (by omega))) rfl ?_))
                    all_goals refine tl_e (e_allocN rfl) rfl (fun b17 _ => ?_); refine tl_e (e_storeW rfl rfl (by repeat constructor) (by rfl) (by rfl) (by simp [Value.oneCell'])) rfl (fun _ _ => ?_); refine tl_nil ?_; ((refine hK23 ?_; try (clear hK23; clear K23)))
                    all_goals refine tc_seq fun K24 hK24 => ?_; refine tc_region ?_; refine tl_q (y_move rfl) rfl ?_; refine tl_q (y_len rfl) rfl ?_; refine tl_q (y_move rfl) rfl ?_; refine tl_nil ?_; ((refine hK24 ?_; try (clear hK24; clear K24)))
                    all_goals refine tc_block ?_
                    all_goals (
                     refine tc_loop (fun p : Nat × Option (Nat × Nat × List Value) × List Value × (World × List Nat) × (Array MapEntry × Nat) => p.1 ≤ (bdL t tol).length ∧ outOk ((prs t l (gdL t tol) (bdL t tol) k p.1).length, p.2.1) ∧ InV p.2.2.2.1.1 p.2.2.2.1.2 p.2.2.1 (prs t l (gdL t tol) (bdL t tol) k p.1) ∧ Cache (readV t.s) p.2.2.2.2.1.toList) (fun p => [(2, .slice adl l.length cpl), (10, ptr y.1.1.1), (13, ptr b13), (15, slV (bdL t tol).length z.1.2), (58, slV (gdL t tol).length z.1.1), (59, vi (gdL t tol).length), (60, vi k), (17, ptr b17), (64, slV (bdL t tol).length z.1.2), (65, vi (bdL t tol).length), (66, vi p.1)]) (fun p => [(p.2.2.2.1.1, p.2.2.2.1.2), (z.2, [b13, y.1.1.2]), (y.2, [y.1.1.2]), (w, [])]) (fun p => (b17, Obj.cells #[vi ((gdL t tol).getD k (0, 0, 0)).1, vi ((gdL t tol).getD k (0, 0, 0)).2.1, vi ((gdL t tol).getD k (0, 0, 0)).2.2] 126 (0, 0)) :: (b13, .cells #[outV' ((prs t l (gdL t tol) (bdL t tol) k p.1).length, p.2.1)] 54 (0, 0)) :: (y.1.1.2, .map p.2.2.2.2.1 p.2.2.2.2.2) :: slH 22 p.2.2.1 p.2.1) (fun p => (bdL t tol).length - p.1) ?_ ?_
                     · exact tk_start (0, oo, vs, (wl, S), (es2, ck2)) ⟨Nat.zero_le _, hok, hin, hca⟩ (.cons rfl (.cons rfl (.cons rfl (.cons rfl (.cons rfl (.cons rfl (.cons rfl (.cons rfl (.cons rfl (.cons rfl (.cons rfl .nil))))))))))) (fun _ h => h.subl SB.s SB.s)
                     · rintro ⟨m, oo1, vs1, ⟨wl1, S1⟩, ⟨es3, ck3⟩⟩ ⟨hm, hok1, hin1, hca1⟩
                       dsimp only at hm hok1 hin1 hca1 ⊢
                       all_goals refine tc_seq fun K25 hK25 => ?_; refine tc_region ?_; refine tl_q (y_lss rfl rfl) rfl ?_; refine tl_nil ?_; ((refine hK25 ?_; try (clear hK25; clear K25)))
                       all_goals refine tc_seq fun K26 hK26 => ?_
                       all_goals (
                        refine tc_cond rfl (fun hc => ?_) (fun hc => ?_)
                        · try simp only [qn1, qn2, qn3, qn4, qn5, qn6, qn7, qn8] at hc
                          all_goals refine tc_skip ?_; ((refine hK26 ?_; try (clear hK26; clear K26)))
                          all_goals refine tc_seq fun K27 hK27 => ?_; refine tc_block ?_; refine tc_seq fun K28 hK28 => ?_; (have hBr : ∀ w', Fr [b13, y.1.1.2] z.2 w' → RdT w' (slV (bdL t tol).length z.1.2) (bdL t tol) := fun w' f => Reads.frS hz.1.1.2 f hz.1.2.2)
                          all_goals (obtain ⟨bB, oB, hadB⟩ := hz.1.1.2.opens1)
                          all_goals (have hadB' := hadB (by omega))
                          all_goals (have hbe : ErB ((bdL t tol).getD m (0, 0, 0)) := truths_bd hv (List.mem_filter.1 (getD_memE (L := (bdL t tol)) (k := m) (by omega))).1)
                          all_goals refine tc_region ?_; refine tl_q (y_index rfl rfl (by omega) hadB') rfl ?_; ((refine tl_q (y_loadNo (n := 3) (vs := [vi ((bdL t tol).getD m (0, 0, 0)).1, vi ((bdL t tol).getD m (0, 0, 0)).2.1, vi ((bdL t tol).getD m (0, 0, 0)).2.2]) rfl (fun w' hw' => by rw [show Int.toNat (m : Int) * 3 = m * 3 from by omega]; exact (hBr w' (hw'.fr (w0 := z.2) (S := [b13, y.1.1.2]) MI.m)).at1 hadB' (by omega))) rfl ?_))
                          all_goals refine tl_e (e_allocN rfl) rfl (fun b19 _ => ?_); refine tl_e (e_storeW rfl rfl (by repeat constructor) (by rfl) (by rfl) (by simp [Value.oneCell'])) rfl (fun _ _ => ?_); refine tl_nil ?_; ((refine hK28 ?_; try (clear hK28; clear K28)))
                          all_goals refine tc_seq fun K29 hK29 => ?_; refine tc_region ?_; refine tl_q (y_assign rfl) rfl ?_; refine tl_nil ?_; ((refine hK29 ?_; try (clear hK29; clear K29)))
                          all_goals refine tc_seq fun K30 hK30 => ?_; refine tc_seq fun K31 hK31 => ?_; refine tc_region ?_; refine tl_q (y_move rfl) rfl ?_; refine tl_q (y_len rfl) rfl ?_; refine tl_q (y_move rfl) rfl ?_; refine tl_nil ?_; ((refine hK31 ?_; try (clear hK31; clear K31)))
                          all_goals refine tc_block ?_
                          all_goals (
                           refine tc_loop (fun p : Nat × Option (Nat × Nat × List Value) × (Array MapEntry × Nat) => p.1 ≤ l.length ∧ outOk ((apN t l ((gdL t tol).getD k (0, 0, 0)) ((bdL t tol).getD m (0, 0, 0)) p.1).length, p.2.1) ∧ Cache (readV t.s) p.2.2.1.toList) (fun p => [(2, .slice adl l.length cpl), (10, ptr y.1.1.1), (13, ptr b13), (15, slV (bdL t tol).length z.1.2), (58, slV (gdL t tol).length z.1.1), (59, vi (gdL t tol).length), (60, vi k), (17, ptr b17), (64, slV (bdL t tol).length z.1.2), (65, vi (bdL t tol).length), (66, vi m), (19, ptr b19), (20, outV' ((apN t l ((gdL t tol).getD k (0, 0, 0)) ((bdL t tol).getD m (0, 0, 0)) p.1).length, p.2.1)), (70, .slice adl l.length cpl), (71, vi l.length), (72, vi p.1)]) (fun p => [(wl1, S1), (z.2, [b13, y.1.1.2]), (y.2, [y.1.1.2]), (w, [])]) (fun p => slH 3 ((apN t l ((gdL t tol).getD k (0, 0, 0)) ((bdL t tol).getD m (0, 0, 0)) p.1).map vi) p.2.1 ++ ((b19, Obj.cells #[vi ((bdL t tol).getD m (0, 0, 0)).1, vi ((bdL t tol).getD m (0, 0, 0)).2.1, vi ((bdL t tol).getD m (0, 0, 0)).2.2] 126 (0, 0)) :: (b17, Obj.cells #[vi ((gdL t tol).getD k (0, 0, 0)).1, vi ((gdL t tol).getD k (0, 0, 0)).2.1, vi ((gdL t tol).getD k (0, 0, 0)).2.2] 126 (0, 0)) :: (b13, .cells #[outV' ((prs t l (gdL t tol) (bdL t tol) k m).length, oo1)] 54 (0, 0)) :: (y.1.1.2, .map p.2.2.1 p.2.2.2) :: slH 22 vs1 oo1)) (fun p => l.length - p.1) ?_ ?_
                           · exact tk_start (0, none, (es3, ck3)) ⟨Nat.zero_le _, rfl, hca1⟩ (.cons rfl (.cons rfl (.cons rfl (.cons rfl (.cons rfl (.cons rfl (.cons rfl (.cons rfl (.cons rfl (.cons rfl (.cons rfl (.cons rfl (.cons rfl (.cons rfl (.cons rfl (.cons rfl .nil)))))))))))))))) (fun _ h => h.subl SB.s SB.s)
                           · rintro ⟨i, oa, ⟨es4, ck4⟩⟩ ⟨hi, hoa, hca4⟩
                             have hal := apN_len t l ((gdL t tol).getD k (0, 0, 0)) ((bdL t tol).getD m (0, 0, 0)) i
                             rcases oa with _ | ⟨ba, capa, junka⟩
                             all_goals ((dsimp only [outOk] at hi hoa hca4; dsimp only [slH_none, slH_some, List.cons_append, List.nil_append]; dsimp only [outV']))
                             all_goals refine tc_seq fun K32 hK32 => ?_; refine tc_region ?_; refine tl_q (y_lss rfl rfl) rfl ?_; refine tl_nil ?_; ((refine hK32 ?_; try (clear hK32; clear K32)))
                             all_goals refine tc_seq fun K33 hK33 => ?_
                             all_goals (
                              refine tc_cond rfl (fun hc => ?_) (fun hc => ?_)
                              · try simp only [qn1, qn2, qn3, qn4, qn5, qn6, qn7, qn8] at hc
                                all_goals refine tc_skip ?_; ((refine hK33 ?_; try (clear hK33; clear K33)))
                                all_goals refine tc_seq fun K34 hK34 => ?_; refine tc_block ?_; refine tc_seq fun K35 hK35 => ?_; have hadl' := hadl (by omega)
                                all_goals refine tc_region ?_; refine tl_q (y_move rfl) rfl ?_; refine tl_q (y_index rfl rfl (by omega) hadl') rfl ?_; ((refine tl_q (y_loadNo (n := 2) (vs := [vi (l.getD i (0, 0)).1, vi (l.getD i (0, 0)).2]) rfl (fun w' hw' => by rw [show Int.toNat (i : Int) * 2 = i * 2 from by omega]; exact hcl w' [] (hw'.fr (w0 := w) (S := []) MI.m) (by simp) i (by omega))) rfl ?_))
                                all_goals refine tl_e (e_allocN rfl) rfl (fun b22 _ => ?_); refine tl_q (y_assign rfl) rfl ?_; refine tl_e (e_storeW rfl rfl (by repeat constructor) (by rfl) (by rfl) (by simp [Value.oneCell'])) rfl (fun _ _ => ?_); refine tl_nil ?_; ((refine hK35 ?_; try (clear hK35; clear K35)))
                                all_goals refine tc_seq fun K36 hK36 => ?_; refine tc_region ?_; refine tl_q (y_move rfl) rfl ?_; refine tl_q (y_loadW rfl (by repeat constructor) (by rfl)) rfl ?_; refine tl_q (y_loadW rfl (by repeat constructor) (by rfl)) rfl ?_; refine tl_q (y_loadW rfl (by repeat constructor) (by rfl)) rfl ?_; refine tl_e (e_callU rfl (.cons rfl (.cons rfl (.cons rfl (.cons rfl .nil)))) (fun w' hw' => alike_c t hv ((gdL t tol).getD k (0, 0, 0)) ((bdL t tol).getD m (0, 0, 0)) hae hbe (l.getD i (0, 0)).1 (l.getD i (0, 0)).2 sl pl ll tl w' y.1.1.1 y.1.1.2 es4 ck4 (hTW.fr (hw'.fr (w0 := y.2) (S := [y.1.1.2]) MI.m) (hw'.heap _ (HM.mem (by repeat constructor))) hca4)) (fun _ => (by repeat constructor))) rfl (fun q hq => ?_); refine tl_q (y_not rfl) rfl ?_; refine tl_nil ?_; ((refine hK36 ?_; try (clear hK36; clear K36)))
                                all_goals (
                                 refine tc_cond rfl (fun hc => ?_) (fun hc => ?_)
                                 · try simp only [qn1, qn2, qn3, qn4, qn5, qn6, qn7, qn8] at hc
                                   all_goals refine tc_region ?_; refine tl_q (y_move rfl) rfl ?_; refine tl_q (y_move rfl) rfl ?_; (refine tl_e (e_bslice rfl (by (repeat (first | exact .nil | apply PV.one rfl rfl)); done) rfl rfl) rfl (fun _ _ => ?_))
                                   all_goals ((first | refine tl_e (e_append_own (old := (apN t l ((gdL t tol).getD k (0, 0, 0)) ((bdL t tol).getD m (0, 0, 0)) i).map vi) (junk := junka) rfl rfl rfl (by repeat constructor) (by simp) (by omega) hoa.1 (fun w' hw' => RdI.own0 (xs := [(i : Int)]) hw' (by repeat constructor)) (fun u hu => by obtain ⟨_, _, rfl⟩ := List.mem_map.1 hu; rfl) (by simp only [List.length_cons, List.length_nil]; omega) rfl) rfl (fun u hu => ?_) | refine tl_e (e_append_nil rfl rfl rfl (fun w' hw' => RdI.own0 (xs := [(i : Int)]) hw' (by repeat constructor)) (fun u hu => by obtain ⟨_, _, rfl⟩ := List.mem_map.1 hu; rfl) Nat.zero_lt_one (Nat.le_of_ble_eq_true rfl) rfl) rfl (fun u hu => ?_)))
                                   all_goals refine tl_q (y_assign rfl) rfl ?_; refine tl_nil ?_; ((refine hK34 ?_; try (clear hK34; clear K34)))
                                   all_goals refine tc_region ?_; refine tl_q (y_add rfl rfl (by omega)) rfl ?_; refine tl_q (y_move rfl) rfl ?_; refine tl_nil ?_
                                   all_goals (
                                    first
                                    | (have hs2 : apN t l ((gdL t tol).getD k (0, 0, 0)) ((bdL t tol).getD m (0, 0, 0)) (i + 1) = apN t l ((gdL t tol).getD k (0, 0, 0)) ((bdL t tol).getD m (0, 0, 0)) i ++ [(i : Int)] := by rw [apN_succ, if_neg (by rw [hc]; exact Bool.false_ne_true)]
                                       refine tk_round (i + 1, some (u.1, u.2.1, u.2.2), (q.1, q.2)) ⟨by dsimp only; omega, ?_, hq⟩ (by dsimp only; omega) (.cons rfl (.cons rfl (.cons rfl (.cons rfl (.cons rfl (.cons rfl (.cons rfl (.cons rfl (.cons rfl (.cons rfl (.cons rfl (.cons rfl (.cons ?_ (.cons rfl (.cons rfl (.cons rfl .nil)))))))))))))))) (fun _ h => ?_)
                                       · dsimp only [outOk]; rw [hs2, List.length_append]; simp only [List.length_cons, List.length_nil] at hu ⊢; omega
                                       · dsimp only [outV']; rw [hs2, List.length_append]; first | rfl | (rw [hoa]; rfl)
                                       · dsimp only [slH_some, List.cons_append, List.nil_append]; rw [hs2, List.map_append]
                                         try rw [show apN t l ((gdL t tol).getD k (0, 0, 0)) ((bdL t tol).getD m (0, 0, 0)) i = [] from List.eq_nil_of_length_eq_zero hoa, List.map_nil, List.nil_append]
                                         exact h.subl SB.s SB.s)
                                    | (have hs2 : apN t l ((gdL t tol).getD k (0, 0, 0)) ((bdL t tol).getD m (0, 0, 0)) (i + 1) = apN t l ((gdL t tol).getD k (0, 0, 0)) ((bdL t tol).getD m (0, 0, 0)) i := by rw [apN_succ, if_pos hc]
                                       first
                                       | (refine tk_round (i + 1, none, (q.1, q.2)) ⟨by dsimp only; omega, by dsimp only [outOk]; rw [hs2]; exact hoa, hq⟩ (by dsimp only; omega) (.cons rfl (.cons rfl (.cons rfl (.cons rfl (.cons rfl (.cons rfl (.cons rfl (.cons rfl (.cons rfl (.cons rfl (.cons rfl (.cons rfl (.cons rfl (.cons rfl (.cons rfl (.cons rfl .nil)))))))))))))))) (fun _ h => ?_)
                                          dsimp only [slH_none, List.cons_append, List.nil_append]; exact h.subl SB.s SB.s)
                                       | (refine tk_round (i + 1, some (ba, capa, junka), (q.1, q.2)) ⟨by dsimp only; omega, by dsimp only [outOk]; rw [hs2]; exact hoa, hq⟩ (by dsimp only; omega) (.cons rfl (.cons rfl (.cons rfl (.cons rfl (.cons rfl (.cons rfl (.cons rfl (.cons rfl (.cons rfl (.cons rfl (.cons rfl (.cons rfl (.cons ?_ (.cons rfl (.cons rfl (.cons rfl .nil)))))))))))))))) (fun _ h => ?_)
                                          · dsimp only [outV']; rw [hs2]; rfl
                                          · dsimp only [slH_some, List.cons_append, List.nil_append]; rw [hs2]; exact h.subl SB.s SB.s)))
                                 · try simp only [qn1, qn2, qn3, qn4, qn5, qn6, qn7, qn8] at hc
                                   all_goals refine tc_skip ?_; ((refine hK34 ?_; try (clear hK34; clear K34)))
                                   all_goals refine tc_region ?_; refine tl_q (y_add rfl rfl (by omega)) rfl ?_; refine tl_q (y_move rfl) rfl ?_; refine tl_nil ?_
                                   all_goals (
                                    first
                                    | (have hs2 : apN t l ((gdL t tol).getD k (0, 0, 0)) ((bdL t tol).getD m (0, 0, 0)) (i + 1) = apN t l ((gdL t tol).getD k (0, 0, 0)) ((bdL t tol).getD m (0, 0, 0)) i ++ [(i : Int)] := by rw [apN_succ, if_neg (by rw [hc]; exact Bool.false_ne_true)]
                                       refine tk_round (i + 1, some (u.1, u.2.1, u.2.2), (q.1, q.2)) ⟨by dsimp only; omega, ?_, hq⟩ (by dsimp only; omega) (.cons rfl (.cons rfl (.cons rfl (.cons rfl (.cons rfl (.cons rfl (.cons rfl (.cons rfl (.cons rfl (.cons rfl (.cons rfl (.cons rfl (.cons ?_ (.cons rfl (.cons rfl (.cons rfl .nil)))))))))))))))) (fun _ h => ?_)
                                       · dsimp only [outOk]; rw [hs2, List.length_append]; simp only [List.length_cons, List.length_nil] at hu ⊢; omega
                                       · dsimp only [outV']; rw [hs2, List.length_append]; first | rfl | (rw [hoa]; rfl)
                                       · dsimp only [slH_some, List.cons_append, List.nil_append]; rw [hs2, List.map_append]
                                         try rw [show apN t l ((gdL t tol).getD k (0, 0, 0)) ((bdL t tol).getD m (0, 0, 0)) i = [] from List.eq_nil_of_length_eq_zero hoa, List.map_nil, List.nil_append]
                                         exact h.subl SB.s SB.s)
                                    | (have hs2 : apN t l ((gdL t tol).getD k (0, 0, 0)) ((bdL t tol).getD m (0, 0, 0)) (i + 1) = apN t l ((gdL t tol).getD k (0, 0, 0)) ((bdL t tol).getD m (0, 0, 0)) i := by rw [apN_succ, if_pos hc]
                                       first
                                       | (refine tk_round (i + 1, none, (q.1, q.2)) ⟨by dsimp only; omega, by dsimp only [outOk]; rw [hs2]; exact hoa, hq⟩ (by dsimp only; omega) (.cons rfl (.cons rfl (.cons rfl (.cons rfl (.cons rfl (.cons rfl (.cons rfl (.cons rfl (.cons rfl (.cons rfl (.cons rfl (.cons rfl (.cons rfl (.cons rfl (.cons rfl (.cons rfl .nil)))))))))))))))) (fun _ h => ?_)
                                          dsimp only [slH_none, List.cons_append, List.nil_append]; exact h.subl SB.s SB.s)
                                       | (refine tk_round (i + 1, some (ba, capa, junka), (q.1, q.2)) ⟨by dsimp only; omega, by dsimp only [outOk]; rw [hs2]; exact hoa, hq⟩ (by dsimp only; omega) (.cons rfl (.cons rfl (.cons rfl (.cons rfl (.cons rfl (.cons rfl (.cons rfl (.cons rfl (.cons rfl (.cons rfl (.cons rfl (.cons rfl (.cons ?_ (.cons rfl (.cons rfl (.cons rfl .nil)))))))))))))))) (fun _ h => ?_)
                                          · dsimp only [outV']; rw [hs2]; rfl
                                          · dsimp only [slH_some, List.cons_append, List.nil_append]; rw [hs2]; exact h.subl SB.s SB.s))))
                              · try simp only [qn1, qn2, qn3, qn4, qn5, qn6, qn7, qn8] at hc
                                all_goals refine tc_exit ?_; ((refine hK30 ?_; try (clear hK30; clear K30)))
                                all_goals (have hil : i = l.length := by omega)
                                all_goals subst hil
                                all_goals rcases oo1 with _ | ⟨bo, cap, junk1⟩
                                all_goals ((dsimp only [outOk] at hok1; dsimp only [slH_none, slH_some, outV']))
                                all_goals ((have hpl := prs_len t l (gdL t tol) (bdL t tol) (k := k) (m := m) (by omega) (by omega); have hgb := prod_le (gb_len hv tol); have hkb := Nat.mul_le_mul_right (bdL t tol).length (show k ≤ (gdL t tol).length by omega); have hgl := gb_len hv tol))
                                all_goals (have hpm := prs_m (t := t) (l := l) (G := (gdL t tol)) (B := (bdL t tol)) (k := k) (m := m) (by omega))
                                all_goals refine tc_region ?_; refine tl_q (y_load1 rfl (by repeat constructor) (by rfl)) rfl ?_; refine tl_q (y_move rfl) rfl ?_; (refine tl_e (e_bslice rfl (by (repeat (first | exact .nil | apply PV.one rfl rfl)); done) rfl rfl) rfl (fun _ _ => ?_))
                                all_goals ((first | refine tl_e (e_append_own (old := vs1) (junk := junk1) rfl rfl rfl (by repeat constructor) (by rw [hin1.1, Nat.mul_one]) (by omega) hok1.1 (fun w' hw' => Reads.own1 hw' (by repeat constructor)) (fun u hu => by obtain rfl := List.mem_singleton.1 hu; rfl) (by omega) rfl) rfl (fun zp hzp => ?_) | refine tl_e (e_append_nil rfl rfl rfl (fun w' hw' => Reads.own1 hw' (by repeat constructor)) (fun u hu => by obtain rfl := List.mem_singleton.1 hu; rfl) Nat.zero_lt_one (Nat.le_of_ble_eq_true rfl) rfl) rfl (fun zp hzp => ?_)))
                                all_goals refine tl_e (e_store1 rfl rfl (by repeat constructor) (by repeat constructor) (by rfl) (by rfl)) rfl (fun _ _ => ?_); refine tl_nil ?_; ((refine hK27 ?_; try (clear hK27; clear K27)))
                                all_goals refine tc_region ?_; refine tl_q (y_add rfl rfl (by omega)) rfl ?_; refine tl_q (y_move rfl) rfl ?_; refine tl_nil ?_
                                all_goals (
                                 refine tk_lay [(zp.1, _), (b17, _), (b13, _), (y.1.1.2, _)] SB.s (fun w2 h2 => ?_)
                                 have hnd := h2.nodup
                                 have hown : ∀ x ∈ [zp.1, b17, b13, y.1.1.2], x ∈ S1 ∨ wl1.heap.size ≤ x := fun x hx => by
                                   simp only [List.mem_cons, List.not_mem_nil, or_false] at hx
                                   rcases hx with e | e | e | e
                                   · rw [e]; exact h2.own (zp.1, _) (HM.mem (by repeat constructor)) (wl1, S1) MI.m
                                   · rw [e]; exact h2.own (b17, _) (HM.mem (by repeat constructor)) (wl1, S1) MI.m
                                   · rw [e]; exact h2.own (b13, _) (HM.mem (by repeat constructor)) (wl1, S1) MI.m
                                   · rw [e]; exact h2.own (y.1.1.2, _) (HM.mem (by repeat constructor)) (wl1, S1) MI.m
                                 have hst := hin1.step (h2.fr (w0 := wl1) (S := S1) MI.m) hown
                                 first
                                 | (have hv2 : RdI w2 (.slice none 0 0) (apL t l ((gdL t tol).getD k (0, 0, 0)) ((bdL t tol).getD m (0, 0, 0))) := by
                                      have e : apL t l ((gdL t tol).getD k (0, 0, 0)) ((bdL t tol).getD m (0, 0, 0)) = [] := List.eq_nil_of_length_eq_zero hoa
                                      rw [e]; exact RdI.nil _
                                    have hin2 := hst.snoc hv2 (fun p m c e => by cases e)
                                    rw [← hpm] at hin2
                                    refine tk_round (m + 1, some (zp.1, zp.2.1, zp.2.2), vs1 ++ [Value.slice none 0 0], (w2, [zp.1, b17, b13, y.1.1.2]), (es4, ck4)) ⟨by dsimp only; omega, ?_, hin2, hca4⟩ (by dsimp only; omega) (.cons rfl (.cons rfl (.cons rfl (.cons rfl (.cons rfl (.cons rfl (.cons rfl (.cons rfl (.cons rfl (.cons rfl (.cons rfl .nil))))))))))) (fun _ h => ?_)
                                    · dsimp only [outOk]; rw [hpm, List.length_append]; simp only [List.length_cons, List.length_nil]; omega
                                    · dsimp only [slH_some, outV']
                                      rw [hpm, List.length_append]
                                      try rw [show (prs t l (gdL t tol) (bdL t tol) k m) = [] from List.eq_nil_of_length_eq_zero hok1]
                                      try rw [show vs1 = [] from List.eq_nil_of_length_eq_zero (hin1.1.trans hok1), List.nil_append]
                                      exact (h.subl SB.s (List.Sublist.refl _)).perm (List.perm_append_comm (l₁ := [_]) (l₂ := [_, _, _])))
                                 | (have hv2 : RdI w2 (.slice (some ⟨ba, 0, none⟩) (apN t l ((gdL t tol).getD k (0, 0, 0)) ((bdL t tol).getD m (0, 0, 0)) l.length).length capa) (apL t l ((gdL t tol).getD k (0, 0, 0)) ((bdL t tol).getD m (0, 0, 0))) := RdI.own (xs := apN t l ((gdL t tol).getD k (0, 0, 0)) ((bdL t tol).getD m (0, 0, 0)) l.length) h2 (b := ba) (by repeat constructor)
                                    have h5 : ([zp.1, ba, b17, b13, y.1.1.2] : List Nat).Nodup := hnd.sublist (List.Sublist.map (Prod.fst : Nat × Obj → Nat) (l₁ := [(zp.1, _), (ba, _), (b17, _), (b13, _), (y.1.1.2, _)]) SB.s)
                                    have hba : ba < w2.heap.size ∧ ba ∉ [zp.1, b17, b13, y.1.1.2] := ⟨h2.lt (HM.mem (b := ba) (by repeat constructor)), ba_out h5⟩
                                    have hin2 := hst.snoc hv2 (fun p m c e => by cases e; exact hba)
                                    rw [← hpm] at hin2
                                    refine tk_round (m + 1, some (zp.1, zp.2.1, zp.2.2), vs1 ++ [Value.slice (some ⟨ba, 0, none⟩) (apN t l ((gdL t tol).getD k (0, 0, 0)) ((bdL t tol).getD m (0, 0, 0)) l.length).length capa], (w2, [zp.1, b17, b13, y.1.1.2]), (es4, ck4)) ⟨by dsimp only; omega, ?_, hin2, hca4⟩ (by dsimp only; omega) (.cons rfl (.cons rfl (.cons rfl (.cons rfl (.cons rfl (.cons rfl (.cons rfl (.cons rfl (.cons rfl (.cons rfl (.cons rfl .nil))))))))))) (fun _ h => ?_)
                                    · dsimp only [outOk]; rw [hpm, List.length_append]; simp only [List.length_cons, List.length_nil]; omega
                                    · dsimp only [slH_some, outV']
                                      rw [hpm, List.length_append]
                                      try rw [show (prs t l (gdL t tol) (bdL t tol) k m) = [] from List.eq_nil_of_length_eq_zero hok1]
                                      try rw [show vs1 = [] from List.eq_nil_of_length_eq_zero (hin1.1.trans hok1), List.nil_append]
                                      exact (h.subl SB.s (List.Sublist.refl _)).perm (List.perm_append_comm (l₁ := [_]) (l₂ := [_, _, _]))))))
                        · try simp only [qn1, qn2, qn3, qn4, qn5, qn6, qn7, qn8] at hc
                          all_goals refine tc_exit ?_; ((refine hK22 ?_; try (clear hK22; clear K22)))
                          all_goals (have hmB : m = (bdL t tol).length := by omega)
                          all_goals subst hmB
                          all_goals refine tc_region ?_; refine tl_q (y_add rfl rfl (by omega)) rfl ?_; refine tl_q (y_move rfl) rfl ?_; refine tl_nil ?_
                          all_goals (
                           refine tk_round (k + 1, oo1, vs1, (wl1, S1), (es3, ck3)) ⟨by dsimp only; omega, ?_, ?_, hca1⟩ (by dsimp only; omega) (.cons rfl (.cons rfl (.cons rfl (.cons rfl (.cons rfl (.cons rfl (.cons rfl .nil))))))) (fun _ h => ?_)
                           · dsimp only; rw [prs_k (by omega)]; exact hok1
                           · dsimp only; rw [prs_k (by omega)]; exact hin1
                           · dsimp only; rw [prs_k (by omega)]; exact h.subl SB.s SB.s)))
                  · try simp only [qn1, qn2, qn3, qn4, qn5, qn6, qn7, qn8] at hc
                    all_goals refine tc_exit ?_; ((refine hK18 ?_; try (clear hK18; clear K18)))
                    all_goals refine tc_seq fun K37 hK37 => ?_; (have hkG : k = (gdL t tol).length := by omega)
                    all_goals subst hkG
                    all_goals ((have hpl := prs_len t l (gdL t tol) (bdL t tol) (k := (gdL t tol).length) (m := 0) (by omega) (by omega); have hgb := prod_le (gb_len hv tol)))
                    all_goals rcases oo with _ | ⟨bo, cap, junk⟩
                    all_goals ((dsimp only [outOk] at hok; dsimp only [slH_none, slH_some, outV']))
                    all_goals first | (have hRd0 : ∀ w', RdLL w' (.slice none 0 0) (pairsL t tol l) := fun w' => by
                                         rw [show pairsL t tol l = [] from List.eq_nil_of_length_eq_zero hok]; exact RdLL.nil w') | skip
                    all_goals (have hpq : (pairsL t tol l).length = (gdL t tol).length * (bdL t tol).length + 0 := hpl)
                    all_goals rcases hsr : searchT (fewP (pairsL t tol l)) l.length with _ | rs
                    all_goals refine tc_region ?_; refine tl_q (y_move rfl) rfl ?_; refine tl_q (y_len rfl) rfl ?_; refine tl_q (y_fn .nil (.cons rfl .nil)) rfl ?_; ((first | refine tl_e (e_callEndF (val := fun x : Value × Obj => .tuple #[x.1, .bool false]) (p := fun x w' => True) (S := [y.1.1.2]) rfl (.cons rfl (.cons rfl .nil)) (fun w' hw' => CnX.imp (val' := fun x : Value × Obj => .tuple #[x.1, .bool false]) (tlists_c 89 #[ptr b13] (fewP (pairsL t tol l)) l.length (by omega) y.1.1.2 (.map es2 ck2) (fun o => o = .map es2 ck2) w' (hw'.heap _ (HM.mem (by repeat constructor))) rfl (few_pass t (pairsL t tol l) l.length (by omega) (fun ap h => by have := prs_ap h; omega) b13 y.1.1.2 (fun e => by have := hw'.nodup; rw [e] at this; simp at this) _ es2 ck2 w' (hw'.heap (b13, _) (HM.mem (by repeat constructor))) (hw'.heap _ (HM.mem (by repeat constructor))) (hRd0 w'))) id (fun x => by rw [hsr]; rfl) (fun _ h => h) (fun _ _ _ _ => trivial)) (fun w' hw' β hβ q hq => by obtain rfl := List.mem_singleton.1 hq; exact hw'.own (y.1.1.2, _) (HM.mem (by repeat constructor)) β hβ)) rfl (fun v hv3 => ?_) | refine tl_e (e_callEndF (val := fun x : Value × Obj => .tuple #[x.1, .bool true]) (p := fun x w' => RdI w' x.1 rs) (S := [y.1.1.2]) rfl (.cons rfl (.cons rfl .nil)) (fun w' hw' => CnX.imp (val' := fun x : Value × Obj => .tuple #[x.1, .bool true]) (tlists_c 89 #[ptr b13] (fewP (pairsL t tol l)) l.length (by omega) y.1.1.2 (.map es2 ck2) (fun o => o = .map es2 ck2) w' (hw'.heap _ (HM.mem (by repeat constructor))) rfl (few_pass t (pairsL t tol l) l.length (by omega) (fun ap h => by have := prs_ap h; omega) b13 y.1.1.2 (fun e => by have := hw'.nodup; rw [e] at this; simp at this) _ es2 ck2 w' (hw'.heap (b13, _) (HM.mem (by repeat constructor))) (hw'.heap _ (HM.mem (by repeat constructor))) (hRd0 w'))) id (fun x => by rw [hsr]; rfl) (fun _ h => h) (fun x w2 _ hx => hx.2.2.2 _ hsr)) (fun w' hw' β hβ q hq => by obtain rfl := List.mem_singleton.1 hq; exact hw'.own (y.1.1.2, _) (HM.mem (by repeat constructor)) β hβ)) rfl (fun v hv3 => ?_) | refine tl_e (e_callEndF (val := fun x : Value × Obj => .tuple #[x.1, .bool false]) (p := fun x w' => True) (S := [y.1.1.2]) rfl (.cons rfl (.cons rfl .nil)) (fun w' hw' => CnX.imp (val' := fun x : Value × Obj => .tuple #[x.1, .bool false]) (tlists_c 89 #[ptr b13] (fewP (pairsL t tol l)) l.length (by omega) y.1.1.2 (.map es2 ck2) (fun o => o = .map es2 ck2) w' (hw'.heap _ (HM.mem (by repeat constructor))) rfl (few_pass t (pairsL t tol l) l.length (by omega) (fun ap h => by have := prs_ap h; omega) b13 y.1.1.2 (fun e => by have := hw'.nodup; rw [e] at this; simp at this) _ es2 ck2 w' (hw'.heap (b13, _) (HM.mem (by repeat constructor))) (hw'.heap _ (HM.mem (by repeat constructor))) (hin.rd hw' (b := bo) (cap := cap) (by repeat constructor) (hw'.fr (w0 := wl) (S := S) MI.m)))) id (fun x => by rw [hsr]; rfl) (fun _ h => h) (fun _ _ _ _ => trivial)) (fun w' hw' β hβ q hq => by obtain rfl := List.mem_singleton.1 hq; exact hw'.own (y.1.1.2, _) (HM.mem (by repeat constructor)) β hβ)) rfl (fun v hv3 => ?_) | refine tl_e (e_callEndF (val := fun x : Value × Obj => .tuple #[x.1, .bool true]) (p := fun x w' => RdI w' x.1 rs) (S := [y.1.1.2]) rfl (.cons rfl (.cons rfl .nil)) (fun w' hw' => CnX.imp (val' := fun x : Value × Obj => .tuple #[x.1, .bool true]) (tlists_c 89 #[ptr b13] (fewP (pairsL t tol l)) l.length (by omega) y.1.1.2 (.map es2 ck2) (fun o => o = .map es2 ck2) w' (hw'.heap _ (HM.mem (by repeat constructor))) rfl (few_pass t (pairsL t tol l) l.length (by omega) (fun ap h => by have := prs_ap h; omega) b13 y.1.1.2 (fun e => by have := hw'.nodup; rw [e] at this; simp at this) _ es2 ck2 w' (hw'.heap (b13, _) (HM.mem (by repeat constructor))) (hw'.heap _ (HM.mem (by repeat constructor))) (hin.rd hw' (b := bo) (cap := cap) (by repeat constructor) (hw'.fr (w0 := wl) (S := S) MI.m)))) id (fun x => by rw [hsr]; rfl) (fun _ h => h) (fun x w2 _ hx => hx.2.2.2 _ hsr)) (fun w' hw' β hβ q hq => by obtain rfl := List.mem_singleton.1 hq; exact hw'.own (y.1.1.2, _) (HM.mem (by repeat constructor)) β hβ)) rfl (fun v hv3 => ?_)))
                    all_goals refine tl_q (y_move rfl) rfl ?_; refine tl_q (y_extract rfl rfl) rfl ?_; refine tl_q (y_extract rfl rfl) rfl ?_; refine tl_q (y_assign rfl) rfl ?_; refine tl_q (y_assign rfl) rfl ?_; refine tl_nil ?_; ((refine hK37 ?_; try (clear hK37; clear K37)))
                    all_goals refine tc_seq fun K38 hK38 => ?_; refine tc_seq fun K39 hK39 => ?_; refine tc_region ?_; refine tl_q (y_move rfl) rfl ?_; refine tl_q (y_not rfl) rfl ?_; refine tl_nil ?_; ((refine hK39 ?_; try (clear hK39; clear K39)))
                    all_goals (
                     refine tc_cond rfl (fun hc => ?_) (fun hc => ?_)
                     · try simp only [qn1, qn2, qn3, qn4, qn5, qn6, qn7, qn8] at hc
                       all_goals ((first | (exfalso; with_reducible exact btf hc) | skip))
                       all_goals refine tc_seq fun K40 hK40 => ?_; refine tc_region ?_; refine tl_q (y_assign rfl) rfl ?_; refine tl_q (y_assign rfl) rfl ?_; refine tl_nil ?_; ((refine hK40 ?_; try (clear hK40; clear K40)))
                       all_goals refine tc_ret ?_; (repeat (refine tk_then_ret ?_))
                       all_goals (refine tk_ret rfl rfl (.cons (.tmp rfl) (.cons (.tmp rfl) .nil)) ?_)
                       all_goals (
                        first
                        | (have hE : fewestE t tol l = ([], tolE t tol) := if_pos (by assumption)
                           rw [hE]; exact fun w' hw' => ⟨_, rfl, hw'.fr (w0 := w) (S := []) MI.m, RdI.nil _⟩)
                        | (have hE : fewestE t tol l = ([], 3) := by unfold fewestE; rw [if_neg (by omega), if_pos (by omega)]
                           rw [hE]; exact fun w' hw' => ⟨_, rfl, hw'.fr (w0 := w) (S := []) MI.m, RdI.nil _⟩)
                        | (have hE : fewestE t tol l = ([], 2) := by unfold fewestE; rw [if_neg (by omega), if_neg (by omega), if_pos (by assumption)]
                           rw [hE]; exact fun w' hw' => ⟨_, rfl, hw'.fr (w0 := w) (S := []) MI.m, RdI.nil _⟩)
                        | (have hE : fewestE t tol l = ([], askedE t) := by unfold fewestE; rw [if_neg (by omega), if_neg (by omega), if_neg (by rw [hall]; exact Bool.noConfusion), if_pos hA]
                           rw [hE]; exact fun w' hw' => ⟨_, rfl, hw'.fr (w0 := w) (S := []) MI.m, RdI.nil _⟩)
                        | (have hE : fewestE t tol l = ([], 9) := by unfold fewestE; rw [if_neg (by omega), if_neg (by omega), if_neg (by rw [hall]; exact Bool.noConfusion), if_neg (by omega), hsr]
                           rw [hE]; exact fun w' hw' => ⟨_, rfl, hw'.fr (w0 := w) (S := []) MI.m, RdI.nil _⟩)
                        | (have hE : fewestE t tol l = (rs, 0) := by unfold fewestE; rw [if_neg (by omega), if_neg (by omega), if_neg (by rw [hall]; exact Bool.noConfusion), if_neg (by omega), hsr]
                           rw [hE]; exact fun w' hw' => ⟨v.1.1, rfl, hw'.fr (w0 := w) (S := []) MI.m, hv3.2.2.fr (hw'.fr (w0 := v.2.2) (S := []) MI.m)⟩))
                     · try simp only [qn1, qn2, qn3, qn4, qn5, qn6, qn7, qn8] at hc
                       all_goals ((first | (exfalso; with_reducible exact bft hc) | skip))
                       all_goals refine tc_skip ?_; ((refine hK38 ?_; try (clear hK38; clear K38)))
                       all_goals refine tc_seq fun K41 hK41 => ?_; refine tc_region ?_; refine tl_q (y_move rfl) rfl ?_; refine tl_q (y_assign rfl) rfl ?_; refine tl_q (y_assign rfl) rfl ?_; refine tl_nil ?_; ((refine hK41 ?_; try (clear hK41; clear K41)))
                       all_goals refine tc_ret ?_; (repeat (first | refine tk_then_ret ?_))
                       all_goals (refine tk_ret rfl rfl (.cons (.tmp rfl) (.cons (.tmp rfl) .nil)) ?_)
                       all_goals (
                        first
                        | (have hE : fewestE t tol l = ([], tolE t tol) := if_pos (by assumption)
                           rw [hE]; exact fun w' hw' => ⟨_, rfl, hw'.fr (w0 := w) (S := []) MI.m, RdI.nil _⟩)
                        | (have hE : fewestE t tol l = ([], 3) := by unfold fewestE; rw [if_neg (by omega), if_pos (by omega)]
                           rw [hE]; exact fun w' hw' => ⟨_, rfl, hw'.fr (w0 := w) (S := []) MI.m, RdI.nil _⟩)
                        | (have hE : fewestE t tol l = ([], 2) := by unfold fewestE; rw [if_neg (by omega), if_neg (by omega), if_pos (by assumption)]
                           rw [hE]; exact fun w' hw' => ⟨_, rfl, hw'.fr (w0 := w) (S := []) MI.m, RdI.nil _⟩)
                        | (have hE : fewestE t tol l = ([], askedE t) := by unfold fewestE; rw [if_neg (by omega), if_neg (by omega), if_neg (by rw [hall]; exact Bool.noConfusion), if_pos hA]
                           rw [hE]; exact fun w' hw' => ⟨_, rfl, hw'.fr (w0 := w) (S := []) MI.m, RdI.nil _⟩)
                        | (have hE : fewestE t tol l = ([], 9) := by unfold fewestE; rw [if_neg (by omega), if_neg (by omega), if_neg (by rw [hall]; exact Bool.noConfusion), if_neg (by omega), hsr]
                           rw [hE]; exact fun w' hw' => ⟨_, rfl, hw'.fr (w0 := w) (S := []) MI.m, RdI.nil _⟩)
                        | (have hE : fewestE t tol l = (rs, 0) := by unfold fewestE; rw [if_neg (by omega), if_neg (by omega), if_neg (by rw [hall]; exact Bool.noConfusion), if_neg (by omega), hsr]
                           rw [hE]; exact fun w' hw' => ⟨v.1.1, rfl, hw'.fr (w0 := w) (S := []) MI.m, hv3.2.2.fr (hw'.fr (w0 := v.2.2) (S := []) MI.m)⟩)))))))))
end Go.Sp
/-
  The chapter's trial: what is asked of it, computed.
-/
namespace Go.Sp
open Go Go.Proofs
abbrev twoS : Sn := ⟨900, 800, 20, 10, 10, [100, 200]⟩
abbrev twoT (m : List E3) : Tr := ⟨twoS, [0, 6], 2, [(1000, 1000), (915, 925)], [(0, 0, 6), (1, 0, 10)] ++ m⟩
set_option maxRecDepth 100000
theorem ta1 : shownE (twoT []) [0, 1] 0 1000 = ([5, 6], 0) := by kernel_rfl
theorem ta2 : askedE (twoT []) = 0 := by kernel_rfl
theorem ta3 : possLL (twoT []) 2 = [[-2, -1, 0, 1, 2], [1]] := by kernel_rfl
theorem ta4 : judgeE (twoT []) 1 = (3, 0) := by kernel_rfl
theorem ta5 : certL (twoT []) 2 = [(0, 2), (1, 0)] := by kernel_rfl
theorem ta6 : correctE (twoT []) 0 7 = ((968, 989), 0) := by kernel_rfl
theorem ta7 : fewestE (twoT []) 1 [(0, 1000), (0, 1100)] = ([1], 0) := by kernel_rfl
theorem ta8 : leaveTL (twoT [(0, 0, 8)]) = [2] := by kernel_rfl
theorem ta9 : chkT (twoT [(0, 0, 8)]) = 0 := by kernel_rfl
theorem twoT_nt (m : List E3) (h : m.length ≤ 1000) : NT (twoT m) := ⟨by show (2 : Int) ≤ 9000000000000000000; decide, by show (2 : Int) ≤ 9000000000000000000; decide, by show (2 : Int) ≤ 9000000000000000000; decide, by show ((([(0, 0, 6), (1, 0, 10)] ++ m : List E3).length : Nat) : Int) ≤ 9000000000000000000; rw [List.length_append]; simp only [List.length_cons, List.length_nil]; omega⟩
end Go.Sp
/-
  What all statements about trials end with: the chapter's example.
-/
namespace Go.Sp
open Go Go.Proofs
theorem ints9_c (a b : List Int) (ha : (a.length : Int) ≤ 9000000000000000000) (hb : (b.length : Int) ≤ 9000000000000000000) (av bv : Value) (w : World) (hA : RdI w av a) (hB : RdI w bv b) :
    CnV Tryz.prog 24 #[av, bv] w (.bool (decide (a = b))) := by
  obtain ⟨ad, cap, b0, o, rfl, had, hcell⟩ := hA.open
  obtain ⟨ad2, cap2, b02, o2, rfl, had2, hcell2⟩ := hB.open
  refine cnv (vs := [_, _]) Tryz.func24 rfl rfl ?_
  all_goals refine tc_seq fun K1 hK1 => ?_; refine tc_region ?_; refine tl_q (y_assign rfl) rfl ?_; refine tl_nil ?_; ((refine hK1 ?_; try (clear hK1; clear K1)))
  all_goals refine tc_seq fun K2 hK2 => ?_; refine tc_seq fun K3 hK3 => ?_; refine tc_region ?_; refine tl_q (y_move rfl) rfl ?_; refine tl_q (y_len rfl) rfl ?_; refine tl_q (y_move rfl) rfl ?_; refine tl_q (y_len rfl) rfl ?_; refine tl_q (y_neq rfl rfl) rfl ?_; refine tl_nil ?_; ((refine hK3 ?_; try (clear hK3; clear K3)))
  all_goals (
   refine tc_cond rfl (fun hc => ?_) (fun hc => ?_)
   · try simp only [qn1, qn2, qn3, qn4, qn5, qn6, qn7, qn8] at hc
     all_goals refine tc_seq fun K4 hK4 => ?_; refine tc_region ?_; refine tl_q (y_assign rfl) rfl ?_; refine tl_nil ?_; ((refine hK4 ?_; try (clear hK4; clear K4)))
     all_goals refine tc_ret ?_; (repeat (refine tk_then_ret ?_))
     all_goals (refine tk_ret rfl rfl (.cons (.tmp rfl) .nil) ?_)
     all_goals (
      refine fun w' hw' => ⟨congrArg (fun n => Ending.returned (Value.bool n)) ?_, hw'.fr (by simp)⟩
      symm
      first
      | exact decide_eq_false (fun h => absurd (congrArg List.length h) (by omega))
      | exact decide_eq_false (fun h => absurd (congrArg (fun l => List.getD l n 0) h) (by omega))
      | exact decide_eq_true (List.ext_getElem (by omega) (fun i h1 h2 => by
          have := hI i (by omega)
          rw [List.getD_eq_getElem?_getD, List.getD_eq_getElem?_getD, List.getElem?_eq_getElem h1, List.getElem?_eq_getElem h2] at this
          exact this)))
   · try simp only [qn1, qn2, qn3, qn4, qn5, qn6, qn7, qn8] at hc
     all_goals refine tc_skip ?_; ((refine hK2 ?_; try (clear hK2; clear K2)))
     all_goals refine tc_seq fun K5 hK5 => ?_; refine tc_seq fun K6 hK6 => ?_; refine tc_region ?_; refine tl_q (y_assign rfl) rfl ?_; refine tl_nil ?_; ((refine hK6 ?_; try (clear hK6; clear K6)))
     all_goals refine tc_block ?_
     all_goals (
      refine tc_loop (fun n : Nat => n ≤ a.length ∧ ∀ j : Nat, j < n → a.getD j 0 = b.getD j 0) (fun n => [(0, .slice ad a.length cap), (1, .slice ad2 b.length cap2), (5, vi n)]) (fun _ => [(w, [])]) (fun _ => []) (fun n => a.length - n) ?_ ?_
      · exact tk_start 0 ⟨Nat.zero_le _, fun i hi => absurd hi (Nat.not_lt_zero i)⟩ (.cons rfl (.cons rfl (.cons rfl .nil))) (fun _ h => h)
      · rintro n ⟨hn, hI⟩
        all_goals refine tc_seq fun K7 hK7 => ?_; refine tc_seq fun K8 hK8 => ?_; refine tc_region ?_; refine tl_q (y_move rfl) rfl ?_; refine tl_q (y_move rfl) rfl ?_; refine tl_q (y_len rfl) rfl ?_; refine tl_q (y_lss rfl rfl) rfl ?_; refine tl_nil ?_; ((refine hK8 ?_; try (clear hK8; clear K8)))
        all_goals (
         refine tc_cond rfl (fun hc => ?_) (fun hc => ?_)
         · try simp only [qn1, qn2, qn3, qn4, qn5, qn6, qn7, qn8] at hc
           all_goals refine tc_skip ?_; ((refine hK7 ?_; try (clear hK7; clear K7)))
           all_goals refine tc_seq fun K9 hK9 => ?_; refine tc_block ?_; refine tc_seq fun K10 hK10 => ?_
           have had' := had (by omega)
           have had2' := had2 (by omega)
           all_goals refine tc_draw (by kernel_rfl) ?_; refine tx_p 0 rfl (by kernel_rfl) (y_move rfl) rfl (fun _ _ _ h => h) (fun _ h => h) ?_; refine tx_p 1 rfl (by kernel_rfl) (y_move rfl) rfl (fun _ _ _ h => h) (fun _ h => h) ?_; refine tx_p 2 rfl (by kernel_rfl) (y_index rfl rfl (by omega) had') rfl (fun _ _ _ h => h) (fun _ h => h) ?_; ((refine tx_q 3 rfl (by kernel_rfl) (y_load1o (v := vi (a.getD n 0)) rfl (fun w' hw' => by rw [show Int.toNat (n : Int) * 1 = n from by omega]; exact hcell w' (hw'.fr (by simp)) n (by omega))) rfl (fun _ _ _ h => h) (fun _ h => h) ?_))
           all_goals refine tx_p 4 rfl (by kernel_rfl) (y_move rfl) rfl (fun _ _ _ h => h) (fun _ h => h) ?_; refine tx_p 5 rfl (by kernel_rfl) (y_move rfl) rfl (fun _ _ _ h => h) (fun _ h => h) ?_; refine tx_p 6 rfl (by kernel_rfl) (y_index rfl rfl (by omega) had2') rfl (fun _ _ _ h => h) (fun _ h => h) ?_; ((refine tx_q 7 rfl (by kernel_rfl) (y_load1o (v := vi (b.getD n 0)) rfl (fun w' hw' => by rw [show Int.toNat (n : Int) * 1 = n from by omega]; exact hcell2 w' (hw'.fr (by simp)) n (by omega))) rfl (fun _ _ _ h => h) (fun _ h => h) ?_))
           all_goals refine tx_p 8 rfl (by kernel_rfl) (y_neq rfl rfl) rfl (fun _ _ _ h => h) (fun _ h => h) ?_; refine tx_done (by kernel_rfl) ?_; ((refine hK10 ?_; try (clear hK10; clear K10)))
           all_goals (
            refine tc_cond rfl (fun hc => ?_) (fun hc => ?_)
            · try simp only [qn1, qn2, qn3, qn4, qn5, qn6, qn7, qn8] at hc
              all_goals refine tc_seq fun K11 hK11 => ?_; refine tc_region ?_; refine tl_q (y_assign rfl) rfl ?_; refine tl_nil ?_; ((refine hK11 ?_; try (clear hK11; clear K11)))
              all_goals refine tc_ret ?_; (repeat (first | refine tk_then_ret ?_ | refine tk_block_ret ?_))
              all_goals (refine tk_ret rfl rfl (.cons (.tmp rfl) .nil) ?_)
              all_goals (
               refine fun w' hw' => ⟨congrArg (fun n => Ending.returned (Value.bool n)) ?_, hw'.fr (by simp)⟩
               symm
               first
               | exact decide_eq_false (fun h => absurd (congrArg List.length h) (by omega))
               | exact decide_eq_false (fun h => absurd (congrArg (fun l => List.getD l n 0) h) (by omega))
               | exact decide_eq_true (List.ext_getElem (by omega) (fun i h1 h2 => by
                   have := hI i (by omega)
                   rw [List.getD_eq_getElem?_getD, List.getD_eq_getElem?_getD, List.getElem?_eq_getElem h1, List.getElem?_eq_getElem h2] at this
                   exact this)))
            · try simp only [qn1, qn2, qn3, qn4, qn5, qn6, qn7, qn8] at hc
              all_goals refine tc_skip ?_; ((refine hK9 ?_; try (clear hK9; clear K9)))
              all_goals refine tc_region ?_; refine tl_q (y_move rfl) rfl ?_; refine tl_q (y_add rfl rfl (by omega)) rfl ?_; refine tl_q (y_assign rfl) rfl ?_; refine tl_nil ?_
              all_goals (
               exact tk_round (n + 1) ⟨by omega, fun i hi => by
                 rcases Nat.lt_succ_iff_lt_or_eq.1 hi with h | rfl
                 · exact hI i h
                 · exact hc⟩ (by omega) (.cons rfl (.cons rfl (.cons rfl .nil))) (fun _ h => h)))
         · try simp only [qn1, qn2, qn3, qn4, qn5, qn6, qn7, qn8] at hc
           all_goals refine tc_exit ?_; ((refine hK5 ?_; try (clear hK5; clear K5)))
           all_goals refine tc_seq fun K12 hK12 => ?_; refine tc_region ?_; refine tl_q (y_assign rfl) rfl ?_; refine tl_nil ?_; ((refine hK12 ?_; try (clear hK12; clear K12)))
           all_goals refine tc_ret ?_; (repeat (first | refine tk_then_ret ?_))
           all_goals (refine tk_ret rfl rfl (.cons (.tmp rfl) .nil) ?_)
           all_goals (
            refine fun w' hw' => ⟨congrArg (fun n => Ending.returned (Value.bool n)) ?_, hw'.fr (by simp)⟩
            symm
            first
            | exact decide_eq_false (fun h => absurd (congrArg List.length h) (by omega))
            | exact decide_eq_false (fun h => absurd (congrArg (fun l => List.getD l n 0) h) (by omega))
            | exact decide_eq_true (List.ext_getElem (by omega) (fun i h1 h2 => by
                have := hI i (by omega)
                rw [List.getD_eq_getElem?_getD, List.getD_eq_getElem?_getD, List.getElem?_eq_getElem h1, List.getElem?_eq_getElem h2] at this
                exact this))))))
theorem ints9_t (a : List Int) (ha : (a.length : Int) ≤ 9000000000000000000) (av bv : Value) (w : World) (hA : RdI w av a) (hB : RdI w bv a) : CnV Tryz.prog 24 #[av, bv] w (.bool true) := by
  have h := ints9_c a a ha ha av bv w hA hB
  rwa [decide_eq_true rfl] at h
theorem between9_c (a b : Int) (w : World) : CnV Tryz.prog 60 #[vi a, vi b] w (rV (a, b)) := by
  refine cnv (vs := [_, _]) Tryz.func60 rfl rfl ?_
  all_goals refine tc_seq fun K1 hK1 => ?_; refine tc_region ?_; refine tl_e (e_allocN rfl) rfl (fun _ _ => ?_); refine tl_nil ?_; ((refine hK1 ?_; try (clear hK1; clear K1)))
  all_goals refine tc_seq fun K2 hK2 => ?_; refine tc_region ?_; refine tl_q (y_move rfl) rfl ?_; refine tl_q (y_move rfl) rfl ?_; refine tl_q (y_build_2 rfl rfl rfl rfl) rfl ?_; refine tl_e (e_storeW rfl rfl (by repeat constructor) (by rfl) (by rfl) (by simp [Value.oneCell'])) rfl (fun _ _ => ?_); refine tl_nil ?_; ((refine hK2 ?_; try (clear hK2; clear K2)))
  all_goals refine tc_ret ?_; (repeat (first | refine tk_then_ret ?_))
  all_goals (refine tk_ret rfl rfl (.cons (.agg inferInstance rfl (by repeat constructor) (by rfl)) .nil) ?_)
  all_goals (
   exact fun w' hw' => ⟨rfl, hw'.fr (by simp)⟩)
theorem offered_c (w : World) : CnX Tryz.prog 61 #[] w [] (slV 2) (fun x w' => RdR w' (slV 2 x) [(0, 1000), (0, 1100)]) := by
  refine cnx0 (vs := []) Tryz.func61 rfl rfl ?_
  all_goals refine tc_seq fun K1 hK1 => ?_; refine tc_region ?_; refine tl_q (y_assign rfl) rfl ?_; refine tl_nil ?_; ((refine hK1 ?_; try (clear hK1; clear K1)))
  all_goals refine tc_seq fun K2 hK2 => ?_; refine tc_region ?_; refine tl_q (y_build_2 rfl rfl rfl rfl) rfl ?_; refine tl_q (y_build_2 rfl rfl rfl rfl) rfl ?_; (refine tl_e (e_bslice rfl (by (repeat (first | exact .nil | apply PV.two rfl)); done) rfl rfl) rfl (fun b3 _ => ?_))
  all_goals refine tl_q (y_assign rfl) rfl ?_; refine tl_nil ?_; ((refine hK2 ?_; try (clear hK2; clear K2)))
  all_goals refine tc_ret ?_; (repeat (first | refine tk_then_ret ?_))
  all_goals (refine tk_ret rfl rfl (.cons (.tmp rfl) .nil) ?_)
  all_goals (
   exact fun w' hw' => ⟨(some ⟨b3, 0, none⟩, 2), rfl, hw'.fr (by simp), RdR.own0 (xs := [(0, 1000), (0, 1100)]) hw' (by repeat constructor)⟩)
theorem two9_c (m : List E3) (hm : m.length ≤ 1000) (lv : Value) (w : World) (hL : RdT w lv m) :
    CnX Tryz.prog 59 #[lv] w [] (fun x : (Option Addr × Nat) × (Option Addr × Nat) × (Option Addr × Nat) × (Option Addr × Nat) => trV (twoT m) (slV 2 x.1) (slV 2 x.2.1) (slV 2 x.2.2.1) (slV (2 + m.length) x.2.2.2))
      (fun x w' => RdTr w' (twoT m) (slV 2 x.1) (slV 2 x.2.1) (slV 2 x.2.2.1) (slV (2 + m.length) x.2.2.2)) := by
  refine cnx0 (vs := [_]) Tryz.func59 rfl rfl ?_
  all_goals refine tc_seq fun K1 hK1 => ?_; refine tc_region ?_; refine tl_e (e_allocN rfl) rfl (fun b2 _ => ?_); refine tl_nil ?_; ((refine hK1 ?_; try (clear hK1; clear K1)))
  all_goals refine tc_seq fun K2 hK2 => ?_; refine tc_region ?_; ((refine tl_e (e_bslice rfl (by (repeat (first | exact .nil | apply PV.one rfl rfl)); done) rfl rfl) rfl (fun b3 _ => ?_)))
  all_goals (refine tl_q (y_build_g (by repeat constructor)) rfl ?_); ((refine tl_e (e_bslice rfl (by (repeat (first | exact .nil | apply PV.one rfl rfl)); done) rfl rfl) rfl (fun b5 _ => ?_)))
  all_goals refine tl_e (e_callV rfl (.cons rfl (.cons rfl .nil)) (fun w' _ => between9_c _ _ w')) rfl (fun _ _ => ?_); refine tl_e (e_callV rfl (.cons rfl (.cons rfl .nil)) (fun w' _ => between9_c _ _ w')) rfl (fun _ _ => ?_); refine tl_e (e_bsliceG rfl (.agg rfl rfl (.agg rfl rfl .nil)) rfl rfl) rfl (fun b8 _ => ?_); refine tl_q (y_build_g (by repeat constructor)) rfl ?_; refine tl_q (y_build_g (by repeat constructor)) rfl ?_; refine tl_e (e_bsliceG rfl (.agg rfl rfl (.agg rfl rfl .nil)) rfl rfl) rfl (fun b11 _ => ?_); refine tl_q (y_move rfl) rfl ?_; refine tl_e (e_append_own (old := flatT [(0, 0, 6), (1, 0, 10)]) (junk := []) rfl rfl rfl (by repeat constructor) (by rfl) (by rfl) (Nat.le_refl _) (fun w' hw' => hL.fr (hw'.fr (w0 := w) (S := []) MI.m)) (flatT_one _) (by omega) rfl) rfl (fun z hz => ?_); refine tl_q (y_build_g (by repeat constructor)) rfl ?_; refine tl_e (e_storeW rfl rfl (by repeat constructor) (by rfl) (by rfl) (by simp [Value.oneCell'])) rfl (fun _ _ => ?_); refine tl_nil ?_; ((refine hK2 ?_; try (clear hK2; clear K2)))
  all_goals refine tc_ret ?_; (repeat (first | refine tk_then_ret ?_))
  all_goals (refine tk_ret rfl rfl (.cons (.agg inferInstance rfl (by repeat constructor) (by rfl)) .nil) ?_)
  all_goals (
   refine fun w' hw' => ⟨((some ⟨b3, 0, none⟩, 2), (some ⟨b5, 0, none⟩, 2), (some ⟨b8, 0, none⟩, 2), (some ⟨z.1, 0, none⟩, z.2.1)), rfl, hw'.fr (by simp), RdI.own0 (xs := [100, 200]) hw' (b := b3) (by repeat constructor), RdI.own0 (xs := [0, 6]) hw' (b := b5) (by repeat constructor), RdR.own0 (xs := [(1000, 1000), (915, 925)]) hw' (b := b8) (by repeat constructor), ?_⟩
   have := RdT.own (xs := [(0, 0, 6), (1, 0, 10)] ++ m) (b := z.1) (cap := z.2.1) (junk := z.2.2) (e := 121) (f := (0, 0)) hw' (by rw [flatT_append]; repeat constructor)
   rw [List.length_append] at this
   exact this)
set_option maxRecDepth 100000 in
theorem tb1 : shownL (twoT []) (er3 [0, 1]) 0 1000 = [5, 6] := by kernel_rfl
theorem two_shown (sl pl ll tl lv : Value) (w : World) (hr : RdTr w (twoT []) sl pl ll tl) (hl : RdI w lv [0, 1]) :
    CnX Tryz.prog 17 #[trV (twoT []) sl pl ll tl, lv, vi 0, vi 1000] w [] (fun y : Option Addr × Nat => .tuple #[slV 2 y, vi 0]) (fun y w' => RdI w' (slV 2 y) [5, 6]) := by
  have h := shown_ok (twoT []) (twoT_nt [] (by decide)) [0, 1] (by decide) 0 1000 (by rw [ta1]) sl pl ll tl lv w hr hl
  rw [tb1] at h
  exact h
theorem two_err (sl pl ll tl : Value) (w : World) (hr : RdTr w (twoT []) sl pl ll tl) :
    CnX Tryz.prog 35 #[trV (twoT []) sl pl ll tl] w [] (fun y : Option Addr × Nat => .tuple #[slV 2 y, vi 0]) (fun y w' => RdLL w' (slV 2 y) [[-2, -1, 0, 1, 2], [1]]) := by
  have h := errors_ok (twoT []) (twoT_nt [] (by decide)) ta2 sl pl ll tl w hr
  rw [show possLL (twoT []) (twoT []).parts.length = [[-2, -1, 0, 1, 2], [1]] from ta3] at h
  exact h
theorem two_cert (sl pl ll tl : Value) (w : World) (hr : RdTr w (twoT []) sl pl ll tl) :
    CnX Tryz.prog 47 #[trV (twoT []) sl pl ll tl] w [] (fun y : Option Addr × Nat => .tuple #[slV 2 y, vi 0]) (fun y w' => RdR w' (slV 2 y) [(0, 2), (1, 0)]) := by
  have h := certificate_ok (twoT []) (twoT_nt [] (by decide)) ta2 sl pl ll tl w hr
  rw [show certL (twoT []) (twoT []).parts.length = [(0, 2), (1, 0)] from ta5] at h
  exact h
theorem two_few (sl pl ll tl lv : Value) (w : World) (hr : RdTr w (twoT []) sl pl ll tl) (hl : RdR w lv [(0, 1000), (0, 1100)]) :
    CnX Tryz.prog 31 #[trV (twoT []) sl pl ll tl, vi 1, lv] w [] (fun y : Value => .tuple #[y, vi 0]) (fun y w' => RdI w' y [1]) := by
  have h := fewest_c (twoT []) (twoT_nt [] (by decide)) 1 (by decide) [(0, 1000), (0, 1100)] (by decide) sl pl ll tl lv w hr hl
  rw [ta7] at h
  exact h
theorem two_leave (sl pl ll tl : Value) (w : World) (hr : RdTr w (twoT [(0, 0, 8)]) sl pl ll tl) :
    CnX Tryz.prog 37 #[trV (twoT [(0, 0, 8)]) sl pl ll tl] w [] (fun y : Value => .tuple #[y, vi 0]) (fun y w' => RdI w' y [2]) := by
  have h := leaveT_ok (twoT [(0, 0, 8)]) (chkT_0.1 ta9) sl pl ll tl w hr
  rw [ta8] at h
  exact h
set_option maxRecDepth 100000 in
set_option maxHeartbeats 4000000 in
theorem awake9_c (w : World) : CnV Tryz.prog 16 #[] w (.bool true) := by
  refine cnv (vs := []) Tryz.func16 rfl rfl ?_
  all_goals refine tc_seq fun K1 hK1 => ?_; refine tc_region ?_; refine tl_q (y_assign rfl) rfl ?_; refine tl_nil ?_; ((refine hK1 ?_; try (clear hK1; clear K1)))
  all_goals refine tc_seq fun K2 hK2 => ?_; refine tc_lay ([]) (SB.s .nil) (fun wl1 hl1 => ?_); refine tc_region ?_; refine tl_e (e_callX rfl (.cons rfl .nil) (fun w' _ => two9_c [] (by decide) _ w' (RdT.nil w'))) rfl (fun x1 hx1 => ?_); ((refine tl_e (e_bslice rfl (by (repeat (first | exact .nil | apply PV.one rfl rfl)); done) rfl rfl) rfl (fun b17 _ => ?_)))
  all_goals refine tl_e (e_callX rfl (.cons rfl (.cons rfl (.cons rfl (.cons rfl .nil)))) (fun w' hw' => two_shown _ _ _ _ _ w' (hx1.1.fr (hw'.fr MI.m)) (RdI.own0 (xs := [0, 1]) hw' (by repeat constructor)))) rfl (fun y1 hy1 => ?_); refine tl_q (y_move rfl) rfl ?_; refine tl_q (y_extract rfl rfl) rfl ?_; refine tl_q (y_extract rfl rfl) rfl ?_; refine tl_q (y_assign rfl) rfl ?_; refine tl_q (y_assign rfl) rfl ?_; refine tl_nil ?_; ((refine hK2 ?_; try (clear hK2; clear K2)))
  all_goals refine tc_seq fun K3 hK3 => ?_; refine tc_lay ([]) (SB.s .nil) (fun wl2 hl2 => ?_)
  have r1 := hy1.1.fr (hl2.calm hy1.2 MI.m SB.s)
  all_goals refine tc_region ?_; refine tl_e (e_callX rfl (.cons rfl .nil) (fun w' _ => two9_c [] (by decide) _ w' (RdT.nil w'))) rfl (fun x2 hx2 => ?_); refine tl_e (e_callX rfl (.cons rfl .nil) (fun w' hw' => two_err _ _ _ _ w' (hx2.1.fr (hw'.fr MI.m)))) rfl (fun y2 hy2 => ?_); refine tl_q (y_move rfl) rfl ?_; refine tl_q (y_extract rfl rfl) rfl ?_; refine tl_q (y_extract rfl rfl) rfl ?_; refine tl_q (y_assign rfl) rfl ?_; refine tl_q (y_assign rfl) rfl ?_; refine tl_nil ?_; ((refine hK3 ?_; try (clear hK3; clear K3)))
  all_goals refine tc_seq fun K4 hK4 => ?_; refine tc_lay ([]) (SB.s .nil) (fun wl3 hl3 => ?_); refine tc_region ?_; refine tl_e (e_callX rfl (.cons rfl .nil) (fun w' _ => two9_c [] (by decide) _ w' (RdT.nil w'))) rfl (fun x3 hx3 => ?_); (refine tl_e (e_callV rfl (.cons rfl (.cons rfl .nil)) (fun w' hw' => by have h := judge_c (twoT []) (twoT_nt [] (by decide)) 1 (by decide) _ _ _ _ w' (hx3.1.fr (hw'.fr MI.m)); rw [ta4] at h; exact h)) rfl (fun _ _ => ?_))
  all_goals refine tl_q (y_move rfl) rfl ?_; refine tl_q (y_extract rfl rfl) rfl ?_; refine tl_q (y_extract rfl rfl) rfl ?_; refine tl_q (y_assign rfl) rfl ?_; refine tl_q (y_assign rfl) rfl ?_; refine tl_nil ?_; ((refine hK4 ?_; try (clear hK4; clear K4)))
  all_goals refine tc_seq fun K5 hK5 => ?_; refine tc_lay ([]) (SB.s .nil) (fun wl4 hl4 => ?_); refine tc_region ?_; refine tl_e (e_callX rfl (.cons rfl .nil) (fun w' _ => two9_c [] (by decide) _ w' (RdT.nil w'))) rfl (fun x4 hx4 => ?_); refine tl_e (e_callX rfl (.cons rfl .nil) (fun w' hw' => two_cert _ _ _ _ w' (hx4.1.fr (hw'.fr MI.m)))) rfl (fun y4 hy4 => ?_); refine tl_q (y_move rfl) rfl ?_; refine tl_q (y_extract rfl rfl) rfl ?_; refine tl_q (y_extract rfl rfl) rfl ?_; refine tl_q (y_assign rfl) rfl ?_; refine tl_q (y_assign rfl) rfl ?_; refine tl_nil ?_; ((refine hK5 ?_; try (clear hK5; clear K5)))
  all_goals refine tc_seq fun K6 hK6 => ?_; refine tc_lay ([]) (SB.s .nil) (fun wl5 hl5 => ?_); refine tc_region ?_; refine tl_e (e_callX rfl (.cons rfl .nil) (fun w' _ => two9_c [] (by decide) _ w' (RdT.nil w'))) rfl (fun x5 hx5 => ?_); (refine tl_e (e_callV rfl (.cons rfl (.cons rfl (.cons rfl .nil))) (fun w' hw' => by have h := correct_c (twoT []) (twoT_nt [] (by decide)) 0 7 _ _ _ _ w' (hx5.1.fr (hw'.fr MI.m)); rw [ta6] at h; exact h)) rfl (fun _ _ => ?_))
  all_goals refine tl_q (y_move rfl) rfl ?_; refine tl_q (y_extract rfl rfl) rfl ?_; refine tl_q (y_extract rfl rfl) rfl ?_; refine tl_e (e_allocN rfl) rfl (fun b9 _ => ?_); refine tl_e (e_storeW rfl rfl (by repeat constructor) (by rfl) (by rfl) (by simp [Value.oneCell'])) rfl (fun _ _ => ?_); refine tl_q (y_assign rfl) rfl ?_; refine tl_nil ?_; ((refine hK6 ?_; try (clear hK6; clear K6)))
  all_goals refine tc_seq fun K7 hK7 => ?_; refine tc_lay ([]) (SB.s .nil) (fun wl6 hl6 => ?_); refine tc_region ?_; refine tl_e (e_callX rfl (.cons rfl .nil) (fun w' _ => two9_c [] (by decide) _ w' (RdT.nil w'))) rfl (fun x6 hx6 => ?_); refine tl_e (e_callX rfl .nil (fun w' _ => offered_c w')) rfl (fun o6 ho6 => ?_); refine tl_e (e_callX rfl (.cons rfl (.cons rfl (.cons rfl .nil))) (fun w' hw' => two_few _ _ _ _ _ w' (hx6.1.fr (hw'.fr MI.m)) (ho6.1.fr (hw'.fr MI.m)))) rfl (fun y6 hy6 => ?_); refine tl_q (y_move rfl) rfl ?_; refine tl_q (y_extract rfl rfl) rfl ?_; refine tl_q (y_extract rfl rfl) rfl ?_; refine tl_q (y_assign rfl) rfl ?_; refine tl_q (y_assign rfl) rfl ?_; refine tl_nil ?_; ((refine hK7 ?_; try (clear hK7; clear K7)))
  all_goals refine tc_seq fun K8 hK8 => ?_; refine tc_lay ([]) (SB.s .nil) (fun wl7 hl7 => ?_); refine tc_region ?_; refine tl_q (y_build_g (by repeat constructor)) rfl ?_; refine tl_e (e_bsliceG rfl (.agg rfl rfl .nil) rfl rfl) rfl (fun b49 _ => ?_); refine tl_e (e_callX rfl (.cons rfl .nil) (fun w' hw' => two9_c [(0, 0, 8)] (by decide) _ w' (RdT.own0 (xs := [(0, 0, 8)]) hw' (by repeat constructor)))) rfl (fun x7 hx7 => ?_); refine tl_e (e_callX rfl (.cons rfl .nil) (fun w' hw' => two_leave _ _ _ _ w' (hx7.1.fr (hw'.calm hx7.2 MI.m SB.s)))) rfl (fun y7 hy7 => ?_); refine tl_q (y_move rfl) rfl ?_; refine tl_q (y_extract rfl rfl) rfl ?_; refine tl_q (y_extract rfl rfl) rfl ?_; refine tl_q (y_assign rfl) rfl ?_; refine tl_q (y_assign rfl) rfl ?_; refine tl_nil ?_; ((refine hK8 ?_; try (clear hK8; clear K8)))
  all_goals refine tc_seq fun K9 hK9 => ?_; refine tc_lay ([]) (SB.s .nil) (fun wl8 hl8 => ?_)
  have r7 := hy7.1.fr (hl8.calm hy7.2 MI.m SB.s)
  obtain ⟨bE, oE, vsE, hadE, hcE, hiE⟩ := hy2.1.opensL (n := 2) rfl
  have hadE' := hadE (by decide)
  obtain ⟨adC, cpC, bC, oC, eC, hadC, hcC⟩ := hy4.1.open
  have hadC' := hadC (by decide)
  all_goals refine tc_drawS ([]) (by kernel_rfl) ?_; refine tx_p 0 rfl (by kernel_rfl) (y_move rfl) rfl (fun _ _ _ h => h) (fun _ h => h.subl SB.s SB.s) ?_; refine tx_p 1 rfl (by kernel_rfl) (y_eql rfl rfl) rfl (fun _ _ _ h => h) (fun _ h => h.subl SB.s SB.s) ?_; refine tx_p 2 rfl (by kernel_rfl) (y_move rfl) rfl (fun _ _ _ h => h) (fun _ h => h.subl SB.s SB.s) ?_; refine tx_pg 3 rfl (by kernel_rfl) rfl rfl (y_move rfl) rfl (fun _ _ _ h => h) (fun _ h => h.subl SB.s SB.s) ?_; ((refine tx_single 4 (by kernel_rfl) (to_eg rfl rfl rfl rfl (e_bslice rfl (by (repeat (first | exact .nil | apply PV.one rfl rfl)); done) rfl rfl) (.inr ⟨fun _ _ h => h.subl SB.s SB.s, fun _ h => h⟩) (fun _ _ => ?_))))
  all_goals (refine tx_single 5 (by kernel_rfl) (to_eg rfl rfl rfl rfl (e_callV rfl (.cons rfl (.cons rfl .nil)) (fun w' hw' => ints9_t [5, 6] (by decide) _ _ w' (r1.fr (hw'.fr (w0 := wl2) (S := []) MI.m)) (RdI.own0 (xs := [5, 6]) hw' (by repeat constructor)))) (.inr ⟨fun _ _ h => h.subl SB.s SB.s, fun _ h => h⟩) (fun _ _ => ?_))); refine tx_norm (L' := [true, true, true, true, true, true, false, false, false, false, false, false, false, false, false, false, false, false, false, false, false, false, false, false, false, false, false, false, false, false, false, false, false, false, false, false, false, false, false, false, false, false, false, false, false, false, false, false, false, false, false, false, false, false, false, false, false, false, false, false, false, false, false, false, false, false, false, false, false, false, false, false, false, false, false, false, false, false, false, false, false, false, false, false, false, false, false, false, false]) (by kernel_rfl) ?_; refine tx_p 6 rfl (by kernel_rfl) (y_pick_t rfl rfl) rfl (fun _ _ _ h => h) (fun _ h => h.subl SB.s SB.s) ?_; refine tx_p 7 rfl (by kernel_rfl) (y_move rfl) rfl (fun _ _ _ h => h) (fun _ h => h.subl SB.s SB.s) ?_; refine tx_pg 8 rfl (by kernel_rfl) rfl rfl (y_move rfl) rfl (fun _ _ _ h => h) (fun _ h => h.subl SB.s SB.s) ?_; refine tx_pg 9 rfl (by kernel_rfl) rfl rfl (y_eql rfl rfl) rfl (fun _ _ _ h => h) (fun _ h => h.subl SB.s SB.s) ?_; refine tx_p 10 rfl (by kernel_rfl) (y_pick_t rfl rfl) rfl (fun _ _ _ h => h) (fun _ h => h.subl SB.s SB.s) ?_; refine tx_p 11 rfl (by kernel_rfl) (y_move rfl) rfl (fun _ _ _ h => h) (fun _ h => h.subl SB.s SB.s) ?_; refine tx_norm (L' := [true, true, true, true, true, true, true, true, true, true, true, true, false, false, false, false, false, false, false, false, false, false, false, false, false, false, false, false, false, false, false, false, false, false, false, false, false, false, false, false, false, false, false, false, false, false, false, false, false, false, false, false, false, false, false, false, false, false, false, false, false, false, false, false, false, false, false, false, false, false, false, false, false, false, false, false, false, false, false, false, false, false, false, false, false, false, false, false, false]) (by kernel_rfl) ?_; refine tx_pg 12 rfl (by kernel_rfl) rfl rfl (y_move rfl) rfl (fun _ _ _ h => h) (fun _ h => h.subl SB.s SB.s) ?_; refine tx_qg 13 rfl (by kernel_rfl) rfl rfl (y_len rfl) rfl (fun _ _ _ h => h) (fun _ h => h.subl SB.s SB.s) ?_; refine tx_pg 14 rfl (by kernel_rfl) rfl rfl (y_eql rfl rfl) rfl (fun _ _ _ h => h) (fun _ h => h.subl SB.s SB.s) ?_; refine tx_p 15 rfl (by kernel_rfl) (y_pick_t rfl rfl) rfl (fun _ _ _ h => h) (fun _ h => h.subl SB.s SB.s) ?_; refine tx_p 16 rfl (by kernel_rfl) (y_move rfl) rfl (fun _ _ _ h => h) (fun _ h => h.subl SB.s SB.s) ?_; refine tx_pg 17 rfl (by kernel_rfl) rfl rfl (y_move rfl) rfl (fun _ _ _ h => h) (fun _ h => h.subl SB.s SB.s) ?_; refine tx_norm (L' := [true, true, true, true, true, true, true, true, true, true, true, true, true, true, true, true, true, true, false, false, false, false, false, false, false, false, false, false, false, false, false, false, false, false, false, false, false, false, false, false, false, false, false, false, false, false, false, false, false, false, false, false, false, false, false, false, false, false, false, false, false, false, false, false, false, false, false, false, false, false, false, false, false, false, false, false, false, false, false, false, false, false, false, false, false, false, false, false, false]) (by kernel_rfl) ?_; refine tx_pg 18 rfl (by kernel_rfl) rfl rfl (y_index rfl rfl (by omega) hadE') rfl (fun _ _ _ h => h) (fun _ h => h.subl SB.s SB.s) ?_; refine tx_qg 19 rfl (by kernel_rfl) rfl rfl (y_load1o (v := vsE.getD 0 (.slice none 0 0)) rfl (fun w' hw' => hcE w' (hw'.fr (w0 := y2.2) (S := []) MI.m) 0 (by decide))) rfl (fun _ _ _ h => h) (fun _ h => h.subl SB.s SB.s) ?_; ((refine tx_single 20 (by kernel_rfl) (to_eg rfl rfl rfl rfl (e_bslice rfl (by (repeat (first | exact .nil | apply PV.one rfl rfl)); done) rfl rfl) (.inr ⟨fun _ _ h => h.subl SB.s SB.s, fun _ h => h⟩) (fun _ _ => ?_))))
  all_goals (refine tx_single 21 (by kernel_rfl) (to_eg rfl rfl rfl rfl (e_callV rfl (.cons rfl (.cons rfl .nil)) (fun w' hw' => ints9_t [-2, -1, 0, 1, 2] (by decide) _ _ w' (hiE w' (hw'.fr (w0 := y2.2) (S := []) MI.m) 0 (by decide)) (RdI.own0 (xs := [-2, -1, 0, 1, 2]) hw' (by repeat constructor)))) (.inr ⟨fun _ _ h => h.subl SB.s SB.s, fun _ h => h⟩) (fun _ _ => ?_))); refine tx_p 22 rfl (by kernel_rfl) (y_pick_t rfl rfl) rfl (fun _ _ _ h => h) (fun _ h => h.subl SB.s SB.s) ?_; refine tx_p 23 rfl (by kernel_rfl) (y_move rfl) rfl (fun _ _ _ h => h) (fun _ h => h.subl SB.s SB.s) ?_; refine tx_norm (L' := [true, true, true, true, true, true, true, true, true, true, true, true, true, true, true, true, true, true, true, true, true, true, true, true, false, false, false, false, false, false, false, false, false, false, false, false, false, false, false, false, false, false, false, false, false, false, false, false, false, false, false, false, false, false, false, false, false, false, false, false, false, false, false, false, false, false, false, false, false, false, false, false, false, false, false, false, false, false, false, false, false, false, false, false, false, false, false, false, false]) (by kernel_rfl) ?_; refine tx_pg 24 rfl (by kernel_rfl) rfl rfl (y_move rfl) rfl (fun _ _ _ h => h) (fun _ h => h.subl SB.s SB.s) ?_; refine tx_pg 25 rfl (by kernel_rfl) rfl rfl (y_index rfl rfl (by omega) hadE') rfl (fun _ _ _ h => h) (fun _ h => h.subl SB.s SB.s) ?_; refine tx_qg 26 rfl (by kernel_rfl) rfl rfl (y_load1o (v := vsE.getD 1 (.slice none 0 0)) rfl (fun w' hw' => hcE w' (hw'.fr (w0 := y2.2) (S := []) MI.m) 1 (by decide))) rfl (fun _ _ _ h => h) (fun _ h => h.subl SB.s SB.s) ?_; ((refine tx_single 27 (by kernel_rfl) (to_eg rfl rfl rfl rfl (e_bslice rfl (by (repeat (first | exact .nil | apply PV.one rfl rfl)); done) rfl rfl) (.inr ⟨fun _ _ h => h.subl SB.s SB.s, fun _ h => h⟩) (fun _ _ => ?_))))
  all_goals (refine tx_single 28 (by kernel_rfl) (to_eg rfl rfl rfl rfl (e_callV rfl (.cons rfl (.cons rfl .nil)) (fun w' hw' => ints9_t [1] (by decide) _ _ w' (hiE w' (hw'.fr (w0 := y2.2) (S := []) MI.m) 1 (by decide)) (RdI.own0 (xs := [1]) hw' (by repeat constructor)))) (.inr ⟨fun _ _ h => h.subl SB.s SB.s, fun _ h => h⟩) (fun _ _ => ?_))); refine tx_p 29 rfl (by kernel_rfl) (y_pick_t rfl rfl) rfl (fun _ _ _ h => h) (fun _ h => h.subl SB.s SB.s) ?_; refine tx_norm (L' := [true, true, true, true, true, true, true, true, true, true, true, true, true, true, true, true, true, true, true, true, true, true, true, true, true, true, true, true, true, true, false, false, false, false, false, false, false, false, false, false, false, false, false, false, false, false, false, false, false, false, false, false, false, false, false, false, false, false, false, false, false, false, false, false, false, false, false, false, false, false, false, false, false, false, false, false, false, false, false, false, false, false, false, false, false, false, false, false, false]) (by kernel_rfl) ?_; refine tx_p 30 rfl (by kernel_rfl) (y_move rfl) rfl (fun _ _ _ h => h) (fun _ h => h.subl SB.s SB.s) ?_; refine tx_pg 31 rfl (by kernel_rfl) rfl rfl (y_move rfl) rfl (fun _ _ _ h => h) (fun _ h => h.subl SB.s SB.s) ?_; refine tx_pg 32 rfl (by kernel_rfl) rfl rfl (y_eql rfl rfl) rfl (fun _ _ _ h => h) (fun _ h => h.subl SB.s SB.s) ?_; refine tx_p 33 rfl (by kernel_rfl) (y_pick_t rfl rfl) rfl (fun _ _ _ h => h) (fun _ h => h.subl SB.s SB.s) ?_; refine tx_p 34 rfl (by kernel_rfl) (y_move rfl) rfl (fun _ _ _ h => h) (fun _ h => h.subl SB.s SB.s) ?_; refine tx_pg 35 rfl (by kernel_rfl) rfl rfl (y_move rfl) rfl (fun _ _ _ h => h) (fun _ h => h.subl SB.s SB.s) ?_; refine tx_norm (L' := [true, true, true, true, true, true, true, true, true, true, true, true, true, true, true, true, true, true, true, true, true, true, true, true, true, true, true, true, true, true, true, true, true, true, true, true, false, false, false, false, false, false, false, false, false, false, false, false, false, false, false, false, false, false, false, false, false, false, false, false, false, false, false, false, false, false, false, false, false, false, false, false, false, false, false, false, false, false, false, false, false, false, false, false, false, false, false, false, false]) (by kernel_rfl) ?_; refine tx_pg 36 rfl (by kernel_rfl) rfl rfl (y_eql rfl rfl) rfl (fun _ _ _ h => h) (fun _ h => h.subl SB.s SB.s) ?_; refine tx_p 37 rfl (by kernel_rfl) (y_pick_t rfl rfl) rfl (fun _ _ _ h => h) (fun _ h => h.subl SB.s SB.s) ?_; refine tx_p 38 rfl (by kernel_rfl) (y_move rfl) rfl (fun _ _ _ h => h) (fun _ h => h.subl SB.s SB.s) ?_; refine tx_pg 39 rfl (by kernel_rfl) rfl rfl (y_move rfl) rfl (fun _ _ _ h => h) (fun _ h => h.subl SB.s SB.s) ?_; refine tx_pg 40 rfl (by kernel_rfl) rfl rfl (y_eql rfl rfl) rfl (fun _ _ _ h => h) (fun _ h => h.subl SB.s SB.s) ?_; refine tx_p 41 rfl (by kernel_rfl) (y_pick_t rfl rfl) rfl (fun _ _ _ h => h) (fun _ h => h.subl SB.s SB.s) ?_; refine tx_norm (L' := [true, true, true, true, true, true, true, true, true, true, true, true, true, true, true, true, true, true, true, true, true, true, true, true, true, true, true, true, true, true, true, true, true, true, true, true, true, true, true, true, true, true, false, false, false, false, false, false, false, false, false, false, false, false, false, false, false, false, false, false, false, false, false, false, false, false, false, false, false, false, false, false, false, false, false, false, false, false, false, false, false, false, false, false, false, false, false, false, false]) (by kernel_rfl) ?_; refine tx_p 42 rfl (by kernel_rfl) (y_move rfl) rfl (fun _ _ _ h => h) (fun _ h => h.subl SB.s SB.s) ?_; refine tx_pg 43 rfl (by kernel_rfl) rfl rfl (y_move rfl) rfl (fun _ _ _ h => h) (fun _ h => h.subl SB.s SB.s) ?_; refine tx_qg 44 rfl (by kernel_rfl) rfl rfl (y_len rfl) rfl (fun _ _ _ h => h) (fun _ h => h.subl SB.s SB.s) ?_; refine tx_pg 45 rfl (by kernel_rfl) rfl rfl (y_eql rfl rfl) rfl (fun _ _ _ h => h) (fun _ h => h.subl SB.s SB.s) ?_; refine tx_p 46 rfl (by kernel_rfl) (y_pick_t rfl rfl) rfl (fun _ _ _ h => h) (fun _ h => h.subl SB.s SB.s) ?_; refine tx_p 47 rfl (by kernel_rfl) (y_move rfl) rfl (fun _ _ _ h => h) (fun _ h => h.subl SB.s SB.s) ?_; refine tx_norm (L' := [true, true, true, true, true, true, true, true, true, true, true, true, true, true, true, true, true, true, true, true, true, true, true, true, true, true, true, true, true, true, true, true, true, true, true, true, true, true, true, true, true, true, true, true, true, true, true, true, false, false, false, false, false, false, false, false, false, false, false, false, false, false, false, false, false, false, false, false, false, false, false, false, false, false, false, false, false, false, false, false, false, false, false, false, false, false, false, false, false]) (by kernel_rfl) ?_; refine tx_pg 48 rfl (by kernel_rfl) rfl rfl (y_move rfl) rfl (fun _ _ _ h => h) (fun _ h => h.subl SB.s SB.s) ?_; ((refine tx_pg 49 rfl (by kernel_rfl) rfl rfl (y_index rfl rfl (by omega) (by injection eC with e1; exact e1.trans hadC')) rfl (fun _ _ _ h => h) (fun _ h => h.subl SB.s SB.s) ?_))
  all_goals (refine tx_qg 50 rfl (by kernel_rfl) rfl rfl (y_loadNo (n := 2) (vs := [vi 0, vi 2]) rfl (fun w' hw' => hcC w' [] (hw'.fr (w0 := y4.2) (S := []) MI.m) (by simp) 0 (by decide))) rfl (fun _ _ _ h => h) (fun _ h => h.subl SB.s SB.s) ?_); refine tx_pg 51 rfl (by kernel_rfl) rfl rfl (y_build_g (by repeat constructor)) rfl (fun _ _ _ h => h) (fun _ h => h.subl SB.s SB.s) ?_; refine tx_pg 52 rfl (by kernel_rfl) rfl rfl (y_eql2 rfl rfl) rfl (fun _ _ _ h => h) (fun _ h => h.subl SB.s SB.s) ?_; refine tx_p 53 rfl (by kernel_rfl) (y_pick_t rfl rfl) rfl (fun _ _ _ h => h) (fun _ h => h.subl SB.s SB.s) ?_; refine tx_norm (L' := [true, true, true, true, true, true, true, true, true, true, true, true, true, true, true, true, true, true, true, true, true, true, true, true, true, true, true, true, true, true, true, true, true, true, true, true, true, true, true, true, true, true, true, true, true, true, true, true, true, true, true, true, true, true, false, false, false, false, false, false, false, false, false, false, false, false, false, false, false, false, false, false, false, false, false, false, false, false, false, false, false, false, false, false, false, false, false, false, false]) (by kernel_rfl) ?_; refine tx_p 54 rfl (by kernel_rfl) (y_move rfl) rfl (fun _ _ _ h => h) (fun _ h => h.subl SB.s SB.s) ?_; refine tx_pg 55 rfl (by kernel_rfl) rfl rfl (y_move rfl) rfl (fun _ _ _ h => h) (fun _ h => h.subl SB.s SB.s) ?_; ((refine tx_pg 56 rfl (by kernel_rfl) rfl rfl (y_index rfl rfl (by omega) (by injection eC with e1; exact e1.trans hadC')) rfl (fun _ _ _ h => h) (fun _ h => h.subl SB.s SB.s) ?_))
  all_goals (refine tx_qg 57 rfl (by kernel_rfl) rfl rfl (y_loadNo (n := 2) (vs := [vi 1, vi 0]) rfl (fun w' hw' => hcC w' [] (hw'.fr (w0 := y4.2) (S := []) MI.m) (by simp) 1 (by decide))) rfl (fun _ _ _ h => h) (fun _ h => h.subl SB.s SB.s) ?_); refine tx_pg 58 rfl (by kernel_rfl) rfl rfl (y_build_g (by repeat constructor)) rfl (fun _ _ _ h => h) (fun _ h => h.subl SB.s SB.s) ?_; refine tx_pg 59 rfl (by kernel_rfl) rfl rfl (y_eql2 rfl rfl) rfl (fun _ _ _ h => h) (fun _ h => h.subl SB.s SB.s) ?_; refine tx_norm (L' := [true, true, true, true, true, true, true, true, true, true, true, true, true, true, true, true, true, true, true, true, true, true, true, true, true, true, true, true, true, true, true, true, true, true, true, true, true, true, true, true, true, true, true, true, true, true, true, true, true, true, true, true, true, true, true, true, true, true, true, true, false, false, false, false, false, false, false, false, false, false, false, false, false, false, false, false, false, false, false, false, false, false, false, false, false, false, false, false, false]) (by kernel_rfl) ?_; refine tx_p 60 rfl (by kernel_rfl) (y_pick_t rfl rfl) rfl (fun _ _ _ h => h) (fun _ h => h.subl SB.s SB.s) ?_; refine tx_p 61 rfl (by kernel_rfl) (y_move rfl) rfl (fun _ _ _ h => h) (fun _ h => h.subl SB.s SB.s) ?_; refine tx_pg 62 rfl (by kernel_rfl) rfl rfl (y_move rfl) rfl (fun _ _ _ h => h) (fun _ h => h.subl SB.s SB.s) ?_; refine tx_pg 63 rfl (by kernel_rfl) rfl rfl (y_eql rfl rfl) rfl (fun _ _ _ h => h) (fun _ h => h.subl SB.s SB.s) ?_; refine tx_p 64 rfl (by kernel_rfl) (y_pick_t rfl rfl) rfl (fun _ _ _ h => h) (fun _ h => h.subl SB.s SB.s) ?_; refine tx_p 65 rfl (by kernel_rfl) (y_move rfl) rfl (fun _ _ _ h => h) (fun _ h => h.subl SB.s SB.s) ?_; refine tx_norm (L' := [true, true, true, true, true, true, true, true, true, true, true, true, true, true, true, true, true, true, true, true, true, true, true, true, true, true, true, true, true, true, true, true, true, true, true, true, true, true, true, true, true, true, true, true, true, true, true, true, true, true, true, true, true, true, true, true, true, true, true, true, true, true, true, true, true, true, false, false, false, false, false, false, false, false, false, false, false, false, false, false, false, false, false, false, false, false, false, false, false]) (by kernel_rfl) ?_; refine tx_qg 66 rfl (by kernel_rfl) rfl rfl (y_loadWf rfl (hl6.at (by repeat constructor)) MI.m (by simp) (by rfl)) rfl (fun _ _ _ h => h) (fun _ h => h.subl SB.s SB.s) ?_; refine tx_single 67 (by kernel_rfl) (to_eg rfl rfl rfl rfl (e_callV rfl (.cons rfl (.cons rfl .nil)) (fun w' _ => between9_c _ _ w')) (.inr ⟨fun _ _ h => h.subl SB.s SB.s, fun _ h => h⟩) (fun _ _ => ?_)); refine tx_pg 68 rfl (by kernel_rfl) rfl rfl (y_eql2 rfl rfl) rfl (fun _ _ _ h => h) (fun _ h => h.subl SB.s SB.s) ?_; refine tx_p 69 rfl (by kernel_rfl) (y_pick_t rfl rfl) rfl (fun _ _ _ h => h) (fun _ h => h.subl SB.s SB.s) ?_; refine tx_p 70 rfl (by kernel_rfl) (y_move rfl) rfl (fun _ _ _ h => h) (fun _ h => h.subl SB.s SB.s) ?_; refine tx_pg 71 rfl (by kernel_rfl) rfl rfl (y_move rfl) rfl (fun _ _ _ h => h) (fun _ h => h.subl SB.s SB.s) ?_; refine tx_norm (L' := [true, true, true, true, true, true, true, true, true, true, true, true, true, true, true, true, true, true, true, true, true, true, true, true, true, true, true, true, true, true, true, true, true, true, true, true, true, true, true, true, true, true, true, true, true, true, true, true, true, true, true, true, true, true, true, true, true, true, true, true, true, true, true, true, true, true, true, true, true, true, true, true, false, false, false, false, false, false, false, false, false, false, false, false, false, false, false, false, false]) (by kernel_rfl) ?_; refine tx_pg 72 rfl (by kernel_rfl) rfl rfl (y_eql rfl rfl) rfl (fun _ _ _ h => h) (fun _ h => h.subl SB.s SB.s) ?_; refine tx_p 73 rfl (by kernel_rfl) (y_pick_t rfl rfl) rfl (fun _ _ _ h => h) (fun _ h => h.subl SB.s SB.s) ?_; refine tx_p 74 rfl (by kernel_rfl) (y_move rfl) rfl (fun _ _ _ h => h) (fun _ h => h.subl SB.s SB.s) ?_; refine tx_pg 75 rfl (by kernel_rfl) rfl rfl (y_move rfl) rfl (fun _ _ _ h => h) (fun _ h => h.subl SB.s SB.s) ?_; ((refine tx_single 76 (by kernel_rfl) (to_eg rfl rfl rfl rfl (e_bslice rfl (by (repeat (first | exact .nil | apply PV.one rfl rfl)); done) rfl rfl) (.inr ⟨fun _ _ h => h.subl SB.s SB.s, fun _ h => h⟩) (fun _ _ => ?_))))
  all_goals (refine tx_single 77 (by kernel_rfl) (to_eg rfl rfl rfl rfl (e_callV rfl (.cons rfl (.cons rfl .nil)) (fun w' hw' => ints9_t [1] (by decide) _ _ w' (hy6.1.fr (hw'.fr (w0 := y6.2) (S := []) MI.m)) (RdI.own0 (xs := [1]) hw' (by repeat constructor)))) (.inr ⟨fun _ _ h => h.subl SB.s SB.s, fun _ h => h⟩) (fun _ _ => ?_))); refine tx_norm (L' := [true, true, true, true, true, true, true, true, true, true, true, true, true, true, true, true, true, true, true, true, true, true, true, true, true, true, true, true, true, true, true, true, true, true, true, true, true, true, true, true, true, true, true, true, true, true, true, true, true, true, true, true, true, true, true, true, true, true, true, true, true, true, true, true, true, true, true, true, true, true, true, true, true, true, true, true, true, true, false, false, false, false, false, false, false, false, false, false, false]) (by kernel_rfl) ?_; refine tx_p 78 rfl (by kernel_rfl) (y_pick_t rfl rfl) rfl (fun _ _ _ h => h) (fun _ h => h.subl SB.s SB.s) ?_; refine tx_p 79 rfl (by kernel_rfl) (y_move rfl) rfl (fun _ _ _ h => h) (fun _ h => h.subl SB.s SB.s) ?_; refine tx_pg 80 rfl (by kernel_rfl) rfl rfl (y_move rfl) rfl (fun _ _ _ h => h) (fun _ h => h.subl SB.s SB.s) ?_; refine tx_pg 81 rfl (by kernel_rfl) rfl rfl (y_eql rfl rfl) rfl (fun _ _ _ h => h) (fun _ h => h.subl SB.s SB.s) ?_; refine tx_p 82 rfl (by kernel_rfl) (y_pick_t rfl rfl) rfl (fun _ _ _ h => h) (fun _ h => h.subl SB.s SB.s) ?_; refine tx_p 83 rfl (by kernel_rfl) (y_move rfl) rfl (fun _ _ _ h => h) (fun _ h => h.subl SB.s SB.s) ?_; refine tx_norm (L' := [true, true, true, true, true, true, true, true, true, true, true, true, true, true, true, true, true, true, true, true, true, true, true, true, true, true, true, true, true, true, true, true, true, true, true, true, true, true, true, true, true, true, true, true, true, true, true, true, true, true, true, true, true, true, true, true, true, true, true, true, true, true, true, true, true, true, true, true, true, true, true, true, true, true, true, true, true, true, true, true, true, true, true, true, false, false, false, false, false]) (by kernel_rfl) ?_; refine tx_pg 84 rfl (by kernel_rfl) rfl rfl (y_move rfl) rfl (fun _ _ _ h => h) (fun _ h => h.subl SB.s SB.s) ?_; ((refine tx_single 85 (by kernel_rfl) (to_eg rfl rfl rfl rfl (e_bslice rfl (by (repeat (first | exact .nil | apply PV.one rfl rfl)); done) rfl rfl) (.inr ⟨fun _ _ h => h.subl SB.s SB.s, fun _ h => h⟩) (fun _ _ => ?_))))
  all_goals (refine tx_single 86 (by kernel_rfl) (to_eg rfl rfl rfl rfl (e_callV rfl (.cons rfl (.cons rfl .nil)) (fun w' hw' => ints9_t [2] (by decide) _ _ w' (r7.fr (hw'.fr (w0 := wl8) (S := []) MI.m)) (RdI.own0 (xs := [2]) hw' (by repeat constructor)))) (.inr ⟨fun _ _ h => h.subl SB.s SB.s, fun _ h => h⟩) (fun _ _ => ?_))); refine tx_p 87 rfl (by kernel_rfl) (y_pick_t rfl rfl) rfl (fun _ _ _ h => h) (fun _ h => h.subl SB.s SB.s) ?_; refine tx_p 88 rfl (by kernel_rfl) (y_assign rfl) rfl (fun _ _ _ h => h) (fun _ h => h.subl SB.s SB.s) ?_; refine tx_done (by kernel_rfl) ?_; ((refine hK9 ?_; try (clear hK9; clear K9)))
  all_goals refine tc_ret ?_; (repeat (first | refine tk_then_ret ?_))
  all_goals (refine tk_ret rfl rfl (.cons (.tmp rfl) .nil) ?_)
  all_goals (
   exact fun w' hw' => ⟨rfl, hw'.fr (w0 := w) (S := []) MI.m⟩)
end Go.Sp
/-
  Helpers of the statements about trials.
-/
namespace Go.Sp
open Go Go.Proofs
theorem e_mkS {P : Program} {N : NN} {F : List (Nat × Value)} {bs : List (World × List Nat)} {H : List (Nat × Obj)} {ty : TypeId} {pos : String} {after : Array Edge} {g : Option (Nat × Bool)} {dd : Tmp} {t e : TypeId} {sz by_ : Nat} {x y : Operand} {z : Value} {n : Nat} {out : List Value} [hs : TySlice P t e sz] (hi : (P.info? e).map (fun i => (i.zero, i.size, i.bytes)) = some (some z, sz, by_)) (hd : Nat.blt dd N.n = true)
    (hx : evalO F x = some (.int .i64 n)) (hy : evalO F y = some (.int .i64 n)) (hb : by_ * n ≤ 1000000) (hn : n * sz ≤ 1000000) (hn2 : n ≤ 1000000) (hout : madeCells z.cells (n * sz) = out.toArray) :
    OpE P ⟨some dd, .makeSlice t x y, ty, pos, after, g⟩ N F bs H (fun _ : Nat => True) (fun b => (dd, .slice (some ⟨b, 0, none⟩) n n) :: F) (fun _ => bs) (fun b => (b, .cells out.toArray e (0, 0)) :: H) := by
  unfold OpE
  intro a w ht hw K Q hK
  obtain ⟨i, h1, h2⟩ := Option.map_eq_some_iff.1 hi
  simp only [Prod.mk.injEq] at h2
  have hbb : (i.bytes : Int) * (n : Int) ≤ 281474976710656 := by
    have : ((i.bytes * n : Nat) : Int) ≤ 1000000 := by rw [h2.2.2]; omega
    rw [Int.natCast_mul] at this; omega
  have hrun := run_makeSlice (P := P) w t e i z hs.ty h1 h2.1 .i64 .i64 n n (by omega) (Int.le_refl _) (by rw [h2.2.1, Int.toNat_natCast]; omega) hbb (by omega)
  simp only [Int.toNat_natCast, h2.2.1, hout] at hrun
  unfold Oper.wp
  simp only [execOp, Sem.run_bind, ht.eval hx, ht.eval hy, hrun, Result.andThen, Sem.run_pure, Oper.upon]
  exact hK w.heap.size _ _ trivial (ht.put hd _) (hw.alloc _)
def thin9P (t : Tr) : Prop := (t.s.weights.length : Int) ≤ 9 ∧ (t.parts.length : Int) ≤ 6 ∧ (t.liquids.length : Int) ≤ 5 ∧ (t.tests.length : Int) ≤ 9
instance (t : Tr) : Decidable (thin9P t) := by unfold thin9P; infer_instance
theorem thin9P.nt {t : Tr} (h : thin9P t) : NT t := by
  obtain ⟨h1, h2, h3, h4⟩ := h
  exact ⟨by omega, by omega, by omega, by omega⟩
end Go.Sp
