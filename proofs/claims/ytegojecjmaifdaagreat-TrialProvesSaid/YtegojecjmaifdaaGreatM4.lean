
/-
  Package trial: offers; whether two lists of errors are alike.
-/
import Derived.Test.YtegojecjmaifdaaGreatM3
set_option linter.unusedVariables false
set_option linter.unusedSimpArgs false
set_option linter.deprecated false
namespace Go.Sp
open Go Go.Proofs
theorem indexFuncO_c (g : FuncId) [GoFn Tryz.prog g] (first cap : Array Value) (p : Int × Int → Bool) (xs : List (Int × Int)) (hx : (xs.length : Int) ≤ 9000000000000000000) (sl : Value) (w : World) (hr : RdR w sl xs) (ht : TestsR Tryz.prog g first cap p w) :
    CnV Tryz.prog 162 #[sl, .func (.func g) first cap] w (vi (idxR xs p)) := by
  obtain ⟨ad, cp, b0, o, rfl, had, hcell⟩ := hr.open
  refine cnv (vs := [_, _]) Tryz.func162 rfl rfl ?_
  all_goals refine tc_seq fun K1 hK1 => ?_; refine tc_region ?_; refine tl_q (y_assign rfl) rfl ?_; refine tl_nil ?_; ((refine hK1 ?_; try (clear hK1; clear K1)))
  all_goals refine tc_seq fun K2 hK2 => ?_; refine tc_seq fun K3 hK3 => ?_; refine tc_region ?_; refine tl_q (y_move rfl) rfl ?_; refine tl_q (y_len rfl) rfl ?_; refine tl_q (y_move rfl) rfl ?_; refine tl_nil ?_; ((refine hK3 ?_; try (clear hK3; clear K3)))
  all_goals refine tc_block ?_
  all_goals (
   refine tc_loop (fun k : Nat => k ≤ xs.length ∧ ∀ j, j < k → p (xs.getD j (0, 0)) = false) (fun k => [(0, .slice ad xs.length cp), (1, .func (.func g) first cap), (7, vi xs.length), (8, vi k)]) (fun _ => [(w, [])]) (fun _ => []) (fun k => xs.length - k) ?_ ?_
   · exact tk_start 0 ⟨Nat.zero_le _, fun j hj => absurd hj (Nat.not_lt_zero j)⟩ (.cons rfl (.cons rfl (.cons rfl (.cons rfl .nil)))) (fun _ h => h)
   · rintro k ⟨hk, hj⟩
     all_goals refine tc_seq fun K4 hK4 => ?_; refine tc_region ?_; refine tl_q (y_lss rfl rfl) rfl ?_; refine tl_nil ?_; ((refine hK4 ?_; try (clear hK4; clear K4)))
     all_goals refine tc_seq fun K5 hK5 => ?_
     all_goals (
      refine tc_cond rfl (fun hc => ?_) (fun hc => ?_)
      · try simp only [qn1, qn2, qn3, qn4, qn5, qn6, qn7, qn8] at hc
        all_goals refine tc_skip ?_; ((refine hK5 ?_; try (clear hK5; clear K5)))
        all_goals refine tc_seq fun K6 hK6 => ?_; refine tc_block ?_; refine tc_seq fun K7 hK7 => ?_; refine tc_region ?_; refine tl_q (y_move rfl) rfl ?_; refine tl_q (y_assign rfl) rfl ?_; refine tl_nil ?_; ((refine hK7 ?_; try (clear hK7; clear K7)))
        all_goals refine tc_seq fun K8 hK8 => ?_
        have had' := had (by omega)
        all_goals refine tc_region ?_; refine tl_q (y_move rfl) rfl ?_; refine tl_q (y_move rfl) rfl ?_; refine tl_q (y_move rfl) rfl ?_; refine tl_q (y_index rfl rfl (by omega) had') rfl ?_; refine tl_q (y_loadNo rfl (fun w' hw' => hcell w' [] (hw'.fr (by simp)) (by simp) (Int.toNat k) (by omega))) rfl ?_; refine tl_e (e_callVf rfl rfl (.cons rfl .nil) (fun w' hw' => ht (xs.getD (Int.toNat k) (0, 0)) w' (hw'.fr (by simp)))) rfl (fun _ _ => ?_); refine tl_nil ?_; ((refine hK8 ?_; try (clear hK8; clear K8)))
        all_goals (
         refine tc_cond rfl (fun hc => ?_) (fun hc => ?_)
         · all_goals (skip)
           all_goals refine tc_seq fun K9 hK9 => ?_; refine tc_region ?_; refine tl_q (y_move rfl) rfl ?_; refine tl_q (y_assign rfl) rfl ?_; refine tl_nil ?_; ((refine hK9 ?_; try (clear hK9; clear K9)))
           all_goals refine tc_ret ?_; (repeat (first | refine tk_then_ret ?_ | refine tk_block_ret ?_))
           all_goals (refine tk_ret rfl rfl (.cons (.tmp rfl) .nil) ?_)
           all_goals (
            first | exact fun w' hw' => ⟨by rw [idxR_hit (k := k) (by omega) (by simpa using hc) hj]; rfl, hw'.fr (by simp)⟩ | exact fun w' hw' => ⟨by rw [idxR_miss (fun j hjj => hj j (by omega))]; rfl, hw'.fr (by simp)⟩)
         · all_goals (skip)
           all_goals refine tc_skip ?_; ((refine hK6 ?_; try (clear hK6; clear K6)))
           all_goals refine tc_region ?_; refine tl_q (y_add rfl rfl (by omega)) rfl ?_; refine tl_q (y_move rfl) rfl ?_; refine tl_nil ?_
           all_goals (
            exact tk_round (k + 1) ⟨by omega, fun j hj' => by rcases Nat.lt_succ_iff_lt_or_eq.1 hj' with h | rfl; exact hj j h; simpa using hc⟩ (by omega) (.cons rfl (.cons rfl (.cons rfl (.cons rfl .nil)))) (fun _ h => h)))
      · try simp only [qn1, qn2, qn3, qn4, qn5, qn6, qn7, qn8] at hc
        all_goals refine tc_exit ?_; ((refine hK2 ?_; try (clear hK2; clear K2)))
        all_goals refine tc_seq fun K10 hK10 => ?_; refine tc_region ?_; refine tl_q (y_assign rfl) rfl ?_; refine tl_nil ?_; ((refine hK10 ?_; try (clear hK10; clear K10)))
        all_goals refine tc_ret ?_; (repeat (first | refine tk_then_ret ?_))
        all_goals (refine tk_ret rfl rfl (.cons (.tmp rfl) .nil) ?_)
        all_goals (
         first | exact fun w' hw' => ⟨by rw [idxR_hit (k := k) (by omega) (by simpa using hc) hj]; rfl, hw'.fr (by simp)⟩ | exact fun w' hw' => ⟨by rw [idxR_miss (fun j hjj => hj j (by omega))]; rfl, hw'.fr (by simp)⟩)))
theorem containsFuncO_c (g : FuncId) [GoFn Tryz.prog g] (first cap : Array Value) (p : Int × Int → Bool) (xs : List (Int × Int)) (hx : (xs.length : Int) ≤ 9000000000000000000) (sl : Value) (w : World) (hr : RdR w sl xs) (ht : TestsR Tryz.prog g first cap p w) :
    CnV Tryz.prog 134 #[sl, .func (.func g) first cap] w (.bool (xs.any p)) := by
  refine cnv (vs := [_, _]) Tryz.func134 rfl rfl ?_
  all_goals refine tc_seq fun K1 hK1 => ?_; refine tc_region ?_; refine tl_q (y_assign rfl) rfl ?_; refine tl_nil ?_; ((refine hK1 ?_; try (clear hK1; clear K1)))
  all_goals refine tc_seq fun K2 hK2 => ?_; refine tc_region ?_; refine tl_q (y_move rfl) rfl ?_; refine tl_q (y_move rfl) rfl ?_; refine tl_e (e_callV rfl (.cons rfl (.cons rfl .nil)) (fun w' hw' => indexFuncO_c g first cap p xs hx _ w' (hr.fr (hw'.fr (by simp))) (ht.fr (hw'.fr (by simp))))) rfl (fun _ _ => ?_); refine tl_q (y_geq rfl rfl) rfl ?_; refine tl_q (y_assign rfl) rfl ?_; refine tl_nil ?_; ((refine hK2 ?_; try (clear hK2; clear K2)))
  all_goals refine tc_ret ?_; (repeat (first | refine tk_then_ret ?_))
  all_goals (refine tk_ret rfl rfl (.cons (.tmp rfl) .nil) ?_)
  all_goals (
   exact fun w' hw' => ⟨by rw [← idxR_any]; rfl, hw'.fr (by simp)⟩)
theorem allO1_c (g : FuncId) [GoFn Tryz.prog g] (first cap : Array Value) (p : Int × Int → Bool) (x : Int × Int) (b : Nat) (w : World) (hb : w.cell? ⟨b, 0, none⟩ = some (.func (.func g) first cap)) (ht : TestsR Tryz.prog g first cap p w) :
    CnV Tryz.prog 135 #[rdV x, .pointer (some ⟨b, 0, none⟩)] w (.bool (!(p x))) := by
  refine cnv (vs := [_, _]) Tryz.func135 rfl rfl ?_
  all_goals refine tc_seq fun K1 hK1 => ?_; refine tc_region ?_; refine tl_e (e_box rfl rfl rfl) rfl (fun _ _ => ?_); refine tl_q (y_assign rfl) rfl ?_; refine tl_nil ?_; ((refine hK1 ?_; try (clear hK1; clear K1)))
  all_goals refine tc_seq fun K2 hK2 => ?_; refine tc_region ?_; refine tl_q (y_load1o rfl (fun w' hw' => (hw'.fr (S := []) (w0 := w) (by simp)).cell (by simp) hb)) rfl ?_; refine tl_q (y_loadW rfl (by repeat constructor) (by rfl)) rfl ?_; refine tl_e (e_callVf rfl rfl (.cons rfl .nil) (fun w' hw' => ht x w' (hw'.fr (by simp)))) rfl (fun _ _ => ?_); refine tl_q (y_not rfl) rfl ?_; refine tl_q (y_assign rfl) rfl ?_; refine tl_nil ?_; ((refine hK2 ?_; try (clear hK2; clear K2)))
  all_goals refine tc_ret ?_; (repeat (first | refine tk_then_ret ?_))
  all_goals (refine tk_ret rfl rfl (.cons (.tmp rfl) .nil) ?_)
  all_goals (
   exact fun w' hw' => ⟨rfl, hw'.fr (by simp)⟩)
theorem allO_c (g : FuncId) [GoFn Tryz.prog g] (first cap : Array Value) (p : Int × Int → Bool) (xs : List (Int × Int)) (hx : (xs.length : Int) ≤ 9000000000000000000) (sl : Value) (w : World) (hr : RdR w sl xs) (ht : TestsR Tryz.prog g first cap p w) :
    CnV Tryz.prog 85 #[sl, .func (.func g) first cap] w (.bool (xs.all p)) := by
  refine cnv (vs := [_, _]) Tryz.func85 rfl rfl ?_
  all_goals refine tc_seq fun K1 hK1 => ?_; refine tc_region ?_; refine tl_e (e_box rfl rfl rfl) rfl (fun b _ => ?_); refine tl_q (y_assign rfl) rfl ?_; refine tl_nil ?_; ((refine hK1 ?_; try (clear hK1; clear K1)))
  all_goals refine tc_seq fun K2 hK2 => ?_; refine tc_region ?_; refine tl_q (y_move rfl) rfl ?_; refine tl_q (y_fn .nil (.cons rfl .nil)) rfl ?_; refine tl_e (e_callV rfl (.cons rfl (.cons rfl .nil)) (fun w' hw' => containsFuncO_c 135 #[] #[.pointer (some ⟨b, 0, none⟩)] (fun x => !(p x)) xs hx _ w' (hr.fr (hw'.fr (by simp))) (fun x w2 f => by simpa using allO1_c g first cap p x b w2 (f.cell (by simp) (cellAt_cell? (hw'.heap _ (HM.mem (by repeat constructor))) rfl)) ((ht.fr (hw'.fr (by simp))).fr f)))) rfl (fun _ _ => ?_); refine tl_q (y_not rfl) rfl ?_; refine tl_q (y_assign rfl) rfl ?_; refine tl_nil ?_; ((refine hK2 ?_; try (clear hK2; clear K2)))
  all_goals refine tc_ret ?_; (repeat (first | refine tk_then_ret ?_))
  all_goals (refine tk_ret rfl rfl (.cons (.tmp rfl) .nil) ?_)
  all_goals (
   exact fun w' hw' => ⟨by simp [outV, List.all_eq_not_any_not], hw'.fr (by simp)⟩)
def offB (t : Tr) (x : Int × Int) : Bool := decide ((0 ≤ x.1 ∧ x.1 ≤ t.s.weights.length) ∧ (1 ≤ x.2 ∧ x.2 ≤ 2000))
theorem offer_c (t : Tr) (x : Int × Int) (sl pl ll tl : Value) (w : World) (hr : RdI w sl t.s.weights) : CnV Tryz.prog 84 #[trV t sl pl ll tl, rV x] w (.bool (offB t x)) := by
  refine cnv (vs := [_, _]) Tryz.func84 rfl rfl ?_
  all_goals refine tc_seq fun K1 hK1 => ?_; refine tc_region ?_; refine tl_e (e_box rfl rfl rfl) rfl (fun _ _ => ?_); refine tl_e (e_box rfl rfl rfl) rfl (fun _ _ => ?_); refine tl_q (y_assign rfl) rfl ?_; refine tl_nil ?_; ((refine hK1 ?_; try (clear hK1; clear K1)))
  all_goals refine tc_seq fun K2 hK2 => ?_; refine tc_region ?_; refine tl_q (y_loadW rfl (by repeat constructor) (by rfl)) rfl ?_; refine tl_q (y_field rfl) rfl ?_; refine tl_q (y_load1 rfl (by repeat constructor) (by rfl)) rfl ?_; refine tl_e (e_callV rfl (.cons rfl (.cons rfl .nil)) (fun w' hw' => tload_c t x.1 sl pl ll tl w' (hr.fr (hw'.fr (by simp))))) rfl (fun _ _ => ?_); refine tl_q (y_move rfl) rfl ?_; ((refine tl_gs rfl rfl (fun hc => ?_) (fun hc => ?_) <;> (try simp only [qn1, qn2, qn3, qn4, qn5, qn6, qn7, qn8] at hc) <;> (first | refine tl_sk rfl rfl rfl rfl ?_ | refine tl_qg rfl rfl (y_field rfl) rfl ?_)))
  all_goals (first | refine tl_sk rfl rfl rfl rfl ?_ | refine tl_qg rfl rfl (y_load1 rfl (by repeat constructor) (by rfl)) rfl ?_); (first | refine tl_sk rfl rfl rfl rfl ?_ | refine tl_eg rfl rfl rfl (e_callV rfl (.cons rfl (.cons rfl (.cons rfl .nil))) (fun w' _ => twithin_c _ _ _ w')) (fun _ _ => ?_)); (first | refine tl_q (y_pick_t rfl rfl) rfl ?_ | refine tl_q (y_pick_f rfl rfl) rfl ?_); refine tl_q (y_assign rfl) rfl ?_; refine tl_nil ?_; ((refine hK2 ?_; try (clear hK2; clear K2)))
  all_goals refine tc_ret ?_; (repeat (first | refine tk_then_ret ?_))
  all_goals (refine tk_ret rfl rfl (.cons (.tmp rfl) .nil) ?_)
  all_goals (
   refine fun w' hw' => ⟨?_, hw'.fr (by simp)⟩
   refine congrArg (fun b => Ending.returned (Value.bool b)) ?_
   unfold offB
   first
   | exact decide_eq_decide.2 (by omega)
   | exact (decide_eq_false (by omega)).symm)
/-- All that was known is known still, but for one block. -/
inductive AB (H : List (Nat × Obj)) (bm : Nat) : List (Nat × Obj) → Prop
  | nil : AB H bm []
  | old {b : Nat} {o : Obj} {r : List (Nat × Obj)} : HM b o H → AB H bm r → AB H bm ((b, o) :: r)
  | but {o : Obj} {r : List (Nat × Obj)} : AB H bm r → AB H bm ((bm, o) :: r)
theorem AB.mem {H : List (Nat × Obj)} {bm : Nat} {r : List (Nat × Obj)} (h : AB H bm r) : ∀ p ∈ r, p ∈ H ∨ p.1 = bm := by
  induction h with
  | nil => intro p hp; cases hp
  | old hm _ ih =>
    intro p hp
    rcases List.mem_cons.1 hp with rfl | hp
    · exact .inl hm.mem
    · exact ih p hp
  | but _ ih =>
    intro p hp
    rcases List.mem_cons.1 hp with rfl | hp
    · exact .inr rfl
    · exact ih p hp
theorem HG.calmM {bs bs0 : List (World × List Nat)} {H H0 : List (Nat × Obj)} {w w1 : World} (hw : HG bs H w) (h1 : HG bs0 H0 w1) {bm : Nat} (hb : (w1, H0.map Prod.fst) ∈ bs) (hs : AB H bm H0) : Fr [bm] w1 w :=
  let f := hw.base _ hb
  ⟨f.os, f.tape, f.output, f.size, fun k hk hn => by
    by_cases hm : k ∈ H0.map Prod.fst
    · obtain ⟨p, hp, rfl⟩ := List.mem_map.1 hm
      rcases hs.mem p hp with g | g
      · rw [hw.heap p g, h1.heap p hp]
      · exact absurd (by rw [g]; simp) hn
    · exact f.block k hk hm⟩
def alikeF (t : Tr) (a b : Int × Int × Int) (k d : Int) : Bool := decide (a = b) || (shownL t a k d).any fun x => decide (x ∈ shownL t b k d)
theorem alike1_c (l : List Int) (hl : (l.length : Int) ≤ 9000000000000000000) (d : Int) (v : Value) (b9 : Nat) (w : World) (hb : w.heap[b9]? = some (.cells #[v] 22 (0, 0))) (hr : RdI w v l) :
    CnV Tryz.prog 137 #[vi d, ptr b9] w (.bool (decide (d ∈ l))) := by
  refine cnv (vs := [_, _]) Tryz.func137 rfl rfl ?_
  all_goals refine tc_seq fun K1 hK1 => ?_; refine tc_region ?_; refine tl_q (y_assign rfl) rfl ?_; refine tl_nil ?_; ((refine hK1 ?_; try (clear hK1; clear K1)))
  all_goals refine tc_seq fun K2 hK2 => ?_; refine tc_region ?_; refine tl_q (y_load1o (v := v) rfl (fun w' hw' => cell0 ((hw'.fr (w0 := w) (S := []) (by simp)).keep hb) rfl)) rfl ?_; refine tl_q (y_move rfl) rfl ?_; refine tl_e (e_callV rfl (.cons rfl (.cons rfl .nil)) (fun w' hw' => contains_c l hl d v w' (hr.fr (hw'.fr (by simp))))) rfl (fun _ _ => ?_); refine tl_q (y_assign rfl) rfl ?_; refine tl_nil ?_; ((refine hK2 ?_; try (clear hK2; clear K2)))
  all_goals refine tc_ret ?_; (repeat (first | refine tk_then_ret ?_))
  all_goals (refine tk_ret rfl rfl (.cons (.tmp rfl) .nil) ?_)
  all_goals (
   exact fun w' hw' => ⟨rfl, hw'.fr (by simp)⟩)
theorem shown_len (t : Tr) (hv : VT t) (e : Int × Int × Int) (k d : Int) : (shownL t e k d).length ≤ 101 := by
  have h1 := hv.s.d1
  have h2 := hv.s.d2
  unfold shownL
  split
  · simp
  · have := shownN_len t e k d (t.s.divisions + 1).toNat
    omega
theorem alike_c (t : Tr) (hv : VT t) (a b : Int × Int × Int) (ha : ErB a) (hb : ErB b) (k d : Int) (sl pl ll tl : Value) (w : World) (bw bm : Nat) (es : Array MapEntry) (ck : Nat) (hT : TW w t sl pl ll tl bw bm es ck) :
    CnX Tryz.prog 87 #[ptr bw, tsV a, tsV b, .agg #[vi k, vi d]] w [bm] (fun _ : Array MapEntry × Nat => .bool (alikeF t a b k d)) (fun y w' => Cache (readV t.s) y.1.toList ∧ w'.heap[bm]? = some (.map y.1 y.2)) := by
  have hne := hT.ne
  have hla := shown_len t hv a k d
  have hlb := shown_len t hv b k d
  refine cnxS (vs := [_, _, _, _]) (S := [bw, bm]) [(bw, wkT t sl pl ll tl bm), (bm, .map es ck)] Tryz.func87 rfl rfl ⟨by simp [hT.hw, hT.hm], by simp [hne], by simp⟩ ?_
  all_goals refine tc_seq fun K1 hK1 => ?_; refine tc_region ?_; refine tl_e (e_box rfl rfl rfl) rfl (fun b5 _ => ?_); refine tl_e (e_box rfl rfl rfl) rfl (fun b6 _ => ?_); refine tl_e (e_box rfl rfl rfl) rfl (fun b7 _ => ?_); refine tl_q (y_assign rfl) rfl ?_; refine tl_nil ?_; ((refine hK1 ?_; try (clear hK1; clear K1)))
  all_goals refine tc_seq fun K2 hK2 => ?_; refine tc_seq fun K3 hK3 => ?_; refine tc_region ?_; refine tl_q (y_loadW rfl (by repeat constructor) (by rfl)) rfl ?_; refine tl_q (y_loadW rfl (by repeat constructor) (by rfl)) rfl ?_; refine tl_q (y_eqlA3 rfl rfl) rfl ?_; refine tl_nil ?_; ((refine hK3 ?_; try (clear hK3; clear K3)))
  all_goals (
   refine tc_cond rfl (fun hc => ?_) (fun hc => ?_)
   · try simp only [qn1, qn2, qn3, qn4, qn5, qn6, qn7, qn8] at hc
     all_goals refine tc_seq fun K4 hK4 => ?_; refine tc_region ?_; refine tl_q (y_assign rfl) rfl ?_; refine tl_nil ?_; ((refine hK4 ?_; try (clear hK4; clear K4)))
     all_goals refine tc_ret ?_; (repeat (refine tk_then_ret ?_))
     all_goals (refine tk_ret rfl rfl (.cons (.tmp rfl) .nil) ?_)
     all_goals (
      refine fun w' hw' => ?_
      have hb2 : Fr [bm] w w' := Fr.but (hw'.fr (w0 := w) (S := [bw, bm]) (by simp)) (by rw [hw'.heap (bw, wkT t sl pl ll tl bm) (HM.mem (by repeat constructor)), hT.hw])
      have hb1 := hw'.heap _ (HM.mem (b := bm) (by repeat constructor))
      first
      | (have hab : a = b := Prod.ext hc.1 (Prod.ext hc.2.1 hc.2.2)
         exact ⟨(es, ck), by unfold alikeF; rw [decide_eq_true hab, Bool.true_or]; rfl, hb2, hT.hc, hb1⟩)
      | (have hab : ¬ a = b := fun e => hc (by rw [e]; exact ⟨rfl, rfl, rfl⟩)
         exact ⟨(z.1.2.1, z.1.2.2), by unfold alikeF; rw [decide_eq_false hab, Bool.false_or]; rfl, hb2, hz.1.2, hb1⟩))
   · try simp only [qn1, qn2, qn3, qn4, qn5, qn6, qn7, qn8] at hc
     all_goals refine tc_skip ?_; ((refine hK2 ?_; try (clear hK2; clear K2)))
     all_goals refine tc_seq fun K5 hK5 => ?_; refine tc_region ?_; refine tl_q (y_move rfl) rfl ?_; refine tl_q (y_loadW rfl (by repeat constructor) (by rfl)) rfl ?_; refine tl_q (y_loadW rfl (by repeat constructor) (by rfl)) rfl ?_; refine tl_e (e_callUX rfl (.cons rfl (.cons rfl (.cons rfl .nil))) (fun w' hw' => shown_c t hv b hb k d sl pl ll tl w' bw bm es ck (hT.fr2 (hw'.fr (by simp)) (hw'.heap _ (HM.mem (by repeat constructor))) (hw'.heap _ (HM.mem (b := bm) (by repeat constructor))) hT.hc)) (fun _ => (by repeat constructor))) rfl (fun y hy => ?_); refine tl_e (e_alloc1 rfl) rfl (fun b9 _ => ?_); refine tl_e (e_store1 rfl rfl (by repeat constructor) (by repeat constructor) (by rfl) (by rfl)) rfl (fun _ _ => ?_); refine tl_nil ?_; ((refine hK5 ?_; try (clear hK5; clear K5)))
     all_goals refine tc_seq fun K6 hK6 => ?_; refine tc_region ?_; refine tl_q (y_move rfl) rfl ?_; refine tl_q (y_loadW rfl (by repeat constructor) (by rfl)) rfl ?_; refine tl_q (y_loadW rfl (by repeat constructor) (by rfl)) rfl ?_; refine tl_e (e_callUX rfl (.cons rfl (.cons rfl (.cons rfl .nil))) (fun w' hw' => shown_c t hv a ha k d sl pl ll tl w' bw bm y.1.2.1 y.1.2.2 (hT.fr2 (hw'.fr (w0 := w) (S := [bw, bm]) (by simp)) (hw'.heap _ (HM.mem (by repeat constructor))) (hw'.heap _ (HM.mem (b := bm) (by repeat constructor))) hy.1.2)) (fun _ => (by repeat constructor))) rfl (fun z hz => ?_); refine tl_q (y_fn .nil (.cons rfl .nil)) rfl ?_; (refine tl_e (e_callV rfl (.cons rfl (.cons rfl .nil)) (fun w' hw' => containsFunc_c 137 #[] #[ptr b9] (fun x => decide (x ∈ shownL t b k d)) (shownL t a k d) (by omega) _ w' (hz.1.1.fr (hw'.calm hz.2 (by simp) (List.Sublist.refl _))) (fun x w2 f => by simpa using alike1_c (shownL t b k d) (by omega) x _ b9 w2 (f.keep (hw'.heap _ (HM.mem (b := b9) (by repeat constructor)))) (Reads.frM hy.1.1 ((hw'.calmM hy.2 (bm := bm) MI.m (by (repeat (first | exact .nil | (refine AB.old ?_ ?_; (focus ((repeat constructor); done))) | refine AB.but ?_)); done)).trans f (by simp)) (fun q hq => by rw [List.mem_singleton.1 hq]; exact ⟨_, _, hy.2.heap _ (HM.mem (b := bm) (by repeat constructor))⟩))))) rfl (fun _ _ => ?_))
     all_goals refine tl_q (y_assign rfl) rfl ?_; refine tl_nil ?_; ((refine hK6 ?_; try (clear hK6; clear K6)))
     all_goals refine tc_ret ?_; (repeat (first | refine tk_then_ret ?_))
     all_goals (refine tk_ret rfl rfl (.cons (.tmp rfl) .nil) ?_)
     all_goals (
      refine fun w' hw' => ?_
      have hb2 : Fr [bm] w w' := Fr.but (hw'.fr (w0 := w) (S := [bw, bm]) (by simp)) (by rw [hw'.heap (bw, wkT t sl pl ll tl bm) (HM.mem (by repeat constructor)), hT.hw])
      have hb1 := hw'.heap _ (HM.mem (b := bm) (by repeat constructor))
      first
      | (have hab : a = b := Prod.ext hc.1 (Prod.ext hc.2.1 hc.2.2)
         exact ⟨(es, ck), by unfold alikeF; rw [decide_eq_true hab, Bool.true_or]; rfl, hb2, hT.hc, hb1⟩)
      | (have hab : ¬ a = b := fun e => hc (by rw [e]; exact ⟨rfl, rfl, rfl⟩)
         exact ⟨(z.1.2.1, z.1.2.2), by unfold alikeF; rw [decide_eq_false hab, Bool.false_or]; rfl, hb2, hz.1.2, hb1⟩)))
end Go.Sp
/-
  Package trial: the fewest offers that decide.
-/
namespace Go.Sp
open Go Go.Proofs
def fewP (ps : List (List Int)) (xs : List Int) : Bool := ps.all fun ap => ap.any fun i => decide (i ∈ xs)
theorem few1_c (l : List Int) (hl : (l.length : Int) ≤ 9000000000000000000) (d : Int) (v : Value) (b9 : Nat) (w : World) (hb : w.heap[b9]? = some (.cells #[v] 22 (0, 0))) (hr : RdI w v l) :
    CnV Tryz.prog 93 #[vi d, ptr b9] w (.bool (decide (d ∈ l))) := by
  refine cnv (vs := [_, _]) Tryz.func93 rfl rfl ?_
  all_goals refine tc_seq fun K1 hK1 => ?_; refine tc_region ?_; refine tl_q (y_assign rfl) rfl ?_; refine tl_nil ?_; ((refine hK1 ?_; try (clear hK1; clear K1)))
  all_goals refine tc_seq fun K2 hK2 => ?_; refine tc_region ?_; refine tl_q (y_load1o (v := v) rfl (fun w' hw' => cell0 ((hw'.fr (w0 := w) (S := []) (by simp)).keep hb) rfl)) rfl ?_; refine tl_q (y_move rfl) rfl ?_; refine tl_e (e_callV rfl (.cons rfl (.cons rfl .nil)) (fun w' hw' => contains_c l hl d v w' (hr.fr (hw'.fr (by simp))))) rfl (fun _ _ => ?_); refine tl_q (y_assign rfl) rfl ?_; refine tl_nil ?_; ((refine hK2 ?_; try (clear hK2; clear K2)))
  all_goals refine tc_ret ?_; (repeat (first | refine tk_then_ret ?_))
  all_goals (refine tk_ret rfl rfl (.cons (.tmp rfl) .nil) ?_)
  all_goals (
   exact fun w' hw' => ⟨rfl, hw'.fr (by simp)⟩)
theorem few2_c (l : List Int) (hl : (l.length : Int) ≤ 9000000000000000000) (ap : List Int) (ha : (ap.length : Int) ≤ 9000000000000000000) (v u : Value) (b9 : Nat) (w : World) (hb : w.heap[b9]? = some (.cells #[v] 22 (0, 0))) (hr : RdI w v l) (hu : RdI w u ap) :
    CnV Tryz.prog 91 #[u, ptr b9] w (.bool (ap.any fun i => decide (i ∈ l))) := by
  refine cnv (vs := [_, _]) Tryz.func91 rfl rfl ?_
  all_goals refine tc_seq fun K1 hK1 => ?_; refine tc_region ?_; refine tl_q (y_assign rfl) rfl ?_; refine tl_nil ?_; ((refine hK1 ?_; try (clear hK1; clear K1)))
  all_goals refine tc_seq fun K2 hK2 => ?_; refine tc_region ?_; refine tl_q (y_move rfl) rfl ?_; refine tl_q (y_fn .nil (.cons rfl .nil)) rfl ?_; refine tl_e (e_callV rfl (.cons rfl (.cons rfl .nil)) (fun w' hw' => containsFunc_c 93 #[] #[ptr b9] (fun i => decide (i ∈ l)) ap ha u w' (hu.fr (hw'.fr (by simp))) (fun x w2 f => by simpa using few1_c l hl x v b9 w2 (f.keep ((hw'.fr (w0 := w) (S := []) (by simp)).keep hb)) ((hr.fr (hw'.fr (by simp))).fr f)))) rfl (fun _ _ => ?_); refine tl_q (y_assign rfl) rfl ?_; refine tl_nil ?_; ((refine hK2 ?_; try (clear hK2; clear K2)))
  all_goals refine tc_ret ?_; (repeat (first | refine tk_then_ret ?_))
  all_goals (refine tk_ret rfl rfl (.cons (.tmp rfl) .nil) ?_)
  all_goals (
   exact fun w' hw' => ⟨rfl, hw'.fr (by simp)⟩)
theorem few3_c (l : List Int) (hl : (l.length : Int) ≤ 9000000000000000000) (ps : List (List Int)) (hp : (ps.length : Int) ≤ 9000000000000000000) (hpa : ∀ ap ∈ ps, (ap.length : Int) ≤ 9000000000000000000) (v u : Value) (hv1 : v.oneCell' = true) (b13 : Nat) (w : World) (hb : w.heap[b13]? = some (.cells #[u] 54 (0, 0))) (hr : RdI w v l) (hu : RdLL w u ps) :
    CnV Tryz.prog 89 #[v, ptr b13] w (.bool (fewP ps l)) := by
  obtain ⟨vad, vcp, _, _, rfl, _, _⟩ := hr.open
  refine cnv (vs := [_, _]) Tryz.func89 rfl rfl ?_
  all_goals refine tc_seq fun K1 hK1 => ?_; refine tc_region ?_; refine tl_e (e_box rfl rfl rfl) rfl (fun b2 _ => ?_); refine tl_q (y_assign rfl) rfl ?_; refine tl_nil ?_; ((refine hK1 ?_; try (clear hK1; clear K1)))
  all_goals refine tc_seq fun K2 hK2 => ?_; refine tc_region ?_; refine tl_q (y_load1o (v := u) rfl (fun w' hw' => cell0 ((hw'.fr (w0 := w) (S := []) (by simp)).keep hb) rfl)) rfl ?_; refine tl_q (y_fn .nil (.cons rfl .nil)) rfl ?_; refine tl_e (e_callV rfl (.cons rfl (.cons rfl .nil)) (fun w' hw' => allLL_c 91 #[] #[ptr b2] (fun ap => ap.any fun i => decide (i ∈ l)) ps hp u w' (hu.fr (hw'.fr (by simp))) (fun x ap w2 f hm hx => few2_c l hl ap (hpa ap hm) (.slice vad l.length vcp) x b2 w2 (f.keep (hw'.heap _ (HM.mem (b := b2) (by repeat constructor)))) ((hr.fr (hw'.fr (by simp))).fr f) hx))) rfl (fun _ _ => ?_); refine tl_q (y_assign rfl) rfl ?_; refine tl_nil ?_; ((refine hK2 ?_; try (clear hK2; clear K2)))
  all_goals refine tc_ret ?_; (repeat (first | refine tk_then_ret ?_))
  all_goals (refine tk_ret rfl rfl (.cons (.tmp rfl) .nil) ?_)
  all_goals (
   exact fun w' hw' => ⟨rfl, hw'.fr (by simp)⟩)
end Go.Sp
/-
  Package trial: the fewest offers that decide, walked.
-/
namespace Go.Sp
open Go Go.Proofs
abbrev E3 := Int × Int × Int
def apN (t : Tr) (l : List (Int × Int)) (a b : E3) (i : Nat) : List Int := ((List.range i).filter fun j => !alikeF t a b (l.getD j (0, 0)).1 (l.getD j (0, 0)).2).map fun (j : Nat) => (j : Int)
theorem apN_succ (t : Tr) (l : List (Int × Int)) (a b : E3) (i : Nat) : apN t l a b (i + 1) = if alikeF t a b (l.getD i (0, 0)).1 (l.getD i (0, 0)).2 = true then apN t l a b i else apN t l a b i ++ [(i : Int)] := by
  unfold apN
  rw [List.range_succ, List.filter_append, List.map_append]
  cases h : alikeF t a b (l.getD i (0, 0)).1 (l.getD i (0, 0)).2
  · rw [if_neg Bool.false_ne_true, List.filter_cons, if_pos (by rw [h]; rfl)]; rfl
  · rw [if_pos rfl, List.filter_cons, if_neg (by rw [h]; exact Bool.false_ne_true)]; simp
theorem apN_len (t : Tr) (l : List (Int × Int)) (a b : E3) (i : Nat) : (apN t l a b i).length ≤ i := by
  unfold apN
  rw [List.length_map]
  exact Nat.le_trans (List.length_filter_le _ _) (by simp)
def apL (t : Tr) (l : List (Int × Int)) (a b : E3) : List Int := apN t l a b l.length
/-- For each two truths that must be told apart: the offers that do. -/
def prs (t : Tr) (l : List (Int × Int)) (G B : List E3) (k m : Nat) : List (List Int) := ((G.take k).flatMap fun a => B.map fun b => apL t l a b) ++ (B.take m).map fun b => apL t l (G.getD k (0, 0, 0)) b
theorem prs_m {t : Tr} {l : List (Int × Int)} {G B : List E3} {k m : Nat} (h : m < B.length) : prs t l G B k (m + 1) = prs t l G B k m ++ [apL t l (G.getD k (0, 0, 0)) (B.getD m (0, 0, 0))] := by
  unfold prs
  rw [takeT_succ h, List.map_append, List.append_assoc]; rfl
theorem prs_k {t : Tr} {l : List (Int × Int)} {G B : List E3} {k : Nat} (h : k < G.length) : prs t l G B (k + 1) 0 = prs t l G B k B.length := by
  unfold prs
  rw [takeT_succ h, List.flatMap_append, List.take_length]; simp
theorem prs_len (t : Tr) (l : List (Int × Int)) (G B : List E3) {k m : Nat} (hk : k ≤ G.length) (hm : m ≤ B.length) : (prs t l G B k m).length = k * B.length + m := by
  have : ∀ (L : List E3), (L.flatMap fun a => B.map fun b => apL t l a b).length = L.length * B.length := fun L => by
    induction L with
    | nil => simp
    | cons a L ih => rw [List.flatMap_cons, List.length_append, ih, List.length_map, List.length_cons, Nat.add_mul]; omega
  unfold prs
  rw [List.length_append, this, List.length_map, List.length_take, List.length_take]
  rw [Nat.min_eq_left hk, Nat.min_eq_left hm]
theorem prod_bd : ∀ g : Fin 344, g.1 * (343 - g.1) ≤ 29412 := by decide +kernel
theorem prod_le {g b : Nat} (h : g + b ≤ 343) : g * b ≤ 29412 := Nat.le_trans (Nat.mul_le_mul_left _ (by omega : b ≤ 343 - g)) (prod_bd ⟨g, by omega⟩)
theorem two_len (p : E3 → Bool) (q : E3 → Bool) (hq : ∀ e, q e = !p e) : ∀ L : List E3, (L.filter p).length + (L.filter q).length = L.length := by
  intro L
  induction L with
  | nil => rfl
  | cons a L ih =>
    rw [List.filter_cons, List.filter_cons, hq a]
    cases h : p a
    · simp; omega
    · simp; omega
theorem prs_ap {t : Tr} {l : List (Int × Int)} {G B : List E3} {k m : Nat} {ap : List Int} (h : ap ∈ prs t l G B k m) : ap.length ≤ l.length := by
  unfold prs at h
  rcases List.mem_append.1 h with h | h
  · obtain ⟨a, _, h⟩ := List.mem_flatMap.1 h
    obtain ⟨b, _, rfl⟩ := List.mem_map.1 h
    exact apN_len t l a b l.length
  · obtain ⟨b, _, rfl⟩ := List.mem_map.1 h
    exact apN_len t l _ b l.length
def gdL (t : Tr) (tol : Int) : List E3 := (truthsL t []).filter (goodB t tol)
def bdL (t : Tr) (tol : Int) : List E3 := (truthsL t []).filter (badB t tol)
theorem gb_len {t : Tr} (hv : VT t) (tol : Int) : (gdL t tol).length + (bdL t tol).length ≤ 343 := by
  unfold gdL bdL
  rw [two_len (goodB t tol) (badB t tol) (fun _ => rfl)]
  exact Nat.le_trans (List.length_filter_le _ _) (every_len hv)
def pairsL (t : Tr) (tol : Int) (l : List (Int × Int)) : List (List Int) := prs t l (gdL t tol) (bdL t tol) (gdL t tol).length 0
def fewestE (t : Tr) (tol : Int) (l : List (Int × Int)) : List Int × Int :=
  if ¬ tolE t tol = 0 then ([], tolE t tol) else if 4 < l.length then ([], 3) else if l.all (offB t) = false then ([], 2) else if ¬ askedE t = 0 then ([], askedE t)
  else match searchT (fewP (pairsL t tol l)) l.length with
    | none => ([], 9)
    | some r => (r, 0)
theorem getD_memE {L : List E3} {k : Nat} (h : k < L.length) : L.getD k (0, 0, 0) ∈ L := by rw [List.getD_eq_getElem?_getD, List.getElem?_eq_getElem h]; exact List.getElem_mem h
theorem CnV.toX {P : Program} {f : FuncId} {args : Array Value} {w : World} {v : Value} {S : List Nat} {α : Type} {val : α → Value} {p : α → World → Prop} (h : CnV P f args w v) (x : α) (hv : val x = v) (hp : ∀ w', Fr [] w w' → p x w') : CnX P f args w S val p :=
  CnX.of ((CnV.out h).mono fun e w' he => ⟨x, by rw [he.1, hv], he.2.mono (fun y hy => by simp at hy), hp w' he.2⟩)
theorem few_pass (t : Tr) (ps : List (List Int)) (n : Nat) (hps : (ps.length : Int) ≤ 9000000000000000000) (hpa : ∀ ap ∈ ps, (ap.length : Int) ≤ 9000000000000000000) (b13 bm : Nat) (hne : b13 ≠ bm) (u : Value) (es : Array MapEntry) (ck : Nat) (w : World) (hb : w.heap[b13]? = some (.cells #[u] 54 (0, 0))) (hm : w.heap[bm]? = some (.map es ck)) (hu : RdLL w u ps) :
    Pass Tryz.prog 89 #[ptr b13] (fewP ps) n [bm] bm (fun o => o = .map es ck) w := by
  intro w1 o xs v f1 h1 hJ hx hsep hone hlen _
  have hc := few3_c xs (by omega) ps hps hpa v u hone b13 w1 (f1.keepS (by simpa using hne) hb) hx (hu.frM f1 ⟨_, _, hm⟩)
  exact CnV.toX (by simpa using hc) o rfl (fun w' f => ⟨hJ, f.keep h1⟩)
theorem ba_out {a b c d e : Nat} (h : ([a, b, c, d, e] : List Nat).Nodup) : b ∉ [a, c, d, e] := by
  simp only [List.nodup_cons, List.mem_cons, List.not_mem_nil, not_or, or_false] at h ⊢
  exact ⟨Ne.symm h.1.1, h.2.1.1, h.2.1.2.1, h.2.1.2.2⟩
set_option maxHeartbeats 4000000 in
theorem fewest_c (t : Tr) (hn : NT t) (tol : Int) (htol : tol ≤ 1000) (l : List (Int × Int)) (hl : (l.length : Int) ≤ 9000000000000000000) (sl pl ll tl lv : Value) (w : World) (hr : RdTr w t sl pl ll tl) (hL : RdR w lv l) :
    CnX Tryz.prog 31 #[trV t sl pl ll tl, vi tol, lv] w [] (fun y : Value => .tuple #[y, vi (fewestE t tol l).2]) (fun y w' => RdI w' y (fewestE t tol l).1) := by
  have hr0 := hr
  have hL0 := hL
  have hT : tolE t tol = 0 → VT t ∧ 0 ≤ tol := fun h => by
    unfold tolE at h
    split at h
    · omega
    · split at h
      · omega
      · exact ⟨chkT_0.1 (by omega), by omega⟩
  obtain ⟨adl, cpl, bl, ol, rfl, hadl, hcl⟩ := hL.open
  refine cnx0 (vs := [_, _, _]) Tryz.func31 rfl rfl ?_
  all_goals refine tc_seq fun K1 hK1 => ?_; refine tc_region ?_; refine tl_e (e_box rfl rfl rfl) rfl (fun b3 _ => ?_); refine tl_q (y_assign rfl) rfl ?_; refine tl_q (y_assign rfl) rfl ?_; refine tl_nil ?_; ((refine hK1 ?_; try (clear hK1; clear K1)))
  all_goals refine tc_seq fun K2 hK2 => ?_; refine tc_seq fun K3 hK3 => ?_; refine tc_lay ([]) SB.s (fun wl1 hl1 => ?_); refine tc_region ?_; refine tl_q (y_loadWf rfl (hl1.at (by repeat constructor)) MI.m (by simp) (by rfl)) rfl ?_; refine tl_q (y_move rfl) rfl ?_; refine tl_e (e_callV rfl (.cons rfl (.cons rfl .nil)) (fun w' hw' => tolerant_c t hn tol sl pl ll tl w' (hr0.fr (hw'.fr (w0 := w) (S := []) MI.m)))) rfl (fun _ _ => ?_); refine tl_q (y_assign rfl) rfl ?_; refine tl_nil ?_; ((refine hK3 ?_; try (clear hK3; clear K3)))
  all_goals refine tc_seq fun K4 hK4 => ?_; refine tc_region ?_; refine tl_q (y_move rfl) rfl ?_; refine tl_q (y_neq rfl rfl) rfl ?_; refine tl_nil ?_; ((refine hK4 ?_; try (clear hK4; clear K4)))
  all_goals (
   refine tc_cond rfl (fun hc => ?_) (fun hc => ?_)
   · try simp only [qn1, qn2, qn3, qn4, qn5, qn6, qn7, qn8] at hc
     all_goals refine tc_seq fun K5 hK5 => ?_; refine tc_region ?_; refine tl_q (y_move rfl) rfl ?_; refine tl_q (y_assign rfl) rfl ?_; refine tl_q (y_assign rfl) rfl ?_; refine tl_nil ?_; ((refine hK5 ?_; try (clear hK5; clear K5)))
     all_goals refine tc_ret ?_; (repeat (refine tk_then_ret ?_))
     all_goals (refine tk_ret rfl rfl (.cons (.tmp rfl) (.cons (.tmp rfl) .nil)) ?_)
     all_goals (
      first
      | (have hE : fewestE t tol l = ([], tolE t tol) := if_pos (by assumption)
         rw [hE]; exact fun w' hw' => ⟨_, rfl, hw'.fr (w0 := w) (S := []) MI.m, RdI.nil _⟩)
      | (have hE : fewestE t tol l = ([], 3) := by unfold fewestE; rw [if_neg (by omega), if_pos (by omega)]
         rw [hE]; exact fun w' hw' => ⟨_, rfl, hw'.fr (w0 := w) (S := []) MI.m, RdI.nil _⟩)
      | (have hE : fewestE t tol l = ([], 2) := by unfold fewestE; rw [if_neg (by omega), if_neg (by omega), if_pos (by assumption)]
         rw [hE]; exact fun w' hw' => ⟨_, rfl, hw'.fr (w0 := w) (S := []) MI.m, RdI.nil _⟩)
      | (have hE : fewestE t tol l = ([], askedE t) := by unfold fewestE; rw [if_neg (by omega), if_neg (by omega), if_neg (by rw [hall]; exact Bool.noConfusion), if_pos hA]
         rw [hE]; exact fun w' hw' => ⟨_, rfl, hw'.fr (w0 := w) (S := []) MI.m, RdI.nil _⟩)
      | (have hE : fewestE t tol l = ([], 9) := by unfold fewestE; rw [if_neg (by omega), if_neg (by omega), if_neg (by rw [hall]; exact Bool.noConfusion), if_neg (by omega), hsr]
         rw [hE]; exact fun w' hw' => ⟨_, rfl, hw'.fr (w0 := w) (S := []) MI.m, RdI.nil _⟩)
      | (have hE : fewestE t tol l = (rs, 0) := by unfold fewestE; rw [if_neg (by omega), if_neg (by omega), if_neg (by rw [hall]; exact Bool.noConfusion), if_neg (by omega), hsr]
         rw [hE]; exact fun w' hw' => ⟨v.1.1, rfl, hw'.fr (w0 := w) (S := []) MI.m, hv3.2.2.fr (hw'.fr (w0 := v.2.2) (S := []) MI.m)⟩))
   · try simp only [qn1, qn2, qn3, qn4, qn5, qn6, qn7, qn8] at hc
     all_goals refine tc_skip ?_; ((refine hK2 ?_; try (clear hK2; clear K2)))
     all_goals refine tc_seq fun K6 hK6 => ?_; (obtain ⟨hv, ht0⟩ := hT (by omega))
     all_goals refine tc_region ?_; refine tl_q (y_loadWf rfl (hl1.at (by repeat constructor)) MI.m (by simp) (by rfl)) rfl ?_; refine tl_q (y_fn (.cons rfl .nil) .nil) rfl ?_; refine tl_q (y_assign rfl) rfl ?_; refine tl_nil ?_; ((refine hK6 ?_; try (clear hK6; clear K6)))
     all_goals refine tc_seq fun K7 hK7 => ?_; refine tc_block ?_; refine tc_seq fun K8 hK8 => ?_; refine tc_region ?_; refine tl_q (y_move rfl) rfl ?_; refine tl_q (y_len rfl) rfl ?_; refine tl_q (y_gtr rfl rfl) rfl ?_; refine tl_q (y_assign rfl) rfl ?_; refine tl_nil ?_; ((refine hK8 ?_; try (clear hK8; clear K8)))
     all_goals (
      refine tc_cond rfl (fun hc => ?_) (fun hc => ?_)
      · try simp only [qn1, qn2, qn3, qn4, qn5, qn6, qn7, qn8] at hc
        all_goals refine tc_seq fun K9 hK9 => ?_; refine tc_region ?_; refine tl_q (y_assign rfl) rfl ?_; refine tl_q (y_assign rfl) rfl ?_; refine tl_nil ?_; ((refine hK9 ?_; try (clear hK9; clear K9)))
        all_goals refine tc_ret ?_; (repeat (first | refine tk_then_ret ?_ | refine tk_block_ret ?_))
        all_goals (refine tk_ret rfl rfl (.cons (.tmp rfl) (.cons (.tmp rfl) .nil)) ?_)
        all_goals (
         first
         | (have hE : fewestE t tol l = ([], tolE t tol) := if_pos (by assumption)
            rw [hE]; exact fun w' hw' => ⟨_, rfl, hw'.fr (w0 := w) (S := []) MI.m, RdI.nil _⟩)
         | (have hE : fewestE t tol l = ([], 3) := by unfold fewestE; rw [if_neg (by omega), if_pos (by omega)]
            rw [hE]; exact fun w' hw' => ⟨_, rfl, hw'.fr (w0 := w) (S := []) MI.m, RdI.nil _⟩)
         | (have hE : fewestE t tol l = ([], 2) := by unfold fewestE; rw [if_neg (by omega), if_neg (by omega), if_pos (by assumption)]
            rw [hE]; exact fun w' hw' => ⟨_, rfl, hw'.fr (w0 := w) (S := []) MI.m, RdI.nil _⟩)
         | (have hE : fewestE t tol l = ([], askedE t) := by unfold fewestE; rw [if_neg (by omega), if_neg (by omega), if_neg (by rw [hall]; exact Bool.noConfusion), if_pos hA]
            rw [hE]; exact fun w' hw' => ⟨_, rfl, hw'.fr (w0 := w) (S := []) MI.m, RdI.nil _⟩)
         | (have hE : fewestE t tol l = ([], 9) := by unfold fewestE; rw [if_neg (by omega), if_neg (by omega), if_neg (by rw [hall]; exact Bool.noConfusion), if_neg (by omega), hsr]
            rw [hE]; exact fun w' hw' => ⟨_, rfl, hw'.fr (w0 := w) (S := []) MI.m, RdI.nil _⟩)
         | (have hE : fewestE t tol l = (rs, 0) := by unfold fewestE; rw [if_neg (by omega), if_neg (by omega), if_neg (by rw [hall]; exact Bool.noConfusion), if_neg (by omega), hsr]
            rw [hE]; exact fun w' hw' => ⟨v.1.1, rfl, hw'.fr (w0 := w) (S := []) MI.m, hv3.2.2.fr (hw'.fr (w0 := v.2.2) (S := []) MI.m)⟩))
      · try simp only [qn1, qn2, qn3, qn4, qn5, qn6, qn7, qn8] at hc
        all_goals refine tc_seq fun K10 hK10 => ?_; refine tc_region ?_; refine tl_q (y_move rfl) rfl ?_; refine tl_q (y_move rfl) rfl ?_; refine tl_e (e_callV rfl (.cons rfl (.cons rfl .nil)) (fun w' hw' => allO_c 84 #[trV t sl pl ll tl] #[] (offB t) l hl _ w' (hL0.fr (hw'.fr (w0 := w) (S := []) MI.m)) (fun x w2 f => offer_c t x sl pl ll tl w2 ((hr0.ws.fr (hw'.fr (w0 := w) (S := []) MI.m)).fr f)))) rfl (fun _ _ => ?_); refine tl_q (y_not rfl) rfl ?_; refine tl_q (y_assign rfl) rfl ?_; refine tl_nil ?_; ((refine hK10 ?_; try (clear hK10; clear K10)))
        all_goals (
         refine tc_cond rfl (fun hc => ?_) (fun hc => ?_)
         · try simp only [qn1, qn2, qn3, qn4, qn5, qn6, qn7, qn8] at hc
           all_goals refine tc_seq fun K11 hK11 => ?_; refine tc_region ?_; refine tl_q (y_assign rfl) rfl ?_; refine tl_q (y_assign rfl) rfl ?_; refine tl_nil ?_; ((refine hK11 ?_; try (clear hK11; clear K11)))
           all_goals refine tc_ret ?_; (repeat (first | refine tk_then_ret ?_ | refine tk_block_ret ?_))
           all_goals (refine tk_ret rfl rfl (.cons (.tmp rfl) (.cons (.tmp rfl) .nil)) ?_)
           all_goals (
            first
            | (have hE : fewestE t tol l = ([], tolE t tol) := if_pos (by assumption)
               rw [hE]; exact fun w' hw' => ⟨_, rfl, hw'.fr (w0 := w) (S := []) MI.m, RdI.nil _⟩)
            | (have hE : fewestE t tol l = ([], 3) := by unfold fewestE; rw [if_neg (by omega), if_pos (by omega)]
               rw [hE]; exact fun w' hw' => ⟨_, rfl, hw'.fr (w0 := w) (S := []) MI.m, RdI.nil _⟩)
            | (have hE : fewestE t tol l = ([], 2) := by unfold fewestE; rw [if_neg (by omega), if_neg (by omega), if_pos (by assumption)]
               rw [hE]; exact fun w' hw' => ⟨_, rfl, hw'.fr (w0 := w) (S := []) MI.m, RdI.nil _⟩)
            | (have hE : fewestE t tol l = ([], askedE t) := by unfold fewestE; rw [if_neg (by omega), if_neg (by omega), if_neg (by rw [hall]; exact Bool.noConfusion), if_pos hA]
               rw [hE]; exact fun w' hw' => ⟨_, rfl, hw'.fr (w0 := w) (S := []) MI.m, RdI.nil _⟩)
            | (have hE : fewestE t tol l = ([], 9) := by unfold fewestE; rw [if_neg (by omega), if_neg (by omega), if_neg (by rw [hall]; exact Bool.noConfusion), if_neg (by omega), hsr]
               rw [hE]; exact fun w' hw' => ⟨_, rfl, hw'.fr (w0 := w) (S := []) MI.m, RdI.nil _⟩)
            | (have hE : fewestE t tol l = (rs, 0) := by unfold fewestE; rw [if_neg (by omega), if_neg (by omega), if_neg (by rw [hall]; exact Bool.noConfusion), if_neg (by omega), hsr]
               rw [hE]; exact fun w' hw' => ⟨v.1.1, rfl, hw'.fr (w0 := w) (S := []) MI.m, hv3.2.2.fr (hw'.fr (w0 := v.2.2) (S := []) MI.m)⟩))
         · try simp only [qn1, qn2, qn3, qn4, qn5, qn6, qn7, qn8] at hc
           all_goals refine tc_skip ?_; ((refine hK7 ?_; try (clear hK7; clear K7)))
           all_goals refine tc_seq fun K12 hK12 => ?_; (have hall : l.all (offB t) = true := by assumption)
           all_goals (have hgbl := gb_len hv tol)
           all_goals rcases Decidable.em (askedE t = 0) with hA | hA
           all_goals refine tc_region ?_; refine tl_q (y_loadWf rfl (hl1.at (by repeat constructor)) MI.m (by simp) (by rfl)) rfl ?_; (first | refine tl_e (e_callBX (bk := fun y : (Nat × Nat) × (Option Addr × Nat) × Array MapEntry × Nat => y.1.2) (ob := fun y => .map y.2.2.1 y.2.2.2) rfl (.cons rfl .nil) (fun w' hw' => asked_ok t hn hA sl pl ll tl w' (hr0.fr (hw'.fr (w0 := w) (S := []) MI.m)))) rfl (fun y hy => ?_) | refine tl_e (e_callV rfl (.cons rfl .nil) (fun w' hw' => asked_no t hn hA sl pl ll tl w' (hr0.fr (hw'.fr (w0 := w) (S := []) MI.m)))) rfl (fun y hy => ?_)); refine tl_q (y_move rfl) rfl ?_; refine tl_q (y_extract rfl rfl) rfl ?_; refine tl_q (y_extract rfl rfl) rfl ?_; refine tl_q (y_extract rfl rfl) rfl ?_; refine tl_q (y_assign rfl) rfl ?_; refine tl_q (y_assign rfl) rfl ?_; refine tl_q (y_assign rfl) rfl ?_; refine tl_nil ?_; ((refine hK12 ?_; try (clear hK12; clear K12)))
           all_goals refine tc_seq fun K13 hK13 => ?_; refine tc_seq fun K14 hK14 => ?_; refine tc_region ?_; refine tl_q (y_move rfl) rfl ?_; refine tl_q (y_neq rfl rfl) rfl ?_; refine tl_nil ?_; ((refine hK14 ?_; try (clear hK14; clear K14)))
           all_goals (
            refine tc_cond rfl (fun hc => ?_) (fun hc => ?_)
            · try simp only [qn1, qn2, qn3, qn4, qn5, qn6, qn7, qn8] at hc
              all_goals refine tc_seq fun K15 hK15 => ?_; refine tc_region ?_; refine tl_q (y_move rfl) rfl ?_; refine tl_q (y_assign rfl) rfl ?_; refine tl_q (y_assign rfl) rfl ?_; refine tl_nil ?_; ((refine hK15 ?_; try (clear hK15; clear K15)))
              all_goals refine tc_ret ?_; (repeat (refine tk_then_ret ?_))
              all_goals (refine tk_ret rfl rfl (.cons (.tmp rfl) (.cons (.tmp rfl) .nil)) ?_)
              all_goals (
               first
               | (have hE : fewestE t tol l = ([], tolE t tol) := if_pos (by assumption)
                  rw [hE]; exact fun w' hw' => ⟨_, rfl, hw'.fr (w0 := w) (S := []) MI.m, RdI.nil _⟩)
               | (have hE : fewestE t tol l = ([], 3) := by unfold fewestE; rw [if_neg (by omega), if_pos (by omega)]
                  rw [hE]; exact fun w' hw' => ⟨_, rfl, hw'.fr (w0 := w) (S := []) MI.m, RdI.nil _⟩)
               | (have hE : fewestE t tol l = ([], 2) := by unfold fewestE; rw [if_neg (by omega), if_neg (by omega), if_pos (by assumption)]
                  rw [hE]; exact fun w' hw' => ⟨_, rfl, hw'.fr (w0 := w) (S := []) MI.m, RdI.nil _⟩)
               | (have hE : fewestE t tol l = ([], askedE t) := by unfold fewestE; rw [if_neg (by omega), if_neg (by omega), if_neg (by rw [hall]; exact Bool.noConfusion), if_pos hA]
                  rw [hE]; exact fun w' hw' => ⟨_, rfl, hw'.fr (w0 := w) (S := []) MI.m, RdI.nil _⟩)
               | (have hE : fewestE t tol l = ([], 9) := by unfold fewestE; rw [if_neg (by omega), if_neg (by omega), if_neg (by rw [hall]; exact Bool.noConfusion), if_neg (by omega), hsr]
                  rw [hE]; exact fun w' hw' => ⟨_, rfl, hw'.fr (w0 := w) (S := []) MI.m, RdI.nil _⟩)
               | (have hE : fewestE t tol l = (rs, 0) := by unfold fewestE; rw [if_neg (by omega), if_neg (by omega), if_neg (by rw [hall]; exact Bool.noConfusion), if_neg (by omega), hsr]
                  rw [hE]; exact fun w' hw' => ⟨v.1.1, rfl, hw'.fr (w0 := w) (S := []) MI.m, hv3.2.2.fr (hw'.fr (w0 := v.2.2) (S := []) MI.m)⟩))
            · try simp only [qn1, qn2, qn3, qn4, qn5, qn6, qn7, qn8] at hc
              all_goals ((first | (exfalso; omega) | skip))
              all_goals refine tc_skip ?_; ((refine hK13 ?_; try (clear hK13; clear K13)))
              all_goals refine tc_seq fun K16 hK16 => ?_; (have hTW : TW y.2 t sl pl ll tl y.1.1.1 y.1.1.2 y.1.2.2.1 y.1.2.2.2 := ⟨hr0.fr (hy.2.fr (w0 := w) (S := []) MI.m), hy.1.2.2.1, hy.2.heap _ (HM.mem (by repeat constructor)), hy.1.2.1, hr0.ws.one, hr0.ps.one, hr0.ls.one, hr0.ts.one⟩)
              all_goals ((have hrdT : ∀ w', Fr [y.1.1.2] y.2 w' → RdT w' (slV (truthsL t []).length y.1.2.1) (truthsL t []) := fun w' f => Reads.frM hy.1.1 f (fun z hz => by obtain rfl := List.mem_singleton.1 hz; exact ⟨_, _, hy.2.heap _ (HM.mem .head)⟩)))
              all_goals (have htl : (truthsL t []).length ≤ 343 := Nat.le_trans (List.length_filter_le _ _) (every_len hv))
              all_goals refine tc_region ?_; refine tl_e (e_alloc1 rfl) rfl (fun b13 _ => ?_); refine tl_nil ?_; ((refine hK16 ?_; try (clear hK16; clear K16)))
              all_goals refine tc_seq fun K17 hK17 => ?_; refine tc_region ?_; refine tl_q (y_loadWf rfl (hl1.at (by repeat constructor)) MI.m (by simp) (by rfl)) rfl ?_; refine tl_q (y_move rfl) rfl ?_; refine tl_q (y_move rfl) rfl ?_; (refine tl_e (e_callX rfl (.cons rfl (.cons rfl (.cons rfl .nil))) (fun w' hw' => ((split_c t hv (truthsL t []) htl (fun e he => truths_bd hv he) tol ⟨ht0, htol⟩ sl pl ll tl _ w' (hr0.fr (hw'.fr (w0 := w) (S := []) MI.m)) (hrdT w' (hw'.fr (w0 := y.2) (S := [y.1.1.2]) MI.m))).weak (p' := fun (z : (Option Addr × Nat) × (Option Addr × Nat)) (w2 : World) => (RdT w2 (slV (gdL t tol).length z.1) (gdL t tol) ∧ RdT w2 (slV (bdL t tol).length z.2) (bdL t tol)) ∧ sepS (slV (gdL t tol).length z.1) [b13, y.1.1.2] ∧ sepS (slV (bdL t tol).length z.2) [b13, y.1.1.2]) (fun z w2 _ h => ⟨h.1, (fun p m c e hb => by have h1 := h.2.1 p m c e; have h2 := hw'.lt (HM.mem (b := b13) (by repeat constructor)); have h3 := hw'.lt (HM.mem (b := y.1.1.2) (by repeat constructor)); simp only [List.mem_cons, List.not_mem_nil, or_false] at hb; omega), (fun p m c e hb => by have h1 := h.2.2 p m c e; have h2 := hw'.lt (HM.mem (b := b13) (by repeat constructor)); have h3 := hw'.lt (HM.mem (b := y.1.1.2) (by repeat constructor)); simp only [List.mem_cons, List.not_mem_nil, or_false] at hb; omega)⟩)))) rfl (fun z hz => ?_))
              all_goals refine tl_q (y_move rfl) rfl ?_; refine tl_q (y_extract rfl rfl) rfl ?_; refine tl_q (y_extract rfl rfl) rfl ?_; refine tl_q (y_assign rfl) rfl ?_; refine tl_q (y_assign rfl) rfl ?_; refine tl_nil ?_; ((refine hK17 ?_; try (clear hK17; clear K17)))
              all_goals refine tc_seq fun K18 hK18 => ?_; refine tc_seq fun K19 hK19 => ?_; refine tc_region ?_; refine tl_q (y_move rfl) rfl ?_; refine tl_q (y_len rfl) rfl ?_; refine tl_q (y_move rfl) rfl ?_; refine tl_nil ?_; ((refine hK19 ?_; try (clear hK19; clear K19)))
              all_goals refine tc_block ?_
              all_goals (
               refine tc_loop (fun p : Nat × Option (Nat × Nat × List Value) × List Value × (World × List Nat) × (Array MapEntry × Nat) => p.1 ≤ (gdL t tol).length ∧ outOk ((prs t l (gdL t tol) (bdL t tol) p.1 0).length, p.2.1) ∧ InV p.2.2.2.1.1 p.2.2.2.1.2 p.2.2.1 (prs t l (gdL t tol) (bdL t tol) p.1 0) ∧ Cache (readV t.s) p.2.2.2.2.1.toList) (fun p => [(2, .slice adl l.length cpl), (10, ptr y.1.1.1), (13, ptr b13), (15, slV (bdL t tol).length z.1.2), (58, slV (gdL t tol).length z.1.1), (59, vi (gdL t tol).length), (60, vi p.1)]) (fun p => [(p.2.2.2.1.1, p.2.2.2.1.2), (z.2, [b13, y.1.1.2]), (y.2, [y.1.1.2]), (w, [])]) (fun p => (b13, .cells #[outV' ((prs t l (gdL t tol) (bdL t tol) p.1 0).length, p.2.1)] 54 (0, 0)) :: (y.1.1.2, .map p.2.2.2.2.1 p.2.2.2.2.2) :: slH 22 p.2.2.1 p.2.1) (fun p => (gdL t tol).length - p.1) ?_ ?_
               · exact tk_start (0, none, [], (z.2, [b13, y.1.1.2]), (y.1.2.2.1, y.1.2.2.2)) ⟨Nat.zero_le _, rfl, InV.nil, hy.1.2.1⟩ (.cons rfl (.cons rfl (.cons rfl (.cons rfl (.cons rfl (.cons rfl (.cons rfl .nil))))))) (fun _ h => h.sub (fun β hβ => by simp only [List.mem_cons, List.not_mem_nil, or_false] at hβ; rcases hβ with rfl | rfl | rfl | rfl <;> simp) SB.s)
               · rintro ⟨k, oo, vs, ⟨wl, S⟩, ⟨es2, ck2⟩⟩ ⟨hk, hok, hin, hca⟩
                 dsimp only at hk hok hin hca ⊢
                 all_goals refine tc_seq fun K20 hK20 => ?_; refine tc_region ?_; refine tl_q (y_lss rfl rfl) rfl ?_; refine tl_nil ?_; ((refine hK20 ?_; try (clear hK20; clear K20)))
                 all_goals refine tc_seq fun K21 hK21 => ?_
                 all_goals (
                  refine tc_cond rfl (fun hc => ?_) (fun hc => ?_)
                  · try simp only [qn1, qn2, qn3, qn4, qn5, qn6, qn7, qn8] at hc
                    all_goals refine tc_skip ?_; ((refine hK21 ?_; try (clear hK21; clear K21)))
                    all_goals refine tc_seq fun K22 hK22 => ?_; refine tc_block ?_; refine tc_seq fun K23 hK23 => ?_; (have hGr : ∀ w', Fr [b13, y.1.1.2] z.2 w' → RdT w' (slV (gdL t tol).length z.1.1) (gdL t tol) := fun w' f => Reads.frS hz.1.1.1 f hz.1.2.1)
                    all_goals (obtain ⟨bG, oG, hadG⟩ := hz.1.1.1.opens1)
                    all_goals (have hadG' := hadG (by omega))
                    all_goals (have hae : ErB ((gdL t tol).getD k (0, 0, 0)) := truths_bd hv (List.mem_filter.1 (getD_memE (L := (gdL t tol)) (k := k) (by omega))).1)
                    all_goals refine tc_region ?_; refine tl_q (y_index rfl rfl (by omega) hadG') rfl ?_; ((refine tl_q (y_loadNo (n := 3) (vs := [vi ((gdL t tol).getD k (0, 0, 0)).1, vi ((gdL t tol).getD k (0, 0, 0)).2.1, vi ((gdL t tol).getD k (0, 0, 0)).2.2]) rfl (fun w' hw' => by rw [show Int.toNat (k : Int) * 3 = k * 3 from by omega]; exact (hGr w' (hw'.fr (w0 := z.2) (S := [b13, y.1.1.2]) MI.m)).at1 hadG' (by omega))) rfl ?_))
                    all_goals refine tl_e (e_allocN rfl) rfl (fun b17 _ => ?_); refine tl_e (e_storeW rfl rfl (by repeat constructor) (by rfl) (by rfl) (by simp [Value.oneCell'])) rfl (fun _ _ => ?_); refine tl_nil ?_; ((refine hK23 ?_; try (clear hK23; clear K23)))
                    all_goals refine tc_seq fun K24 hK24 => ?_; refine tc_region ?_; refine tl_q (y_move rfl) rfl ?_; refine tl_q (y_len rfl) rfl ?_; refine tl_q (y_move rfl) rfl ?_; refine tl_nil ?_; ((refine hK24 ?_; try (clear hK24; clear K24)))
                    all_goals refine tc_block ?_
                    all_goals (
                     refine tc_loop (fun p : Nat × Option (Nat × Nat × List Value) × List Value × (World × List Nat) × (Array MapEntry × Nat) => p.1 ≤ (bdL t tol).length ∧ outOk ((prs t l (gdL t tol) (bdL t tol) k p.1).length, p.2.1) ∧ InV p.2.2.2.1.1 p.2.2.2.1.2 p.2.2.1 (prs t l (gdL t tol) (bdL t tol) k p.1) ∧ Cache (readV t.s) p.2.2.2.2.1.toList) (fun p => [(2, .slice adl l.length cpl), (10, ptr y.1.1.1), (13, ptr b13), (15, slV (bdL t tol).length z.1.2), (58, slV (gdL t tol).length z.1.1), (59, vi (gdL t tol).length), (60, vi k), (17, ptr b17), (64, slV (bdL t tol).length z.1.2), (65, vi (bdL t tol).length), (66, vi p.1)]) (fun p => [(p.2.2.2.1.1, p.2.2.2.1.2), (z.2, [b13, y.1.1.2]), (y.2, [y.1.1.2]), (w, [])]) (fun p => (b17, Obj.cells #[vi ((gdL t tol).getD k (0, 0, 0)).1, vi ((gdL t tol).getD k (0, 0, 0)).2.1, vi ((gdL t tol).getD k (0, 0, 0)).2.2] 126 (0, 0)) :: (b13, .cells #[outV' ((prs t l (gdL t tol) (bdL t tol) k p.1).length, p.2.1)] 54 (0, 0)) :: (y.1.1.2, .map p.2.2.2.2.1 p.2.2.2.2.2) :: slH 22 p.2.2.1 p.2.1) (fun p => (bdL t tol).length - p.1) ?_ ?_
                     · exact tk_start (0, oo, vs, (wl, S), (es2, ck2)) ⟨Nat.zero_le _, hok, hin, hca⟩ (.cons rfl (.cons rfl (.cons rfl (.cons rfl (.cons rfl (.cons rfl (.cons rfl (.cons rfl (.cons rfl (.cons rfl (.cons rfl .nil))))))))))) (fun _ h => h.subl SB.s SB.s)
                     · rintro ⟨m, oo1, vs1, ⟨wl1, S1⟩, ⟨es3, ck3⟩⟩ ⟨hm, hok1, hin1, hca1⟩
                       dsimp only at hm hok1 hin1 hca1 ⊢
                       all_goals refine tc_seq fun K25 hK25 => ?_; refine tc_region ?_; refine tl_q (y_lss rfl rfl) rfl ?_; refine tl_nil ?_; ((refine hK25 ?_; try (clear hK25; clear K25)))
                       all_goals refine tc_seq fun K26 hK26 => ?_
                       all_goals (
                        refine tc_cond rfl (fun hc => ?_) (fun hc => ?_)
                        · try simp only [qn1, qn2, qn3, qn4, qn5, qn6, qn7, qn8] at hc
                          all_goals refine tc_skip ?_; ((refine hK26 ?_; try (clear hK26; clear K26)))
                          all_goals refine tc_seq fun K27 hK27 => ?_; refine tc_block ?_; refine tc_seq fun K28 hK28 => ?_; (have hBr : ∀ w', Fr [b13, y.1.1.2] z.2 w' → RdT w' (slV (bdL t tol).length z.1.2) (bdL t tol) := fun w' f => Reads.frS hz.1.1.2 f hz.1.2.2)
                          all_goals (obtain ⟨bB, oB, hadB⟩ := hz.1.1.2.opens1)
                          all_goals (have hadB' := hadB (by omega))
                          all_goals (have hbe : ErB ((bdL t tol).getD m (0, 0, 0)) := truths_bd hv (List.mem_filter.1 (getD_memE (L := (bdL t tol)) (k := m) (by omega))).1)
                          all_goals refine tc_region ?_; refine tl_q (y_index rfl rfl (by omega) hadB') rfl ?_; ((refine tl_q (y_loadNo (n := 3) (vs := [vi ((bdL t tol).getD m (0, 0, 0)).1, vi ((bdL t tol).getD m (0, 0, 0)).2.1, vi ((bdL t tol).getD m (0, 0, 0)).2.2]) rfl (fun w' hw' => by rw [show Int.toNat (m : Int) * 3 = m * 3 from by omega]; exact (hBr w' (hw'.fr (w0 := z.2) (S := [b13, y.1.1.2]) MI.m)).at1 hadB' (by omega))) rfl ?_))
                          all_goals refine tl_e (e_allocN rfl) rfl (fun b19 _ => ?_); refine tl_e (e_storeW rfl rfl (by repeat constructor) (by rfl) (by rfl) (by simp [Value.oneCell'])) rfl (fun _ _ => ?_); refine tl_nil ?_; ((refine hK28 ?_; try (clear hK28; clear K28)))
                          all_goals refine tc_seq fun K29 hK29 => ?_; refine tc_region ?_; refine tl_q (y_assign rfl) rfl ?_; refine tl_nil ?_; ((refine hK29 ?_; try (clear hK29; clear K29)))
                          all_goals refine tc_seq fun K30 hK30 => ?_; refine tc_seq fun K31 hK31 => ?_; refine tc_region ?_; refine tl_q (y_move rfl) rfl ?_; refine tl_q (y_len rfl) rfl ?_; refine tl_q (y_move rfl) rfl ?_; refine tl_nil ?_; ((refine hK31 ?_; try (clear hK31; clear K31)))
                          all_goals refine tc_block ?_
                          all_goals (
                           refine tc_loop (fun p : Nat × Option (Nat × Nat × List Value) × (Array MapEntry × Nat) => p.1 ≤ l.length ∧ outOk ((apN t l ((gdL t tol).getD k (0, 0, 0)) ((bdL t tol).getD m (0, 0, 0)) p.1).length, p.2.1) ∧ Cache (readV t.s) p.2.2.1.toList) (fun p => [(2, .slice adl l.length cpl), (10, ptr y.1.1.1), (13, ptr b13), (15, slV (bdL t tol).length z.1.2), (58, slV (gdL t tol).length z.1.1), (59, vi (gdL t tol).length), (60, vi k), (17, ptr b17), (64, slV (bdL t tol).length z.1.2), (65, vi (bdL t tol).length), (66, vi m), (19, ptr b19), (20, outV' ((apN t l ((gdL t tol).getD k (0, 0, 0)) ((bdL t tol).getD m (0, 0, 0)) p.1).length, p.2.1)), (70, .slice adl l.length cpl), (71, vi l.length), (72, vi p.1)]) (fun p => [(wl1, S1), (z.2, [b13, y.1.1.2]), (y.2, [y.1.1.2]), (w, [])]) (fun p => slH 3 ((apN t l ((gdL t tol).getD k (0, 0, 0)) ((bdL t tol).getD m (0, 0, 0)) p.1).map vi) p.2.1 ++ ((b19, Obj.cells #[vi ((bdL t tol).getD m (0, 0, 0)).1, vi ((bdL t tol).getD m (0, 0, 0)).2.1, vi ((bdL t tol).getD m (0, 0, 0)).2.2] 126 (0, 0)) :: (b17, Obj.cells #[vi ((gdL t tol).getD k (0, 0, 0)).1, vi ((gdL t tol).getD k (0, 0, 0)).2.1, vi ((gdL t tol).getD k (0, 0, 0)).2.2] 126 (0, 0)) :: (b13, .cells #[outV' ((prs t l (gdL t tol) (bdL t tol) k m).length, oo1)] 54 (0, 0)) :: (y.1.1.2, .map p.2.2.1 p.2.2.2) :: slH 22 vs1 oo1)) (fun p => l.length - p.1) ?_ ?_
                           · exact tk_start (0, none, (es3, ck3)) ⟨Nat.zero_le _, rfl, hca1⟩ (.cons rfl (.cons rfl (.cons rfl (.cons rfl (.cons rfl (.cons rfl (.cons rfl (.cons rfl (.cons rfl (.cons rfl (.cons rfl (.cons rfl (.cons rfl (.cons rfl (.cons rfl (.cons rfl .nil)))))))))))))))) (fun _ h => h.subl SB.s SB.s)
                           · rintro ⟨i, oa, ⟨es4, ck4⟩⟩ ⟨hi, hoa, hca4⟩
                             have hal := apN_len t l ((gdL t tol).getD k (0, 0, 0)) ((bdL t tol).getD m (0, 0, 0)) i
                             rcases oa with _ | ⟨ba, capa, junka⟩
                             all_goals ((dsimp only [outOk] at hi hoa hca4; dsimp only [slH_none, slH_some, List.cons_append, List.nil_append]; dsimp only [outV']))
                             all_goals refine tc_seq fun K32 hK32 => ?_; refine tc_region ?_; refine tl_q (y_lss rfl rfl) rfl ?_; refine tl_nil ?_; ((refine hK32 ?_; try (clear hK32; clear K32)))
                             all_goals refine tc_seq fun K33 hK33 => ?_
                             all_goals (
                              refine tc_cond rfl (fun hc => ?_) (fun hc => ?_)
                              · try simp only [qn1, qn2, qn3, qn4, qn5, qn6, qn7, qn8] at hc
                                all_goals refine tc_skip ?_; ((refine hK33 ?_; try (clear hK33; clear K33)))
                                all_goals refine tc_seq fun K34 hK34 => ?_; refine tc_block ?_; refine tc_seq fun K35 hK35 => ?_; have hadl' := hadl (by omega)
                                all_goals refine tc_region ?_; refine tl_q (y_move rfl) rfl ?_; refine tl_q (y_index rfl rfl (by omega) hadl') rfl ?_; ((refine tl_q (y_loadNo (n := 2) (vs := [vi (l.getD i (0, 0)).1, vi (l.getD i (0, 0)).2]) rfl (fun w' hw' => by rw [show Int.toNat (i : Int) * 2 = i * 2 from by omega]; exact hcl w' [] (hw'.fr (w0 := w) (S := []) MI.m) (by simp) i (by omega))) rfl ?_))
                                all_goals refine tl_e (e_allocN rfl) rfl (fun b22 _ => ?_); refine tl_q (y_assign rfl) rfl ?_; refine tl_e (e_storeW rfl rfl (by repeat constructor) (by rfl) (by rfl) (by simp [Value.oneCell'])) rfl (fun _ _ => ?_); refine tl_nil ?_; ((refine hK35 ?_; try (clear hK35; clear K35)))
                                all_goals refine tc_seq fun K36 hK36 => ?_; refine tc_region ?_; refine tl_q (y_move rfl) rfl ?_; refine tl_q (y_loadW rfl (by repeat constructor) (by rfl)) rfl ?_; refine tl_q (y_loadW rfl (by repeat constructor) (by rfl)) rfl ?_; refine tl_q (y_loadW rfl (by repeat constructor) (by rfl)) rfl ?_; refine tl_e (e_callU rfl (.cons rfl (.cons rfl (.cons rfl (.cons rfl .nil)))) (fun w' hw' => alike_c t hv ((gdL t tol).getD k (0, 0, 0)) ((bdL t tol).getD m (0, 0, 0)) hae hbe (l.getD i (0, 0)).1 (l.getD i (0, 0)).2 sl pl ll tl w' y.1.1.1 y.1.1.2 es4 ck4 (hTW.fr (hw'.fr (w0 := y.2) (S := [y.1.1.2]) MI.m) (hw'.heap _ (HM.mem (by repeat constructor))) hca4)) (fun _ => (by repeat constructor))) rfl (fun q hq => ?_); refine tl_q (y_not rfl) rfl ?_; refine tl_nil ?_; ((refine hK36 ?_; try (clear hK36; clear K36)))
                                all_goals (
                                 refine tc_cond rfl (fun hc => ?_) (fun hc => ?_)
                                 · try simp only [qn1, qn2, qn3, qn4, qn5, qn6, qn7, qn8] at hc
                                   all_goals refine tc_region ?_; refine tl_q (y_move rfl) rfl ?_; refine tl_q (y_move rfl) rfl ?_; (refine tl_e (e_bslice rfl (by (repeat (first | exact .nil | apply PV.one rfl rfl)); done) rfl rfl) rfl (fun _ _ => ?_))
                                   all_goals ((first | refine tl_e (e_append_own (old := (apN t l ((gdL t tol).getD k (0, 0, 0)) ((bdL t tol).getD m (0, 0, 0)) i).map vi) (junk := junka) rfl rfl rfl (by repeat constructor) (by simp) (by omega) hoa.1 (fun w' hw' => RdI.own0 (xs := [(i : Int)]) hw' (by repeat constructor)) (fun u hu => by obtain ⟨_, _, rfl⟩ := List.mem_map.1 hu; rfl) (by simp only [List.length_cons, List.length_nil]; omega) rfl) rfl (fun u hu => ?_) | refine tl_e (e_append_nil rfl rfl rfl (fun w' hw' => RdI.own0 (xs := [(i : Int)]) hw' (by repeat constructor)) (fun u hu => by obtain ⟨_, _, rfl⟩ := List.mem_map.1 hu; rfl) Nat.zero_lt_one (Nat.le_of_ble_eq_true rfl) rfl) rfl (fun u hu => ?_)))
                                   all_goals refine tl_q (y_assign rfl) rfl ?_; refine tl_nil ?_; ((refine hK34 ?_; try (clear hK34; clear K34)))
                                   all_goals refine tc_region ?_; refine tl_q (y_add rfl rfl (by omega)) rfl ?_; refine tl_q (y_move rfl) rfl ?_; refine tl_nil ?_
                                   all_goals (
                                    first
                                    | (have hs2 : apN t l ((gdL t tol).getD k (0, 0, 0)) ((bdL t tol).getD m (0, 0, 0)) (i + 1) = apN t l ((gdL t tol).getD k (0, 0, 0)) ((bdL t tol).getD m (0, 0, 0)) i ++ [(i : Int)] := by rw [apN_succ, if_neg (by rw [hc]; exact Bool.false_ne_true)]
                                       refine tk_round (i + 1, some (u.1, u.2.1, u.2.2), (q.1, q.2)) ⟨by dsimp only; omega, ?_, hq⟩ (by dsimp only; omega) (.cons rfl (.cons rfl (.cons rfl (.cons rfl (.cons rfl (.cons rfl (.cons rfl (.cons rfl (.cons rfl (.cons rfl (.cons rfl (.cons rfl (.cons ?_ (.cons rfl (.cons rfl (.cons rfl .nil)))))))))))))))) (fun _ h => ?_)
                                       · dsimp only [outOk]; rw [hs2, List.length_append]; simp only [List.length_cons, List.length_nil] at hu ⊢; omega
                                       · dsimp only [outV']; rw [hs2, List.length_append]; first | rfl | (rw [hoa]; rfl)
                                       · dsimp only [slH_some, List.cons_append, List.nil_append]; rw [hs2, List.map_append]
                                         try rw [show apN t l ((gdL t tol).getD k (0, 0, 0)) ((bdL t tol).getD m (0, 0, 0)) i = [] from List.eq_nil_of_length_eq_zero hoa, List.map_nil, List.nil_append]
                                         exact h.subl SB.s SB.s)
                                    | (have hs2 : apN t l ((gdL t tol).getD k (0, 0, 0)) ((bdL t tol).getD m (0, 0, 0)) (i + 1) = apN t l ((gdL t tol).getD k (0, 0, 0)) ((bdL t tol).getD m (0, 0, 0)) i := by rw [apN_succ, if_pos hc]
                                       first
                                       | (refine tk_round (i + 1, none, (q.1, q.2)) ⟨by dsimp only; omega, by dsimp only [outOk]; rw [hs2]; exact hoa, hq⟩ (by dsimp only; omega) (.cons rfl (.cons rfl (.cons rfl (.cons rfl (.cons rfl (.cons rfl (.cons rfl (.cons rfl (.cons rfl (.cons rfl (.cons rfl (.cons rfl (.cons rfl (.cons rfl (.cons rfl (.cons rfl .nil)))))))))))))))) (fun _ h => ?_)
                                          dsimp only [slH_none, List.cons_append, List.nil_append]; exact h.subl SB.s SB.s)
                                       | (refine tk_round (i + 1, some (ba, capa, junka), (q.1, q.2)) ⟨by dsimp only; omega, by dsimp only [outOk]; rw [hs2]; exact hoa, hq⟩ (by dsimp only; omega) (.cons rfl (.cons rfl (.cons rfl (.cons rfl (.cons rfl (.cons rfl (.cons rfl (.cons rfl (.cons rfl (.cons rfl (.cons rfl (.cons rfl (.cons ?_ (.cons rfl (.cons rfl (.cons rfl .nil)))))))))))))))) (fun _ h => ?_)
                                          · dsimp only [outV']; rw [hs2]; rfl
                                          · dsimp only [slH_some, List.cons_append, List.nil_append]; rw [hs2]; exact h.subl SB.s SB.s)))
                                 · try simp only [qn1, qn2, qn3, qn4, qn5, qn6, qn7, qn8] at hc
                                   all_goals refine tc_skip ?_; ((refine hK34 ?_; try (clear hK34; clear K34)))
                                   all_goals refine tc_region ?_; refine tl_q (y_add rfl rfl (by omega)) rfl ?_; refine tl_q (y_move rfl) rfl ?_; refine tl_nil ?_
                                   all_goals (
                                    first
                                    | (have hs2 : apN t l ((gdL t tol).getD k (0, 0, 0)) ((bdL t tol).getD m (0, 0, 0)) (i + 1) = apN t l ((gdL t tol).getD k (0, 0, 0)) ((bdL t tol).getD m (0, 0, 0)) i ++ [(i : Int)] := by rw [apN_succ, if_neg (by rw [hc]; exact Bool.false_ne_true)]
                                       refine tk_round (i + 1, some (u.1, u.2.1, u.2.2), (q.1, q.2)) ⟨by dsimp only; omega, ?_, hq⟩ (by dsimp only; omega) (.cons rfl (.cons rfl (.cons rfl (.cons rfl (.cons rfl (.cons rfl (.cons rfl (.cons rfl (.cons rfl (.cons rfl (.cons rfl (.cons rfl (.cons ?_ (.cons rfl (.cons rfl (.cons rfl .nil)))))))))))))))) (fun _ h => ?_)
                                       · dsimp only [outOk]; rw [hs2, List.length_append]; simp only [List.length_cons, List.length_nil] at hu ⊢; omega
                                       · dsimp only [outV']; rw [hs2, List.length_append]; first | rfl | (rw [hoa]; rfl)
                                       · dsimp only [slH_some, List.cons_append, List.nil_append]; rw [hs2, List.map_append]
                                         try rw [show apN t l ((gdL t tol).getD k (0, 0, 0)) ((bdL t tol).getD m (0, 0, 0)) i = [] from List.eq_nil_of_length_eq_zero hoa, List.map_nil, List.nil_append]
                                         exact h.subl SB.s SB.s)
                                    | (have hs2 : apN t l ((gdL t tol).getD k (0, 0, 0)) ((bdL t tol).getD m (0, 0, 0)) (i + 1) = apN t l ((gdL t tol).getD k (0, 0, 0)) ((bdL t tol).getD m (0, 0, 0)) i := by rw [apN_succ, if_pos hc]
                                       first
                                       | (refine tk_round (i + 1, none, (q.1, q.2)) ⟨by dsimp only; omega, by dsimp only [outOk]; rw [hs2]; exact hoa, hq⟩ (by dsimp only; omega) (.cons rfl (.cons rfl (.cons rfl (.cons rfl (.cons rfl (.cons rfl (.cons rfl (.cons rfl (.cons rfl (.cons rfl (.cons rfl (.cons rfl (.cons rfl (.cons rfl (.cons rfl (.cons rfl .nil)))))))))))))))) (fun _ h => ?_)
                                          dsimp only [slH_none, List.cons_append, List.nil_append]; exact h.subl SB.s SB.s)
                                       | (refine tk_round (i + 1, some (ba, capa, junka), (q.1, q.2)) ⟨by dsimp only; omega, by dsimp only [outOk]; rw [hs2]; exact hoa, hq⟩ (by dsimp only; omega) (.cons rfl (.cons rfl (.cons rfl (.cons rfl (.cons rfl (.cons rfl (.cons rfl (.cons rfl (.cons rfl (.cons rfl (.cons rfl (.cons rfl (.cons ?_ (.cons rfl (.cons rfl (.cons rfl .nil)))))))))))))))) (fun _ h => ?_)
                                          · dsimp only [outV']; rw [hs2]; rfl
                                          · dsimp only [slH_some, List.cons_append, List.nil_append]; rw [hs2]; exact h.subl SB.s SB.s))))
                              · try simp only [qn1, qn2, qn3, qn4, qn5, qn6, qn7, qn8] at hc
                                all_goals refine tc_exit ?_; ((refine hK30 ?_; try (clear hK30; clear K30)))
                                all_goals (have hil : i = l.length := by omega)
                                all_goals subst hil
                                all_goals rcases oo1 with _ | ⟨bo, cap, junk1⟩
                                all_goals ((dsimp only [outOk] at hok1; dsimp only [slH_none, slH_some, outV']))
                                all_goals ((have hpl := prs_len t l (gdL t tol) (bdL t tol) (k := k) (m := m) (by omega) (by omega); have hgb := prod_le (gb_len hv tol); have hkb := Nat.mul_le_mul_right (bdL t tol).length (show k ≤ (gdL t tol).length by omega); have hgl := gb_len hv tol))
                                all_goals (have hpm := prs_m (t := t) (l := l) (G := (gdL t tol)) (B := (bdL t tol)) (k := k) (m := m) (by omega))
                                all_goals refine tc_region ?_; refine tl_q (y_load1 rfl (by repeat constructor) (by rfl)) rfl ?_; refine tl_q (y_move rfl) rfl ?_; (refine tl_e (e_bslice rfl (by (repeat (first | exact .nil | apply PV.one rfl rfl)); done) rfl rfl) rfl (fun _ _ => ?_))
                                all_goals ((first | refine tl_e (e_append_own (old := vs1) (junk := junk1) rfl rfl rfl (by repeat constructor) (by rw [hin1.1, Nat.mul_one]) (by omega) hok1.1 (fun w' hw' => Reads.own1 hw' (by repeat constructor)) (fun u hu => by obtain rfl := List.mem_singleton.1 hu; rfl) (by omega) rfl) rfl (fun zp hzp => ?_) | refine tl_e (e_append_nil rfl rfl rfl (fun w' hw' => Reads.own1 hw' (by repeat constructor)) (fun u hu => by obtain rfl := List.mem_singleton.1 hu; rfl) Nat.zero_lt_one (Nat.le_of_ble_eq_true rfl) rfl) rfl (fun zp hzp => ?_)))
                                all_goals refine tl_e (e_store1 rfl rfl (by repeat constructor) (by repeat constructor) (by rfl) (by rfl)) rfl (fun _ _ => ?_); refine tl_nil ?_; ((refine hK27 ?_; try (clear hK27; clear K27)))
                                all_goals refine tc_region ?_; refine tl_q (y_add rfl rfl (by omega)) rfl ?_; refine tl_q (y_move rfl) rfl ?_; refine tl_nil ?_
                                all_goals (
                                 refine tk_lay [(zp.1, _), (b17, _), (b13, _), (y.1.1.2, _)] SB.s (fun w2 h2 => ?_)
                                 have hnd := h2.nodup
                                 have hown : ∀ x ∈ [zp.1, b17, b13, y.1.1.2], x ∈ S1 ∨ wl1.heap.size ≤ x := fun x hx => by
                                   simp only [List.mem_cons, List.not_mem_nil, or_false] at hx
                                   rcases hx with e | e | e | e
                                   · rw [e]; exact h2.own (zp.1, _) (HM.mem (by repeat constructor)) (wl1, S1) MI.m
                                   · rw [e]; exact h2.own (b17, _) (HM.mem (by repeat constructor)) (wl1, S1) MI.m
                                   · rw [e]; exact h2.own (b13, _) (HM.mem (by repeat constructor)) (wl1, S1) MI.m
                                   · rw [e]; exact h2.own (y.1.1.2, _) (HM.mem (by repeat constructor)) (wl1, S1) MI.m
                                 have hst := hin1.step (h2.fr (w0 := wl1) (S := S1) MI.m) hown
                                 first
                                 | (have hv2 : RdI w2 (.slice none 0 0) (apL t l ((gdL t tol).getD k (0, 0, 0)) ((bdL t tol).getD m (0, 0, 0))) := by
                                      have e : apL t l ((gdL t tol).getD k (0, 0, 0)) ((bdL t tol).getD m (0, 0, 0)) = [] := List.eq_nil_of_length_eq_zero hoa
                                      rw [e]; exact RdI.nil _
                                    have hin2 := hst.snoc hv2 (fun p m c e => by cases e)
                                    rw [← hpm] at hin2
                                    refine tk_round (m + 1, some (zp.1, zp.2.1, zp.2.2), vs1 ++ [Value.slice none 0 0], (w2, [zp.1, b17, b13, y.1.1.2]), (es4, ck4)) ⟨by dsimp only; omega, ?_, hin2, hca4⟩ (by dsimp only; omega) (.cons rfl (.cons rfl (.cons rfl (.cons rfl (.cons rfl (.cons rfl (.cons rfl (.cons rfl (.cons rfl (.cons rfl (.cons rfl .nil))))))))))) (fun _ h => ?_)
                                    · dsimp only [outOk]; rw [hpm, List.length_append]; simp only [List.length_cons, List.length_nil]; omega
                                    · dsimp only [slH_some, outV']
                                      rw [hpm, List.length_append]
                                      try rw [show (prs t l (gdL t tol) (bdL t tol) k m) = [] from List.eq_nil_of_length_eq_zero hok1]
                                      try rw [show vs1 = [] from List.eq_nil_of_length_eq_zero (hin1.1.trans hok1), List.nil_append]
                                      exact (h.subl SB.s (List.Sublist.refl _)).perm (List.perm_append_comm (l₁ := [_]) (l₂ := [_, _, _])))
                                 | (have hv2 : RdI w2 (.slice (some ⟨ba, 0, none⟩) (apN t l ((gdL t tol).getD k (0, 0, 0)) ((bdL t tol).getD m (0, 0, 0)) l.length).length capa) (apL t l ((gdL t tol).getD k (0, 0, 0)) ((bdL t tol).getD m (0, 0, 0))) := RdI.own (xs := apN t l ((gdL t tol).getD k (0, 0, 0)) ((bdL t tol).getD m (0, 0, 0)) l.length) h2 (b := ba) (by repeat constructor)
                                    have h5 : ([zp.1, ba, b17, b13, y.1.1.2] : List Nat).Nodup := hnd.sublist (List.Sublist.map (Prod.fst : Nat × Obj → Nat) (l₁ := [(zp.1, _), (ba, _), (b17, _), (b13, _), (y.1.1.2, _)]) SB.s)
                                    have hba : ba < w2.heap.size ∧ ba ∉ [zp.1, b17, b13, y.1.1.2] := ⟨h2.lt (HM.mem (b := ba) (by repeat constructor)), ba_out h5⟩
                                    have hin2 := hst.snoc hv2 (fun p m c e => by cases e; exact hba)
                                    rw [← hpm] at hin2
                                    refine tk_round (m + 1, some (zp.1, zp.2.1, zp.2.2), vs1 ++ [Value.slice (some ⟨ba, 0, none⟩) (apN t l ((gdL t tol).getD k (0, 0, 0)) ((bdL t tol).getD m (0, 0, 0)) l.length).length capa], (w2, [zp.1, b17, b13, y.1.1.2]), (es4, ck4)) ⟨by dsimp only; omega, ?_, hin2, hca4⟩ (by dsimp only; omega) (.cons rfl (.cons rfl (.cons rfl (.cons rfl (.cons rfl (.cons rfl (.cons rfl (.cons rfl (.cons rfl (.cons rfl (.cons rfl .nil))))))))))) (fun _ h => ?_)
                                    · dsimp only [outOk]; rw [hpm, List.length_append]; simp only [List.length_cons, List.length_nil]; omega
                                    · dsimp only [slH_some, outV']
                                      rw [hpm, List.length_append]
                                      try rw [show (prs t l (gdL t tol) (bdL t tol) k m) = [] from List.eq_nil_of_length_eq_zero hok1]
                                      try rw [show vs1 = [] from List.eq_nil_of_length_eq_zero (hin1.1.trans hok1), List.nil_append]
                                      exact (h.subl SB.s (List.Sublist.refl _)).perm (List.perm_append_comm (l₁ := [_]) (l₂ := [_, _, _]))))))
                        · try simp only [qn1, qn2, qn3, qn4, qn5, qn6, qn7, qn8] at hc
                          all_goals refine tc_exit ?_; ((refine hK22 ?_; try (clear hK22; clear K22)))
                          all_goals (have hmB : m = (bdL t tol).length := by omega)
                          all_goals subst hmB
                          all_goals refine tc_region ?_; refine tl_q (y_add rfl rfl (by omega)) rfl ?_; refine tl_q (y_move rfl) rfl ?_; refine tl_nil ?_
                          all_goals (
                           refine tk_round (k + 1, oo1, vs1, (wl1, S1), (es3, ck3)) ⟨by dsimp only; omega, ?_, ?_, hca1⟩ (by dsimp only; omega) (.cons rfl (.cons rfl (.cons rfl (.cons rfl (.cons rfl (.cons rfl (.cons rfl .nil))))))) (fun _ h => ?_)
                           · dsimp only; rw [prs_k (by omega)]; exact hok1
                           · dsimp only; rw [prs_k (by omega)]; exact hin1
                           · dsimp only; rw [prs_k (by omega)]; exact h.subl SB.s SB.s)))
                  · try simp only [qn1, qn2, qn3, qn4, qn5, qn6, qn7, qn8] at hc
                    all_goals refine tc_exit ?_; ((refine hK18 ?_; try (clear hK18; clear K18)))
                    all_goals refine tc_seq fun K37 hK37 => ?_; (have hkG : k = (gdL t tol).length := by omega)
                    all_goals subst hkG
                    all_goals ((have hpl := prs_len t l (gdL t tol) (bdL t tol) (k := (gdL t tol).length) (m := 0) (by omega) (by omega); have hgb := prod_le (gb_len hv tol)))
                    all_goals rcases oo with _ | ⟨bo, cap, junk⟩
                    all_goals ((dsimp only [outOk] at hok; dsimp only [slH_none, slH_some, outV']))
                    all_goals first | (have hRd0 : ∀ w', RdLL w' (.slice none 0 0) (pairsL t tol l) := fun w' => by
                                         rw [show pairsL t tol l = [] from List.eq_nil_of_length_eq_zero hok]; exact RdLL.nil w') | skip
                    all_goals (have hpq : (pairsL t tol l).length = (gdL t tol).length * (bdL t tol).length + 0 := hpl)
                    all_goals rcases hsr : searchT (fewP (pairsL t tol l)) l.length with _ | rs
                    all_goals refine tc_region ?_; refine tl_q (y_move rfl) rfl ?_; refine tl_q (y_len rfl) rfl ?_; refine tl_q (y_fn .nil (.cons rfl .nil)) rfl ?_; ((first | refine tl_e (e_callEndF (val := fun x : Value × Obj => .tuple #[x.1, .bool false]) (p := fun x w' => True) (S := [y.1.1.2]) rfl (.cons rfl (.cons rfl .nil)) (fun w' hw' => CnX.imp (val' := fun x : Value × Obj => .tuple #[x.1, .bool false]) (tlists_c 89 #[ptr b13] (fewP (pairsL t tol l)) l.length (by omega) y.1.1.2 (.map es2 ck2) (fun o => o = .map es2 ck2) w' (hw'.heap _ (HM.mem (by repeat constructor))) rfl (few_pass t (pairsL t tol l) l.length (by omega) (fun ap h => by have := prs_ap h; omega) b13 y.1.1.2 (fun e => by have := hw'.nodup; rw [e] at this; simp at this) _ es2 ck2 w' (hw'.heap (b13, _) (HM.mem (by repeat constructor))) (hw'.heap _ (HM.mem (by repeat constructor))) (hRd0 w'))) id (fun x => by rw [hsr]; rfl) (fun _ h => h) (fun _ _ _ _ => trivial)) (fun w' hw' β hβ q hq => by obtain rfl := List.mem_singleton.1 hq; exact hw'.own (y.1.1.2, _) (HM.mem (by repeat constructor)) β hβ)) rfl (fun v hv3 => ?_) | refine tl_e (e_callEndF (val := fun x : Value × Obj => .tuple #[x.1, .bool true]) (p := fun x w' => RdI w' x.1 rs) (S := [y.1.1.2]) rfl (.cons rfl (.cons rfl .nil)) (fun w' hw' => CnX.imp (val' := fun x : Value × Obj => .tuple #[x.1, .bool true]) (tlists_c 89 #[ptr b13] (fewP (pairsL t tol l)) l.length (by omega) y.1.1.2 (.map es2 ck2) (fun o => o = .map es2 ck2) w' (hw'.heap _ (HM.mem (by repeat constructor))) rfl (few_pass t (pairsL t tol l) l.length (by omega) (fun ap h => by have := prs_ap h; omega) b13 y.1.1.2 (fun e => by have := hw'.nodup; rw [e] at this; simp at this) _ es2 ck2 w' (hw'.heap (b13, _) (HM.mem (by repeat constructor))) (hw'.heap _ (HM.mem (by repeat constructor))) (hRd0 w'))) id (fun x => by rw [hsr]; rfl) (fun _ h => h) (fun x w2 _ hx => hx.2.2.2 _ hsr)) (fun w' hw' β hβ q hq => by obtain rfl := List.mem_singleton.1 hq; exact hw'.own (y.1.1.2, _) (HM.mem (by repeat constructor)) β hβ)) rfl (fun v hv3 => ?_) | refine tl_e (e_callEndF (val := fun x : Value × Obj => .tuple #[x.1, .bool false]) (p := fun x w' => True) (S := [y.1.1.2]) rfl (.cons rfl (.cons rfl .nil)) (fun w' hw' => CnX.imp (val' := fun x : Value × Obj => .tuple #[x.1, .bool false]) (tlists_c 89 #[ptr b13] (fewP (pairsL t tol l)) l.length (by omega) y.1.1.2 (.map es2 ck2) (fun o => o = .map es2 ck2) w' (hw'.heap _ (HM.mem (by repeat constructor))) rfl (few_pass t (pairsL t tol l) l.length (by omega) (fun ap h => by have := prs_ap h; omega) b13 y.1.1.2 (fun e => by have := hw'.nodup; rw [e] at this; simp at this) _ es2 ck2 w' (hw'.heap (b13, _) (HM.mem (by repeat constructor))) (hw'.heap _ (HM.mem (by repeat constructor))) (hin.rd hw' (b := bo) (cap := cap) (by repeat constructor) (hw'.fr (w0 := wl) (S := S) MI.m)))) id (fun x => by rw [hsr]; rfl) (fun _ h => h) (fun _ _ _ _ => trivial)) (fun w' hw' β hβ q hq => by obtain rfl := List.mem_singleton.1 hq; exact hw'.own (y.1.1.2, _) (HM.mem (by repeat constructor)) β hβ)) rfl (fun v hv3 => ?_) | refine tl_e (e_callEndF (val := fun x : Value × Obj => .tuple #[x.1, .bool true]) (p := fun x w' => RdI w' x.1 rs) (S := [y.1.1.2]) rfl (.cons rfl (.cons rfl .nil)) (fun w' hw' => CnX.imp (val' := fun x : Value × Obj => .tuple #[x.1, .bool true]) (tlists_c 89 #[ptr b13] (fewP (pairsL t tol l)) l.length (by omega) y.1.1.2 (.map es2 ck2) (fun o => o = .map es2 ck2) w' (hw'.heap _ (HM.mem (by repeat constructor))) rfl (few_pass t (pairsL t tol l) l.length (by omega) (fun ap h => by have := prs_ap h; omega) b13 y.1.1.2 (fun e => by have := hw'.nodup; rw [e] at this; simp at this) _ es2 ck2 w' (hw'.heap (b13, _) (HM.mem (by repeat constructor))) (hw'.heap _ (HM.mem (by repeat constructor))) (hin.rd hw' (b := bo) (cap := cap) (by repeat constructor) (hw'.fr (w0 := wl) (S := S) MI.m)))) id (fun x => by rw [hsr]; rfl) (fun _ h => h) (fun x w2 _ hx => hx.2.2.2 _ hsr)) (fun w' hw' β hβ q hq => by obtain rfl := List.mem_singleton.1 hq; exact hw'.own (y.1.1.2, _) (HM.mem (by repeat constructor)) β hβ)) rfl (fun v hv3 => ?_)))
                    all_goals refine tl_q (y_move rfl) rfl ?_; refine tl_q (y_extract rfl rfl) rfl ?_; refine tl_q (y_extract rfl rfl) rfl ?_; refine tl_q (y_assign rfl) rfl ?_; refine tl_q (y_assign rfl) rfl ?_; refine tl_nil ?_; ((refine hK37 ?_; try (clear hK37; clear K37)))
                    all_goals refine tc_seq fun K38 hK38 => ?_; refine tc_seq fun K39 hK39 => ?_; refine tc_region ?_; refine tl_q (y_move rfl) rfl ?_; refine tl_q (y_not rfl) rfl ?_; refine tl_nil ?_; ((refine hK39 ?_; try (clear hK39; clear K39)))
                    all_goals (
                     refine tc_cond rfl (fun hc => ?_) (fun hc => ?_)
                     · try simp only [qn1, qn2, qn3, qn4, qn5, qn6, qn7, qn8] at hc
                       all_goals ((first | (exfalso; with_reducible exact btf hc) | skip))
                       all_goals refine tc_seq fun K40 hK40 => ?_; refine tc_region ?_; refine tl_q (y_assign rfl) rfl ?_; refine tl_q (y_assign rfl) rfl ?_; refine tl_nil ?_; ((refine hK40 ?_; try (clear hK40; clear K40)))
                       all_goals refine tc_ret ?_; (repeat (refine tk_then_ret ?_))
                       all_goals (refine tk_ret rfl rfl (.cons (.tmp rfl) (.cons (.tmp rfl) .nil)) ?_)
                       all_goals (
                        first
                        | (have hE : fewestE t tol l = ([], tolE t tol) := if_pos (by assumption)
                           rw [hE]; exact fun w' hw' => ⟨_, rfl, hw'.fr (w0 := w) (S := []) MI.m, RdI.nil _⟩)
                        | (have hE : fewestE t tol l = ([], 3) := by unfold fewestE; rw [if_neg (by omega), if_pos (by omega)]
                           rw [hE]; exact fun w' hw' => ⟨_, rfl, hw'.fr (w0 := w) (S := []) MI.m, RdI.nil _⟩)
                        | (have hE : fewestE t tol l = ([], 2) := by unfold fewestE; rw [if_neg (by omega), if_neg (by omega), if_pos (by assumption)]
                           rw [hE]; exact fun w' hw' => ⟨_, rfl, hw'.fr (w0 := w) (S := []) MI.m, RdI.nil _⟩)
                        | (have hE : fewestE t tol l = ([], askedE t) := by unfold fewestE; rw [if_neg (by omega), if_neg (by omega), if_neg (by rw [hall]; exact Bool.noConfusion), if_pos hA]
                           rw [hE]; exact fun w' hw' => ⟨_, rfl, hw'.fr (w0 := w) (S := []) MI.m, RdI.nil _⟩)
                        | (have hE : fewestE t tol l = ([], 9) := by unfold fewestE; rw [if_neg (by omega), if_neg (by omega), if_neg (by rw [hall]; exact Bool.noConfusion), if_neg (by omega), hsr]
                           rw [hE]; exact fun w' hw' => ⟨_, rfl, hw'.fr (w0 := w) (S := []) MI.m, RdI.nil _⟩)
                        | (have hE : fewestE t tol l = (rs, 0) := by unfold fewestE; rw [if_neg (by omega), if_neg (by omega), if_neg (by rw [hall]; exact Bool.noConfusion), if_neg (by omega), hsr]
                           rw [hE]; exact fun w' hw' => ⟨v.1.1, rfl, hw'.fr (w0 := w) (S := []) MI.m, hv3.2.2.fr (hw'.fr (w0 := v.2.2) (S := []) MI.m)⟩))
                     · try simp only [qn1, qn2, qn3, qn4, qn5, qn6, qn7, qn8] at hc
                       all_goals ((first | (exfalso; with_reducible exact bft hc) | skip))
                       all_goals refine tc_skip ?_; ((refine hK38 ?_; try (clear hK38; clear K38)))
                       all_goals refine tc_seq fun K41 hK41 => ?_; refine tc_region ?_; refine tl_q (y_move rfl) rfl ?_; refine tl_q (y_assign rfl) rfl ?_; refine tl_q (y_assign rfl) rfl ?_; refine tl_nil ?_; ((refine hK41 ?_; try (clear hK41; clear K41)))
                       all_goals refine tc_ret ?_; (repeat (first | refine tk_then_ret ?_))
                       all_goals (refine tk_ret rfl rfl (.cons (.tmp rfl) (.cons (.tmp rfl) .nil)) ?_)
                       all_goals (
                        first
                        | (have hE : fewestE t tol l = ([], tolE t tol) := if_pos (by assumption)
                           rw [hE]; exact fun w' hw' => ⟨_, rfl, hw'.fr (w0 := w) (S := []) MI.m, RdI.nil _⟩)
                        | (have hE : fewestE t tol l = ([], 3) := by unfold fewestE; rw [if_neg (by omega), if_pos (by omega)]
                           rw [hE]; exact fun w' hw' => ⟨_, rfl, hw'.fr (w0 := w) (S := []) MI.m, RdI.nil _⟩)
                        | (have hE : fewestE t tol l = ([], 2) := by unfold fewestE; rw [if_neg (by omega), if_neg (by omega), if_pos (by assumption)]
                           rw [hE]; exact fun w' hw' => ⟨_, rfl, hw'.fr (w0 := w) (S := []) MI.m, RdI.nil _⟩)
                        | (have hE : fewestE t tol l = ([], askedE t) := by unfold fewestE; rw [if_neg (by omega), if_neg (by omega), if_neg (by rw [hall]; exact Bool.noConfusion), if_pos hA]
                           rw [hE]; exact fun w' hw' => ⟨_, rfl, hw'.fr (w0 := w) (S := []) MI.m, RdI.nil _⟩)
                        | (have hE : fewestE t tol l = ([], 9) := by unfold fewestE; rw [if_neg (by omega), if_neg (by omega), if_neg (by rw [hall]; exact Bool.noConfusion), if_neg (by omega), hsr]
                           rw [hE]; exact fun w' hw' => ⟨_, rfl, hw'.fr (w0 := w) (S := []) MI.m, RdI.nil _⟩)
                        | (have hE : fewestE t tol l = (rs, 0) := by unfold fewestE; rw [if_neg (by omega), if_neg (by omega), if_neg (by rw [hall]; exact Bool.noConfusion), if_neg (by omega), hsr]
                           rw [hE]; exact fun w' hw' => ⟨v.1.1, rfl, hw'.fr (w0 := w) (S := []) MI.m, hv3.2.2.fr (hw'.fr (w0 := v.2.2) (S := []) MI.m)⟩)))))))))
end Go.Sp
/-
  The chapter's trial: what is asked of it, computed.
-/
namespace Go.Sp
open Go Go.Proofs
abbrev twoS : Sn := ⟨900, 800, 20, 10, 10, [100, 200]⟩
abbrev twoT (m : List E3) : Tr := ⟨twoS, [0, 6], 2, [(1000, 1000), (915, 925)], [(0, 0, 6), (1, 0, 10)] ++ m⟩
set_option maxRecDepth 100000
theorem ta1 : shownE (twoT []) [0, 1] 0 1000 = ([5, 6], 0) := by kernel_rfl
theorem ta2 : askedE (twoT []) = 0 := by kernel_rfl
theorem ta3 : possLL (twoT []) 2 = [[-2, -1, 0, 1, 2], [1]] := by kernel_rfl
theorem ta4 : judgeE (twoT []) 1 = (3, 0) := by kernel_rfl
theorem ta5 : certL (twoT []) 2 = [(0, 2), (1, 0)] := by kernel_rfl
theorem ta6 : correctE (twoT []) 0 7 = ((968, 989), 0) := by kernel_rfl
theorem ta7 : fewestE (twoT []) 1 [(0, 1000), (0, 1100)] = ([1], 0) := by kernel_rfl
theorem ta8 : leaveTL (twoT [(0, 0, 8)]) = [2] := by kernel_rfl
theorem ta9 : chkT (twoT [(0, 0, 8)]) = 0 := by kernel_rfl
theorem twoT_nt (m : List E3) (h : m.length ≤ 1000) : NT (twoT m) := ⟨by show (2 : Int) ≤ 9000000000000000000; decide, by show (2 : Int) ≤ 9000000000000000000; decide, by show (2 : Int) ≤ 9000000000000000000; decide, by show ((([(0, 0, 6), (1, 0, 10)] ++ m : List E3).length : Nat) : Int) ≤ 9000000000000000000; rw [List.length_append]; simp only [List.length_cons, List.length_nil]; omega⟩
end Go.Sp
/-
  What all statements about trials end with: the chapter's example.
-/
namespace Go.Sp
open Go Go.Proofs
theorem ints9_c (a b : List Int) (ha : (a.length : Int) ≤ 9000000000000000000) (hb : (b.length : Int) ≤ 9000000000000000000) (av bv : Value) (w : World) (hA : RdI w av a) (hB : RdI w bv b) :
    CnV Tryz.prog 24 #[av, bv] w (.bool (decide (a = b))) := by
  obtain ⟨ad, cap, b0, o, rfl, had, hcell⟩ := hA.open
  obtain ⟨ad2, cap2, b02, o2, rfl, had2, hcell2⟩ := hB.open
  refine cnv (vs := [_, _]) Tryz.func24 rfl rfl ?_
  all_goals refine tc_seq fun K1 hK1 => ?_; refine tc_region ?_; refine tl_q (y_assign rfl) rfl ?_; refine tl_nil ?_; ((refine hK1 ?_; try (clear hK1; clear K1)))
  all_goals refine tc_seq fun K2 hK2 => ?_; refine tc_seq fun K3 hK3 => ?_; refine tc_region ?_; refine tl_q (y_move rfl) rfl ?_; refine tl_q (y_len rfl) rfl ?_; refine tl_q (y_move rfl) rfl ?_; refine tl_q (y_len rfl) rfl ?_; refine tl_q (y_neq rfl rfl) rfl ?_; refine tl_nil ?_; ((refine hK3 ?_; try (clear hK3; clear K3)))
  all_goals (
   refine tc_cond rfl (fun hc => ?_) (fun hc => ?_)
   · try simp only [qn1, qn2, qn3, qn4, qn5, qn6, qn7, qn8] at hc
     all_goals refine tc_seq fun K4 hK4 => ?_; refine tc_region ?_; refine tl_q (y_assign rfl) rfl ?_; refine tl_nil ?_; ((refine hK4 ?_; try (clear hK4; clear K4)))
     all_goals refine tc_ret ?_; (repeat (refine tk_then_ret ?_))
     all_goals (refine tk_ret rfl rfl (.cons (.tmp rfl) .nil) ?_)
     all_goals (
      refine fun w' hw' => ⟨congrArg (fun n => Ending.returned (Value.bool n)) ?_, hw'.fr (by simp)⟩
      symm
      first
      | exact decide_eq_false (fun h => absurd (congrArg List.length h) (by omega))
      | exact decide_eq_false (fun h => absurd (congrArg (fun l => List.getD l n 0) h) (by omega))
      | exact decide_eq_true (List.ext_getElem (by omega) (fun i h1 h2 => by
          have := hI i (by omega)
          rw [List.getD_eq_getElem?_getD, List.getD_eq_getElem?_getD, List.getElem?_eq_getElem h1, List.getElem?_eq_getElem h2] at this
          exact this)))
   · try simp only [qn1, qn2, qn3, qn4, qn5, qn6, qn7, qn8] at hc
     all_goals refine tc_skip ?_; ((refine hK2 ?_; try (clear hK2; clear K2)))
     all_goals refine tc_seq fun K5 hK5 => ?_; refine tc_seq fun K6 hK6 => ?_; refine tc_region ?_; refine tl_q (y_assign rfl) rfl ?_; refine tl_nil ?_; ((refine hK6 ?_; try (clear hK6; clear K6)))
     all_goals refine tc_block ?_
     all_goals (
      refine tc_loop (fun n : Nat => n ≤ a.length ∧ ∀ j : Nat, j < n → a.getD j 0 = b.getD j 0) (fun n => [(0, .slice ad a.length cap), (1, .slice ad2 b.length cap2), (5, vi n)]) (fun _ => [(w, [])]) (fun _ => []) (fun n => a.length - n) ?_ ?_
      · exact tk_start 0 ⟨Nat.zero_le _, fun i hi => absurd hi (Nat.not_lt_zero i)⟩ (.cons rfl (.cons rfl (.cons rfl .nil))) (fun _ h => h)
      · rintro n ⟨hn, hI⟩
        all_goals refine tc_seq fun K7 hK7 => ?_; refine tc_seq fun K8 hK8 => ?_; refine tc_region ?_; refine tl_q (y_move rfl) rfl ?_; refine tl_q (y_move rfl) rfl ?_; refine tl_q (y_len rfl) rfl ?_; refine tl_q (y_lss rfl rfl) rfl ?_; refine tl_nil ?_; ((refine hK8 ?_; try (clear hK8; clear K8)))
        all_goals (
         refine tc_cond rfl (fun hc => ?_) (fun hc => ?_)
         · try simp only [qn1, qn2, qn3, qn4, qn5, qn6, qn7, qn8] at hc
           all_goals refine tc_skip ?_; ((refine hK7 ?_; try (clear hK7; clear K7)))
           all_goals refine tc_seq fun K9 hK9 => ?_; refine tc_block ?_; refine tc_seq fun K10 hK10 => ?_
           have had' := had (by omega)
           have had2' := had2 (by omega)
           all_goals refine tc_draw (by kernel_rfl) ?_; refine tx_p 0 rfl (by kernel_rfl) (y_move rfl) rfl (fun _ _ _ h => h) (fun _ h => h) ?_; refine tx_p 1 rfl (by kernel_rfl) (y_move rfl) rfl (fun _ _ _ h => h) (fun _ h => h) ?_; refine tx_p 2 rfl (by kernel_rfl) (y_index rfl rfl (by omega) had') rfl (fun _ _ _ h => h) (fun _ h => h) ?_; ((refine tx_q 3 rfl (by kernel_rfl) (y_load1o (v := vi (a.getD n 0)) rfl (fun w' hw' => by rw [show Int.toNat (n : Int) * 1 = n from by omega]; exact hcell w' (hw'.fr (by simp)) n (by omega))) rfl (fun _ _ _ h => h) (fun _ h => h) ?_))
           all_goals refine tx_p 4 rfl (by kernel_rfl) (y_move rfl) rfl (fun _ _ _ h => h) (fun _ h => h) ?_; refine tx_p 5 rfl (by kernel_rfl) (y_move rfl) rfl (fun _ _ _ h => h) (fun _ h => h) ?_; refine tx_p 6 rfl (by kernel_rfl) (y_index rfl rfl (by omega) had2') rfl (fun _ _ _ h => h) (fun _ h => h) ?_; ((refine tx_q 7 rfl (by kernel_rfl) (y_load1o (v := vi (b.getD n 0)) rfl (fun w' hw' => by rw [show Int.toNat (n : Int) * 1 = n from by omega]; exact hcell2 w' (hw'.fr (by simp)) n (by omega))) rfl (fun _ _ _ h => h) (fun _ h => h) ?_))
           all_goals refine tx_p 8 rfl (by kernel_rfl) (y_neq rfl rfl) rfl (fun _ _ _ h => h) (fun _ h => h) ?_; refine tx_done (by kernel_rfl) ?_; ((refine hK10 ?_; try (clear hK10; clear K10)))
           all_goals (
            refine tc_cond rfl (fun hc => ?_) (fun hc => ?_)
            · try simp only [qn1, qn2, qn3, qn4, qn5, qn6, qn7, qn8] at hc
              all_goals refine tc_seq fun K11 hK11 => ?_; refine tc_region ?_; refine tl_q (y_assign rfl) rfl ?_; refine tl_nil ?_; ((refine hK11 ?_; try (clear hK11; clear K11)))
              all_goals refine tc_ret ?_; (repeat (first | refine tk_then_ret ?_ | refine tk_block_ret ?_))
              all_goals (refine tk_ret rfl rfl (.cons (.tmp rfl) .nil) ?_)
              all_goals (
               refine fun w' hw' => ⟨congrArg (fun n => Ending.returned (Value.bool n)) ?_, hw'.fr (by simp)⟩
               symm
               first
               | exact decide_eq_false (fun h => absurd (congrArg List.length h) (by omega))
               | exact decide_eq_false (fun h => absurd (congrArg (fun l => List.getD l n 0) h) (by omega))
               | exact decide_eq_true (List.ext_getElem (by omega) (fun i h1 h2 => by
                   have := hI i (by omega)
                   rw [List.getD_eq_getElem?_getD, List.getD_eq_getElem?_getD, List.getElem?_eq_getElem h1, List.getElem?_eq_getElem h2] at this
                   exact this)))
            · try simp only [qn1, qn2, qn3, qn4, qn5, qn6, qn7, qn8] at hc
              all_goals refine tc_skip ?_; ((refine hK9 ?_; try (clear hK9; clear K9)))
              all_goals refine tc_region ?_; refine tl_q (y_move rfl) rfl ?_; refine tl_q (y_add rfl rfl (by omega)) rfl ?_; refine tl_q (y_assign rfl) rfl ?_; refine tl_nil ?_
              all_goals (
               exact tk_round (n + 1) ⟨by omega, fun i hi => by
                 rcases Nat.lt_succ_iff_lt_or_eq.1 hi with h | rfl
                 · exact hI i h
                 · exact hc⟩ (by omega) (.cons rfl (.cons rfl (.cons rfl .nil))) (fun _ h => h)))
         · try simp only [qn1, qn2, qn3, qn4, qn5, qn6, qn7, qn8] at hc
           all_goals refine tc_exit ?_; ((refine hK5 ?_; try (clear hK5; clear K5)))
           all_goals refine tc_seq fun K12 hK12 => ?_; refine tc_region ?_; refine tl_q (y_assign rfl) rfl ?_; refine tl_nil ?_; ((refine hK12 ?_; try (clear hK12; clear K12)))
           all_goals refine tc_ret ?_; (repeat (first | refine tk_then_ret ?_))
           all_goals (refine tk_ret rfl rfl (.cons (.tmp rfl) .nil) ?_)
           all_goals (
            refine fun w' hw' => ⟨congrArg (fun n => Ending.returned (Value.bool n)) ?_, hw'.fr (by simp)⟩
            symm
            first
            | exact decide_eq_false (fun h => absurd (congrArg List.length h) (by omega))
            | exact decide_eq_false (fun h => absurd (congrArg (fun l => List.getD l n 0) h) (by omega))
            | exact decide_eq_true (List.ext_getElem (by omega) (fun i h1 h2 => by
                have := hI i (by omega)
                rw [List.getD_eq_getElem?_getD, List.getD_eq_getElem?_getD, List.getElem?_eq_getElem h1, List.getElem?_eq_getElem h2] at this
                exact this))))))
theorem ints9_t (a : List Int) (ha : (a.length : Int) ≤ 9000000000000000000) (av bv : Value) (w : World) (hA : RdI w av a) (hB : RdI w bv a) : CnV Tryz.prog 24 #[av, bv] w (.bool true) := by
  have h := ints9_c a a ha ha av bv w hA hB
  rwa [decide_eq_true rfl] at h
theorem between9_c (a b : Int) (w : World) : CnV Tryz.prog 60 #[vi a, vi b] w (rV (a, b)) := by
  refine cnv (vs := [_, _]) Tryz.func60 rfl rfl ?_
  all_goals refine tc_seq fun K1 hK1 => ?_; refine tc_region ?_; refine tl_e (e_allocN rfl) rfl (fun _ _ => ?_); refine tl_nil ?_; ((refine hK1 ?_; try (clear hK1; clear K1)))
  all_goals refine tc_seq fun K2 hK2 => ?_; refine tc_region ?_; refine tl_q (y_move rfl) rfl ?_; refine tl_q (y_move rfl) rfl ?_; refine tl_q (y_build_2 rfl rfl rfl rfl) rfl ?_; refine tl_e (e_storeW rfl rfl (by repeat constructor) (by rfl) (by rfl) (by simp [Value.oneCell'])) rfl (fun _ _ => ?_); refine tl_nil ?_; ((refine hK2 ?_; try (clear hK2; clear K2)))
  all_goals refine tc_ret ?_; (repeat (first | refine tk_then_ret ?_))
  all_goals (refine tk_ret rfl rfl (.cons (.agg inferInstance rfl (by repeat constructor) (by rfl)) .nil) ?_)
  all_goals (
   exact fun w' hw' => ⟨rfl, hw'.fr (by simp)⟩)
theorem offered_c (w : World) : CnX Tryz.prog 61 #[] w [] (slV 2) (fun x w' => RdR w' (slV 2 x) [(0, 1000), (0, 1100)]) := by
  refine cnx0 (vs := []) Tryz.func61 rfl rfl ?_
  all_goals refine tc_seq fun K1 hK1 => ?_; refine tc_region ?_; refine tl_q (y_assign rfl) rfl ?_; refine tl_nil ?_; ((refine hK1 ?_; try (clear hK1; clear K1)))
  all_goals refine tc_seq fun K2 hK2 => ?_; refine tc_region ?_; refine tl_q (y_build_2 rfl rfl rfl rfl) rfl ?_; refine tl_q (y_build_2 rfl rfl rfl rfl) rfl ?_; (refine tl_e (e_bslice rfl (by (repeat (first | exact .nil | apply PV.two rfl)); done) rfl rfl) rfl (fun b3 _ => ?_))
  all_goals refine tl_q (y_assign rfl) rfl ?_; refine tl_nil ?_; ((refine hK2 ?_; try (clear hK2; clear K2)))
  all_goals refine tc_ret ?_; (repeat (first | refine tk_then_ret ?_))
  all_goals (refine tk_ret rfl rfl (.cons (.tmp rfl) .nil) ?_)
  all_goals (
   exact fun w' hw' => ⟨(some ⟨b3, 0, none⟩, 2), rfl, hw'.fr (by simp), RdR.own0 (xs := [(0, 1000), (0, 1100)]) hw' (by repeat constructor)⟩)
theorem two9_c (m : List E3) (hm : m.length ≤ 1000) (lv : Value) (w : World) (hL : RdT w lv m) :
    CnX Tryz.prog 59 #[lv] w [] (fun x : (Option Addr × Nat) × (Option Addr × Nat) × (Option Addr × Nat) × (Option Addr × Nat) => trV (twoT m) (slV 2 x.1) (slV 2 x.2.1) (slV 2 x.2.2.1) (slV (2 + m.length) x.2.2.2))
      (fun x w' => RdTr w' (twoT m) (slV 2 x.1) (slV 2 x.2.1) (slV 2 x.2.2.1) (slV (2 + m.length) x.2.2.2)) := by
  refine cnx0 (vs := [_]) Tryz.func59 rfl rfl ?_
  all_goals refine tc_seq fun K1 hK1 => ?_; refine tc_region ?_; refine tl_e (e_allocN rfl) rfl (fun b2 _ => ?_); refine tl_nil ?_; ((refine hK1 ?_; try (clear hK1; clear K1)))
  all_goals refine tc_seq fun K2 hK2 => ?_; refine tc_region ?_; ((refine tl_e (e_bslice rfl (by (repeat (first | exact .nil | apply PV.one rfl rfl)); done) rfl rfl) rfl (fun b3 _ => ?_)))
  all_goals (refine tl_q (y_build_g (by repeat constructor)) rfl ?_); ((refine tl_e (e_bslice rfl (by (repeat (first | exact .nil | apply PV.one rfl rfl)); done) rfl rfl) rfl (fun b5 _ => ?_)))
  all_goals refine tl_e (e_callV rfl (.cons rfl (.cons rfl .nil)) (fun w' _ => between9_c _ _ w')) rfl (fun _ _ => ?_); refine tl_e (e_callV rfl (.cons rfl (.cons rfl .nil)) (fun w' _ => between9_c _ _ w')) rfl (fun _ _ => ?_); refine tl_e (e_bsliceG rfl (.agg rfl rfl (.agg rfl rfl .nil)) rfl rfl) rfl (fun b8 _ => ?_); refine tl_q (y_build_g (by repeat constructor)) rfl ?_; refine tl_q (y_build_g (by repeat constructor)) rfl ?_; refine tl_e (e_bsliceG rfl (.agg rfl rfl (.agg rfl rfl .nil)) rfl rfl) rfl (fun b11 _ => ?_); refine tl_q (y_move rfl) rfl ?_; refine tl_e (e_append_own (old := flatT [(0, 0, 6), (1, 0, 10)]) (junk := []) rfl rfl rfl (by repeat constructor) (by rfl) (by rfl) (Nat.le_refl _) (fun w' hw' => hL.fr (hw'.fr (w0 := w) (S := []) MI.m)) (flatT_one _) (by omega) rfl) rfl (fun z hz => ?_); refine tl_q (y_build_g (by repeat constructor)) rfl ?_; refine tl_e (e_storeW rfl rfl (by repeat constructor) (by rfl) (by rfl) (by simp [Value.oneCell'])) rfl (fun _ _ => ?_); refine tl_nil ?_; ((refine hK2 ?_; try (clear hK2; clear K2)))
  all_goals refine tc_ret ?_; (repeat (first | refine tk_then_ret ?_))
  all_goals (refine tk_ret rfl rfl (.cons (.agg inferInstance rfl (by repeat constructor) (by rfl)) .nil) ?_)
  all_goals (
   refine fun w' hw' => ⟨((some ⟨b3, 0, none⟩, 2), (some ⟨b5, 0, none⟩, 2), (some ⟨b8, 0, none⟩, 2), (some ⟨z.1, 0, none⟩, z.2.1)), rfl, hw'.fr (by simp), RdI.own0 (xs := [100, 200]) hw' (b := b3) (by repeat constructor), RdI.own0 (xs := [0, 6]) hw' (b := b5) (by repeat constructor), RdR.own0 (xs := [(1000, 1000), (915, 925)]) hw' (b := b8) (by repeat constructor), ?_⟩
   have := RdT.own (xs := [(0, 0, 6), (1, 0, 10)] ++ m) (b := z.1) (cap := z.2.1) (junk := z.2.2) (e := 121) (f := (0, 0)) hw' (by rw [flatT_append]; repeat constructor)
   rw [List.length_append] at this
   exact this)
set_option maxRecDepth 100000 in
theorem tb1 : shownL (twoT []) (er3 [0, 1]) 0 1000 = [5, 6] := by kernel_rfl
theorem two_shown (sl pl ll tl lv : Value) (w : World) (hr : RdTr w (twoT []) sl pl ll tl) (hl : RdI w lv [0, 1]) :
    CnX Tryz.prog 17 #[trV (twoT []) sl pl ll tl, lv, vi 0, vi 1000] w [] (fun y : Option Addr × Nat => .tuple #[slV 2 y, vi 0]) (fun y w' => RdI w' (slV 2 y) [5, 6]) := by
  have h := shown_ok (twoT []) (twoT_nt [] (by decide)) [0, 1] (by decide) 0 1000 (by rw [ta1]) sl pl ll tl lv w hr hl
  rw [tb1] at h
  exact h
theorem two_err (sl pl ll tl : Value) (w : World) (hr : RdTr w (twoT []) sl pl ll tl) :
    CnX Tryz.prog 35 #[trV (twoT []) sl pl ll tl] w [] (fun y : Option Addr × Nat => .tuple #[slV 2 y, vi 0]) (fun y w' => RdLL w' (slV 2 y) [[-2, -1, 0, 1, 2], [1]]) := by
  have h := errors_ok (twoT []) (twoT_nt [] (by decide)) ta2 sl pl ll tl w hr
  rw [show possLL (twoT []) (twoT []).parts.length = [[-2, -1, 0, 1, 2], [1]] from ta3] at h
  exact h
theorem two_cert (sl pl ll tl : Value) (w : World) (hr : RdTr w (twoT []) sl pl ll tl) :
    CnX Tryz.prog 47 #[trV (twoT []) sl pl ll tl] w [] (fun y : Option Addr × Nat => .tuple #[slV 2 y, vi 0]) (fun y w' => RdR w' (slV 2 y) [(0, 2), (1, 0)]) := by
  have h := certificate_ok (twoT []) (twoT_nt [] (by decide)) ta2 sl pl ll tl w hr
  rw [show certL (twoT []) (twoT []).parts.length = [(0, 2), (1, 0)] from ta5] at h
  exact h
theorem two_few (sl pl ll tl lv : Value) (w : World) (hr : RdTr w (twoT []) sl pl ll tl) (hl : RdR w lv [(0, 1000), (0, 1100)]) :
    CnX Tryz.prog 31 #[trV (twoT []) sl pl ll tl, vi 1, lv] w [] (fun y : Value => .tuple #[y, vi 0]) (fun y w' => RdI w' y [1]) := by
  have h := fewest_c (twoT []) (twoT_nt [] (by decide)) 1 (by decide) [(0, 1000), (0, 1100)] (by decide) sl pl ll tl lv w hr hl
  rw [ta7] at h
  exact h
theorem two_leave (sl pl ll tl : Value) (w : World) (hr : RdTr w (twoT [(0, 0, 8)]) sl pl ll tl) :
    CnX Tryz.prog 37 #[trV (twoT [(0, 0, 8)]) sl pl ll tl] w [] (fun y : Value => .tuple #[y, vi 0]) (fun y w' => RdI w' y [2]) := by
  have h := leaveT_ok (twoT [(0, 0, 8)]) (chkT_0.1 ta9) sl pl ll tl w hr
  rw [ta8] at h
  exact h
set_option maxRecDepth 100000 in
set_option maxHeartbeats 4000000 in
theorem awake9_c (w : World) : CnV Tryz.prog 16 #[] w (.bool true) := by
  refine cnv (vs := []) Tryz.func16 rfl rfl ?_
  all_goals refine tc_seq fun K1 hK1 => ?_; refine tc_region ?_; refine tl_q (y_assign rfl) rfl ?_; refine tl_nil ?_; ((refine hK1 ?_; try (clear hK1; clear K1)))
  all_goals refine tc_seq fun K2 hK2 => ?_; refine tc_lay ([]) SB.s (fun wl1 hl1 => ?_); refine tc_region ?_; refine tl_e (e_callX rfl (.cons rfl .nil) (fun w' _ => two9_c [] (by decide) _ w' (RdT.nil w'))) rfl (fun x1 hx1 => ?_); ((refine tl_e (e_bslice rfl (by (repeat (first | exact .nil | apply PV.one rfl rfl)); done) rfl rfl) rfl (fun b17 _ => ?_)))
  all_goals refine tl_e (e_callX rfl (.cons rfl (.cons rfl (.cons rfl (.cons rfl .nil)))) (fun w' hw' => two_shown _ _ _ _ _ w' (hx1.1.fr (hw'.fr MI.m)) (RdI.own0 (xs := [0, 1]) hw' (by repeat constructor)))) rfl (fun y1 hy1 => ?_); refine tl_q (y_move rfl) rfl ?_; refine tl_q (y_extract rfl rfl) rfl ?_; refine tl_q (y_extract rfl rfl) rfl ?_; refine tl_q (y_assign rfl) rfl ?_; refine tl_q (y_assign rfl) rfl ?_; refine tl_nil ?_; ((refine hK2 ?_; try (clear hK2; clear K2)))
  all_goals refine tc_seq fun K3 hK3 => ?_; refine tc_lay ([]) SB.s (fun wl2 hl2 => ?_)
  have r1 := hy1.1.fr (hl2.calm hy1.2 MI.m SB.s)
  all_goals refine tc_region ?_; refine tl_e (e_callX rfl (.cons rfl .nil) (fun w' _ => two9_c [] (by decide) _ w' (RdT.nil w'))) rfl (fun x2 hx2 => ?_); refine tl_e (e_callX rfl (.cons rfl .nil) (fun w' hw' => two_err _ _ _ _ w' (hx2.1.fr (hw'.fr MI.m)))) rfl (fun y2 hy2 => ?_); refine tl_q (y_move rfl) rfl ?_; refine tl_q (y_extract rfl rfl) rfl ?_; refine tl_q (y_extract rfl rfl) rfl ?_; refine tl_q (y_assign rfl) rfl ?_; refine tl_q (y_assign rfl) rfl ?_; refine tl_nil ?_; ((refine hK3 ?_; try (clear hK3; clear K3)))
  all_goals refine tc_seq fun K4 hK4 => ?_; refine tc_lay ([]) SB.s (fun wl3 hl3 => ?_); refine tc_region ?_; refine tl_e (e_callX rfl (.cons rfl .nil) (fun w' _ => two9_c [] (by decide) _ w' (RdT.nil w'))) rfl (fun x3 hx3 => ?_); (refine tl_e (e_callV rfl (.cons rfl (.cons rfl .nil)) (fun w' hw' => by have h := judge_c (twoT []) (twoT_nt [] (by decide)) 1 (by decide) _ _ _ _ w' (hx3.1.fr (hw'.fr MI.m)); rw [ta4] at h; exact h)) rfl (fun _ _ => ?_))
  all_goals refine tl_q (y_move rfl) rfl ?_; refine tl_q (y_extract rfl rfl) rfl ?_; refine tl_q (y_extract rfl rfl) rfl ?_; refine tl_q (y_assign rfl) rfl ?_; refine tl_q (y_assign rfl) rfl ?_; refine tl_nil ?_; ((refine hK4 ?_; try (clear hK4; clear K4)))
  all_goals refine tc_seq fun K5 hK5 => ?_; refine tc_lay ([]) SB.s (fun wl4 hl4 => ?_); refine tc_region ?_; refine tl_e (e_callX rfl (.cons rfl .nil) (fun w' _ => two9_c [] (by decide) _ w' (RdT.nil w'))) rfl (fun x4 hx4 => ?_); refine tl_e (e_callX rfl (.cons rfl .nil) (fun w' hw' => two_cert _ _ _ _ w' (hx4.1.fr (hw'.fr MI.m)))) rfl (fun y4 hy4 => ?_); refine tl_q (y_move rfl) rfl ?_; refine tl_q (y_extract rfl rfl) rfl ?_; refine tl_q (y_extract rfl rfl) rfl ?_; refine tl_q (y_assign rfl) rfl ?_; refine tl_q (y_assign rfl) rfl ?_; refine tl_nil ?_; ((refine hK5 ?_; try (clear hK5; clear K5)))
  all_goals refine tc_seq fun K6 hK6 => ?_; refine tc_lay ([]) SB.s (fun wl5 hl5 => ?_); refine tc_region ?_; refine tl_e (e_callX rfl (.cons rfl .nil) (fun w' _ => two9_c [] (by decide) _ w' (RdT.nil w'))) rfl (fun x5 hx5 => ?_); (refine tl_e (e_callV rfl (.cons rfl (.cons rfl (.cons rfl .nil))) (fun w' hw' => by have h := correct_c (twoT []) (twoT_nt [] (by decide)) 0 7 _ _ _ _ w' (hx5.1.fr (hw'.fr MI.m)); rw [ta6] at h; exact h)) rfl (fun _ _ => ?_))
  all_goals refine tl_q (y_move rfl) rfl ?_; refine tl_q (y_extract rfl rfl) rfl ?_; refine tl_q (y_extract rfl rfl) rfl ?_; refine tl_e (e_allocN rfl) rfl (fun b9 _ => ?_); refine tl_e (e_storeW rfl rfl (by repeat constructor) (by rfl) (by rfl) (by simp [Value.oneCell'])) rfl (fun _ _ => ?_); refine tl_q (y_assign rfl) rfl ?_; refine tl_nil ?_; ((refine hK6 ?_; try (clear hK6; clear K6)))
  all_goals refine tc_seq fun K7 hK7 => ?_; refine tc_lay ([]) SB.s (fun wl6 hl6 => ?_); refine tc_region ?_; refine tl_e (e_callX rfl (.cons rfl .nil) (fun w' _ => two9_c [] (by decide) _ w' (RdT.nil w'))) rfl (fun x6 hx6 => ?_); refine tl_e (e_callX rfl .nil (fun w' _ => offered_c w')) rfl (fun o6 ho6 => ?_); refine tl_e (e_callX rfl (.cons rfl (.cons rfl (.cons rfl .nil))) (fun w' hw' => two_few _ _ _ _ _ w' (hx6.1.fr (hw'.fr MI.m)) (ho6.1.fr (hw'.fr MI.m)))) rfl (fun y6 hy6 => ?_); refine tl_q (y_move rfl) rfl ?_; refine tl_q (y_extract rfl rfl) rfl ?_; refine tl_q (y_extract rfl rfl) rfl ?_; refine tl_q (y_assign rfl) rfl ?_; refine tl_q (y_assign rfl) rfl ?_; refine tl_nil ?_; ((refine hK7 ?_; try (clear hK7; clear K7)))
  all_goals refine tc_seq fun K8 hK8 => ?_; refine tc_lay ([]) SB.s (fun wl7 hl7 => ?_); refine tc_region ?_; refine tl_q (y_build_g (by repeat constructor)) rfl ?_; refine tl_e (e_bsliceG rfl (.agg rfl rfl .nil) rfl rfl) rfl (fun b49 _ => ?_); refine tl_e (e_callX rfl (.cons rfl .nil) (fun w' hw' => two9_c [(0, 0, 8)] (by decide) _ w' (RdT.own0 (xs := [(0, 0, 8)]) hw' (by repeat constructor)))) rfl (fun x7 hx7 => ?_); refine tl_e (e_callX rfl (.cons rfl .nil) (fun w' hw' => two_leave _ _ _ _ w' (hx7.1.fr (hw'.calm hx7.2 MI.m SB.s)))) rfl (fun y7 hy7 => ?_); refine tl_q (y_move rfl) rfl ?_; refine tl_q (y_extract rfl rfl) rfl ?_; refine tl_q (y_extract rfl rfl) rfl ?_; refine tl_q (y_assign rfl) rfl ?_; refine tl_q (y_assign rfl) rfl ?_; refine tl_nil ?_; ((refine hK8 ?_; try (clear hK8; clear K8)))
  all_goals refine tc_seq fun K9 hK9 => ?_; refine tc_lay ([]) SB.s (fun wl8 hl8 => ?_)
  have r7 := hy7.1.fr (hl8.calm hy7.2 MI.m SB.s)
  obtain ⟨bE, oE, vsE, hadE, hcE, hiE⟩ := hy2.1.opensL (n := 2) rfl
  have hadE' := hadE (by decide)
  obtain ⟨adC, cpC, bC, oC, eC, hadC, hcC⟩ := hy4.1.open
  have hadC' := hadC (by decide)
  all_goals refine tc_drawS ([]) (by kernel_rfl) ?_; refine tx_p 0 rfl (by kernel_rfl) (y_move rfl) rfl (fun _ _ _ h => h) (fun _ h => h.subl SB.s SB.s) ?_; refine tx_p 1 rfl (by kernel_rfl) (y_eql rfl rfl) rfl (fun _ _ _ h => h) (fun _ h => h.subl SB.s SB.s) ?_; refine tx_p 2 rfl (by kernel_rfl) (y_move rfl) rfl (fun _ _ _ h => h) (fun _ h => h.subl SB.s SB.s) ?_; refine tx_pg 3 rfl (by kernel_rfl) rfl rfl (y_move rfl) rfl (fun _ _ _ h => h) (fun _ h => h.subl SB.s SB.s) ?_; ((refine tx_single 4 (by kernel_rfl) (to_eg rfl rfl rfl rfl (e_bslice rfl (by (repeat (first | exact .nil | apply PV.one rfl rfl)); done) rfl rfl) (.inr ⟨fun _ _ h => h.subl SB.s SB.s, fun _ h => h⟩) (fun _ _ => ?_))))
  all_goals (refine tx_single 5 (by kernel_rfl) (to_eg rfl rfl rfl rfl (e_callV rfl (.cons rfl (.cons rfl .nil)) (fun w' hw' => ints9_t [5, 6] (by decide) _ _ w' (r1.fr (hw'.fr (w0 := wl2) (S := []) MI.m)) (RdI.own0 (xs := [5, 6]) hw' (by repeat constructor)))) (.inr ⟨fun _ _ h => h.subl SB.s SB.s, fun _ h => h⟩) (fun _ _ => ?_))); refine tx_norm (L' := [true, true, true, true, true, true, false, false, false, false, false, false, false, false, false, false, false, false, false, false, false, false, false, false, false, false, false, false, false, false, false, false, false, false, false, false, false, false, false, false, false, false, false, false, false, false, false, false, false, false, false, false, false, false, false, false, false, false, false, false, false, false, false, false, false, false, false, false, false, false, false, false, false, false, false, false, false, false, false, false, false, false, false, false, false, false, false, false, false]) (by kernel_rfl) ?_; refine tx_p 6 rfl (by kernel_rfl) (y_pick_t rfl rfl) rfl (fun _ _ _ h => h) (fun _ h => h.subl SB.s SB.s) ?_; refine tx_p 7 rfl (by kernel_rfl) (y_move rfl) rfl (fun _ _ _ h => h) (fun _ h => h.subl SB.s SB.s) ?_; refine tx_pg 8 rfl (by kernel_rfl) rfl rfl (y_move rfl) rfl (fun _ _ _ h => h) (fun _ h => h.subl SB.s SB.s) ?_; refine tx_pg 9 rfl (by kernel_rfl) rfl rfl (y_eql rfl rfl) rfl (fun _ _ _ h => h) (fun _ h => h.subl SB.s SB.s) ?_; refine tx_p 10 rfl (by kernel_rfl) (y_pick_t rfl rfl) rfl (fun _ _ _ h => h) (fun _ h => h.subl SB.s SB.s) ?_; refine tx_p 11 rfl (by kernel_rfl) (y_move rfl) rfl (fun _ _ _ h => h) (fun _ h => h.subl SB.s SB.s) ?_; refine tx_norm (L' := [true, true, true, true, true, true, true, true, true, true, true, true, false, false, false, false, false, false, false, false, false, false, false, false, false, false, false, false, false, false, false, false, false, false, false, false, false, false, false, false, false, false, false, false, false, false, false, false, false, false, false, false, false, false, false, false, false, false, false, false, false, false, false, false, false, false, false, false, false, false, false, false, false, false, false, false, false, false, false, false, false, false, false, false, false, false, false, false, false]) (by kernel_rfl) ?_; refine tx_pg 12 rfl (by kernel_rfl) rfl rfl (y_move rfl) rfl (fun _ _ _ h => h) (fun _ h => h.subl SB.s SB.s) ?_; refine tx_qg 13 rfl (by kernel_rfl) rfl rfl (y_len rfl) rfl (fun _ _ _ h => h) (fun _ h => h.subl SB.s SB.s) ?_; refine tx_pg 14 rfl (by kernel_rfl) rfl rfl (y_eql rfl rfl) rfl (fun _ _ _ h => h) (fun _ h => h.subl SB.s SB.s) ?_; refine tx_p 15 rfl (by kernel_rfl) (y_pick_t rfl rfl) rfl (fun _ _ _ h => h) (fun _ h => h.subl SB.s SB.s) ?_; refine tx_p 16 rfl (by kernel_rfl) (y_move rfl) rfl (fun _ _ _ h => h) (fun _ h => h.subl SB.s SB.s) ?_; refine tx_pg 17 rfl (by kernel_rfl) rfl rfl (y_move rfl) rfl (fun _ _ _ h => h) (fun _ h => h.subl SB.s SB.s) ?_; refine tx_norm (L' := [true, true, true, true, true, true, true, true, true, true, true, true, true, true, true, true, true, true, false, false, false, false, false, false, false, false, false, false, false, false, false, false, false, false, false, false, false, false, false, false, false, false, false, false, false, false, false, false, false, false, false, false, false, false, false, false, false, false, false, false, false, false, false, false, false, false, false, false, false, false, false, false, false, false, false, false, false, false, false, false, false, false, false, false, false, false, false, false, false]) (by kernel_rfl) ?_; refine tx_pg 18 rfl (by kernel_rfl) rfl rfl (y_index rfl rfl (by omega) hadE') rfl (fun _ _ _ h => h) (fun _ h => h.subl SB.s SB.s) ?_; refine tx_qg 19 rfl (by kernel_rfl) rfl rfl (y_load1o (v := vsE.getD 0 (.slice none 0 0)) rfl (fun w' hw' => hcE w' (hw'.fr (w0 := y2.2) (S := []) MI.m) 0 (by decide))) rfl (fun _ _ _ h => h) (fun _ h => h.subl SB.s SB.s) ?_; ((refine tx_single 20 (by kernel_rfl) (to_eg rfl rfl rfl rfl (e_bslice rfl (by (repeat (first | exact .nil | apply PV.one rfl rfl)); done) rfl rfl) (.inr ⟨fun _ _ h => h.subl SB.s SB.s, fun _ h => h⟩) (fun _ _ => ?_))))
  all_goals (refine tx_single 21 (by kernel_rfl) (to_eg rfl rfl rfl rfl (e_callV rfl (.cons rfl (.cons rfl .nil)) (fun w' hw' => ints9_t [-2, -1, 0, 1, 2] (by decide) _ _ w' (hiE w' (hw'.fr (w0 := y2.2) (S := []) MI.m) 0 (by decide)) (RdI.own0 (xs := [-2, -1, 0, 1, 2]) hw' (by repeat constructor)))) (.inr ⟨fun _ _ h => h.subl SB.s SB.s, fun _ h => h⟩) (fun _ _ => ?_))); refine tx_p 22 rfl (by kernel_rfl) (y_pick_t rfl rfl) rfl (fun _ _ _ h => h) (fun _ h => h.subl SB.s SB.s) ?_; refine tx_p 23 rfl (by kernel_rfl) (y_move rfl) rfl (fun _ _ _ h => h) (fun _ h => h.subl SB.s SB.s) ?_; refine tx_norm (L' := [true, true, true, true, true, true, true, true, true, true, true, true, true, true, true, true, true, true, true, true, true, true, true, true, false, false, false, false, false, false, false, false, false, false, false, false, false, false, false, false, false, false, false, false, false, false, false, false, false, false, false, false, false, false, false, false, false, false, false, false, false, false, false, false, false, false, false, false, false, false, false, false, false, false, false, false, false, false, false, false, false, false, false, false, false, false, false, false, false]) (by kernel_rfl) ?_; refine tx_pg 24 rfl (by kernel_rfl) rfl rfl (y_move rfl) rfl (fun _ _ _ h => h) (fun _ h => h.subl SB.s SB.s) ?_; refine tx_pg 25 rfl (by kernel_rfl) rfl rfl (y_index rfl rfl (by omega) hadE') rfl (fun _ _ _ h => h) (fun _ h => h.subl SB.s SB.s) ?_; refine tx_qg 26 rfl (by kernel_rfl) rfl rfl (y_load1o (v := vsE.getD 1 (.slice none 0 0)) rfl (fun w' hw' => hcE w' (hw'.fr (w0 := y2.2) (S := []) MI.m) 1 (by decide))) rfl (fun _ _ _ h => h) (fun _ h => h.subl SB.s SB.s) ?_; ((refine tx_single 27 (by kernel_rfl) (to_eg rfl rfl rfl rfl (e_bslice rfl (by (repeat (first | exact .nil | apply PV.one rfl rfl)); done) rfl rfl) (.inr ⟨fun _ _ h => h.subl SB.s SB.s, fun _ h => h⟩) (fun _ _ => ?_))))
  all_goals (refine tx_single 28 (by kernel_rfl) (to_eg rfl rfl rfl rfl (e_callV rfl (.cons rfl (.cons rfl .nil)) (fun w' hw' => ints9_t [1] (by decide) _ _ w' (hiE w' (hw'.fr (w0 := y2.2) (S := []) MI.m) 1 (by decide)) (RdI.own0 (xs := [1]) hw' (by repeat constructor)))) (.inr ⟨fun _ _ h => h.subl SB.s SB.s, fun _ h => h⟩) (fun _ _ => ?_))); refine tx_p 29 rfl (by kernel_rfl) (y_pick_t rfl rfl) rfl (fun _ _ _ h => h) (fun _ h => h.subl SB.s SB.s) ?_; refine tx_norm (L' := [true, true, true, true, true, true, true, true, true, true, true, true, true, true, true, true, true, true, true, true, true, true, true, true, true, true, true, true, true, true, false, false, false, false, false, false, false, false, false, false, false, false, false, false, false, false, false, false, false, false, false, false, false, false, false, false, false, false, false, false, false, false, false, false, false, false, false, false, false, false, false, false, false, false, false, false, false, false, false, false, false, false, false, false, false, false, false, false, false]) (by kernel_rfl) ?_; refine tx_p 30 rfl (by kernel_rfl) (y_move rfl) rfl (fun _ _ _ h => h) (fun _ h => h.subl SB.s SB.s) ?_; refine tx_pg 31 rfl (by kernel_rfl) rfl rfl (y_move rfl) rfl (fun _ _ _ h => h) (fun _ h => h.subl SB.s SB.s) ?_; refine tx_pg 32 rfl (by kernel_rfl) rfl rfl (y_eql rfl rfl) rfl (fun _ _ _ h => h) (fun _ h => h.subl SB.s SB.s) ?_; refine tx_p 33 rfl (by kernel_rfl) (y_pick_t rfl rfl) rfl (fun _ _ _ h => h) (fun _ h => h.subl SB.s SB.s) ?_; refine tx_p 34 rfl (by kernel_rfl) (y_move rfl) rfl (fun _ _ _ h => h) (fun _ h => h.subl SB.s SB.s) ?_; refine tx_pg 35 rfl (by kernel_rfl) rfl rfl (y_move rfl) rfl (fun _ _ _ h => h) (fun _ h => h.subl SB.s SB.s) ?_; refine tx_norm (L' := [true, true, true, true, true, true, true, true, true, true, true, true, true, true, true, true, true, true, true, true, true, true, true, true, true, true, true, true, true, true, true, true, true, true, true, true, false, false, false, false, false, false, false, false, false, false, false, false, false, false, false, false, false, false, false, false, false, false, false, false, false, false, false, false, false, false, false, false, false, false, false, false, false, false, false, false, false, false, false, false, false, false, false, false, false, false, false, false, false]) (by kernel_rfl) ?_; refine tx_pg 36 rfl (by kernel_rfl) rfl rfl (y_eql rfl rfl) rfl (fun _ _ _ h => h) (fun _ h => h.subl SB.s SB.s) ?_; refine tx_p 37 rfl (by kernel_rfl) (y_pick_t rfl rfl) rfl (fun _ _ _ h => h) (fun _ h => h.subl SB.s SB.s) ?_; refine tx_p 38 rfl (by kernel_rfl) (y_move rfl) rfl (fun _ _ _ h => h) (fun _ h => h.subl SB.s SB.s) ?_; refine tx_pg 39 rfl (by kernel_rfl) rfl rfl (y_move rfl) rfl (fun _ _ _ h => h) (fun _ h => h.subl SB.s SB.s) ?_; refine tx_pg 40 rfl (by kernel_rfl) rfl rfl (y_eql rfl rfl) rfl (fun _ _ _ h => h) (fun _ h => h.subl SB.s SB.s) ?_; refine tx_p 41 rfl (by kernel_rfl) (y_pick_t rfl rfl) rfl (fun _ _ _ h => h) (fun _ h => h.subl SB.s SB.s) ?_; refine tx_norm (L' := [true, true, true, true, true, true, true, true, true, true, true, true, true, true, true, true, true, true, true, true, true, true, true, true, true, true, true, true, true, true, true, true, true, true, true, true, true, true, true, true, true, true, false, false, false, false, false, false, false, false, false, false, false, false, false, false, false, false, false, false, false, false, false, false, false, false, false, false, false, false, false, false, false, false, false, false, false, false, false, false, false, false, false, false, false, false, false, false, false]) (by kernel_rfl) ?_; refine tx_p 42 rfl (by kernel_rfl) (y_move rfl) rfl (fun _ _ _ h => h) (fun _ h => h.subl SB.s SB.s) ?_; refine tx_pg 43 rfl (by kernel_rfl) rfl rfl (y_move rfl) rfl (fun _ _ _ h => h) (fun _ h => h.subl SB.s SB.s) ?_; refine tx_qg 44 rfl (by kernel_rfl) rfl rfl (y_len rfl) rfl (fun _ _ _ h => h) (fun _ h => h.subl SB.s SB.s) ?_; refine tx_pg 45 rfl (by kernel_rfl) rfl rfl (y_eql rfl rfl) rfl (fun _ _ _ h => h) (fun _ h => h.subl SB.s SB.s) ?_; refine tx_p 46 rfl (by kernel_rfl) (y_pick_t rfl rfl) rfl (fun _ _ _ h => h) (fun _ h => h.subl SB.s SB.s) ?_; refine tx_p 47 rfl (by kernel_rfl) (y_move rfl) rfl (fun _ _ _ h => h) (fun _ h => h.subl SB.s SB.s) ?_; refine tx_norm (L' := [true, true, true, true, true, true, true, true, true, true, true, true, true, true, true, true, true, true, true, true, true, true, true, true, true, true, true, true, true, true, true, true, true, true, true, true, true, true, true, true, true, true, true, true, true, true, true, true, false, false, false, false, false, false, false, false, false, false, false, false, false, false, false, false, false, false, false, false, false, false, false, false, false, false, false, false, false, false, false, false, false, false, false, false, false, false, false, false, false]) (by kernel_rfl) ?_; refine tx_pg 48 rfl (by kernel_rfl) rfl rfl (y_move rfl) rfl (fun _ _ _ h => h) (fun _ h => h.subl SB.s SB.s) ?_; ((refine tx_pg 49 rfl (by kernel_rfl) rfl rfl (y_index rfl rfl (by omega) (by injection eC with e1; exact e1.trans hadC')) rfl (fun _ _ _ h => h) (fun _ h => h.subl SB.s SB.s) ?_))
  all_goals (refine tx_qg 50 rfl (by kernel_rfl) rfl rfl (y_loadNo (n := 2) (vs := [vi 0, vi 2]) rfl (fun w' hw' => hcC w' [] (hw'.fr (w0 := y4.2) (S := []) MI.m) (by simp) 0 (by decide))) rfl (fun _ _ _ h => h) (fun _ h => h.subl SB.s SB.s) ?_); refine tx_pg 51 rfl (by kernel_rfl) rfl rfl (y_build_g (by repeat constructor)) rfl (fun _ _ _ h => h) (fun _ h => h.subl SB.s SB.s) ?_; refine tx_pg 52 rfl (by kernel_rfl) rfl rfl (y_eql2 rfl rfl) rfl (fun _ _ _ h => h) (fun _ h => h.subl SB.s SB.s) ?_; refine tx_p 53 rfl (by kernel_rfl) (y_pick_t rfl rfl) rfl (fun _ _ _ h => h) (fun _ h => h.subl SB.s SB.s) ?_; refine tx_norm (L' := [true, true, true, true, true, true, true, true, true, true, true, true, true, true, true, true, true, true, true, true, true, true, true, true, true, true, true, true, true, true, true, true, true, true, true, true, true, true, true, true, true, true, true, true, true, true, true, true, true, true, true, true, true, true, false, false, false, false, false, false, false, false, false, false, false, false, false, false, false, false, false, false, false, false, false, false, false, false, false, false, false, false, false, false, false, false, false, false, false]) (by kernel_rfl) ?_; refine tx_p 54 rfl (by kernel_rfl) (y_move rfl) rfl (fun _ _ _ h => h) (fun _ h => h.subl SB.s SB.s) ?_; refine tx_pg 55 rfl (by kernel_rfl) rfl rfl (y_move rfl) rfl (fun _ _ _ h => h) (fun _ h => h.subl SB.s SB.s) ?_; ((refine tx_pg 56 rfl (by kernel_rfl) rfl rfl (y_index rfl rfl (by omega) (by injection eC with e1; exact e1.trans hadC')) rfl (fun _ _ _ h => h) (fun _ h => h.subl SB.s SB.s) ?_))
  all_goals (refine tx_qg 57 rfl (by kernel_rfl) rfl rfl (y_loadNo (n := 2) (vs := [vi 1, vi 0]) rfl (fun w' hw' => hcC w' [] (hw'.fr (w0 := y4.2) (S := []) MI.m) (by simp) 1 (by decide))) rfl (fun _ _ _ h => h) (fun _ h => h.subl SB.s SB.s) ?_); refine tx_pg 58 rfl (by kernel_rfl) rfl rfl (y_build_g (by repeat constructor)) rfl (fun _ _ _ h => h) (fun _ h => h.subl SB.s SB.s) ?_; refine tx_pg 59 rfl (by kernel_rfl) rfl rfl (y_eql2 rfl rfl) rfl (fun _ _ _ h => h) (fun _ h => h.subl SB.s SB.s) ?_; refine tx_norm (L' := [true, true, true, true, true, true, true, true, true, true, true, true, true, true, true, true, true, true, true, true, true, true, true, true, true, true, true, true, true, true, true, true, true, true, true, true, true, true, true, true, true, true, true, true, true, true, true, true, true, true, true, true, true, true, true, true, true, true, true, true, false, false, false, false, false, false, false, false, false, false, false, false, false, false, false, false, false, false, false, false, false, false, false, false, false, false, false, false, false]) (by kernel_rfl) ?_; refine tx_p 60 rfl (by kernel_rfl) (y_pick_t rfl rfl) rfl (fun _ _ _ h => h) (fun _ h => h.subl SB.s SB.s) ?_; refine tx_p 61 rfl (by kernel_rfl) (y_move rfl) rfl (fun _ _ _ h => h) (fun _ h => h.subl SB.s SB.s) ?_; refine tx_pg 62 rfl (by kernel_rfl) rfl rfl (y_move rfl) rfl (fun _ _ _ h => h) (fun _ h => h.subl SB.s SB.s) ?_; refine tx_pg 63 rfl (by kernel_rfl) rfl rfl (y_eql rfl rfl) rfl (fun _ _ _ h => h) (fun _ h => h.subl SB.s SB.s) ?_; refine tx_p 64 rfl (by kernel_rfl) (y_pick_t rfl rfl) rfl (fun _ _ _ h => h) (fun _ h => h.subl SB.s SB.s) ?_; refine tx_p 65 rfl (by kernel_rfl) (y_move rfl) rfl (fun _ _ _ h => h) (fun _ h => h.subl SB.s SB.s) ?_; refine tx_norm (L' := [true, true, true, true, true, true, true, true, true, true, true, true, true, true, true, true, true, true, true, true, true, true, true, true, true, true, true, true, true, true, true, true, true, true, true, true, true, true, true, true, true, true, true, true, true, true, true, true, true, true, true, true, true, true, true, true, true, true, true, true, true, true, true, true, true, true, false, false, false, false, false, false, false, false, false, false, false, false, false, false, false, false, false, false, false, false, false, false, false]) (by kernel_rfl) ?_; refine tx_qg 66 rfl (by kernel_rfl) rfl rfl (y_loadWf rfl (hl6.at (by repeat constructor)) MI.m (by simp) (by rfl)) rfl (fun _ _ _ h => h) (fun _ h => h.subl SB.s SB.s) ?_; refine tx_single 67 (by kernel_rfl) (to_eg rfl rfl rfl rfl (e_callV rfl (.cons rfl (.cons rfl .nil)) (fun w' _ => between9_c _ _ w')) (.inr ⟨fun _ _ h => h.subl SB.s SB.s, fun _ h => h⟩) (fun _ _ => ?_)); refine tx_pg 68 rfl (by kernel_rfl) rfl rfl (y_eql2 rfl rfl) rfl (fun _ _ _ h => h) (fun _ h => h.subl SB.s SB.s) ?_; refine tx_p 69 rfl (by kernel_rfl) (y_pick_t rfl rfl) rfl (fun _ _ _ h => h) (fun _ h => h.subl SB.s SB.s) ?_; refine tx_p 70 rfl (by kernel_rfl) (y_move rfl) rfl (fun _ _ _ h => h) (fun _ h => h.subl SB.s SB.s) ?_; refine tx_pg 71 rfl (by kernel_rfl) rfl rfl (y_move rfl) rfl (fun _ _ _ h => h) (fun _ h => h.subl SB.s SB.s) ?_; refine tx_norm (L' := [true, true, true, true, true, true, true, true, true, true, true, true, true, true, true, true, true, true, true, true, true, true, true, true, true, true, true, true, true, true, true, true, true, true, true, true, true, true, true, true, true, true, true, true, true, true, true, true, true, true, true, true, true, true, true, true, true, true, true, true, true, true, true, true, true, true, true, true, true, true, true, true, false, false, false, false, false, false, false, false, false, false, false, false, false, false, false, false, false]) (by kernel_rfl) ?_; refine tx_pg 72 rfl (by kernel_rfl) rfl rfl (y_eql rfl rfl) rfl (fun _ _ _ h => h) (fun _ h => h.subl SB.s SB.s) ?_; refine tx_p 73 rfl (by kernel_rfl) (y_pick_t rfl rfl) rfl (fun _ _ _ h => h) (fun _ h => h.subl SB.s SB.s) ?_; refine tx_p 74 rfl (by kernel_rfl) (y_move rfl) rfl (fun _ _ _ h => h) (fun _ h => h.subl SB.s SB.s) ?_; refine tx_pg 75 rfl (by kernel_rfl) rfl rfl (y_move rfl) rfl (fun _ _ _ h => h) (fun _ h => h.subl SB.s SB.s) ?_; ((refine tx_single 76 (by kernel_rfl) (to_eg rfl rfl rfl rfl (e_bslice rfl (by (repeat (first | exact .nil | apply PV.one rfl rfl)); done) rfl rfl) (.inr ⟨fun _ _ h => h.subl SB.s SB.s, fun _ h => h⟩) (fun _ _ => ?_))))
  all_goals (refine tx_single 77 (by kernel_rfl) (to_eg rfl rfl rfl rfl (e_callV rfl (.cons rfl (.cons rfl .nil)) (fun w' hw' => ints9_t [1] (by decide) _ _ w' (hy6.1.fr (hw'.fr (w0 := y6.2) (S := []) MI.m)) (RdI.own0 (xs := [1]) hw' (by repeat constructor)))) (.inr ⟨fun _ _ h => h.subl SB.s SB.s, fun _ h => h⟩) (fun _ _ => ?_))); refine tx_norm (L' := [true, true, true, true, true, true, true, true, true, true, true, true, true, true, true, true, true, true, true, true, true, true, true, true, true, true, true, true, true, true, true, true, true, true, true, true, true, true, true, true, true, true, true, true, true, true, true, true, true, true, true, true, true, true, true, true, true, true, true, true, true, true, true, true, true, true, true, true, true, true, true, true, true, true, true, true, true, true, false, false, false, false, false, false, false, false, false, false, false]) (by kernel_rfl) ?_; refine tx_p 78 rfl (by kernel_rfl) (y_pick_t rfl rfl) rfl (fun _ _ _ h => h) (fun _ h => h.subl SB.s SB.s) ?_; refine tx_p 79 rfl (by kernel_rfl) (y_move rfl) rfl (fun _ _ _ h => h) (fun _ h => h.subl SB.s SB.s) ?_; refine tx_pg 80 rfl (by kernel_rfl) rfl rfl (y_move rfl) rfl (fun _ _ _ h => h) (fun _ h => h.subl SB.s SB.s) ?_; refine tx_pg 81 rfl (by kernel_rfl) rfl rfl (y_eql rfl rfl) rfl (fun _ _ _ h => h) (fun _ h => h.subl SB.s SB.s) ?_; refine tx_p 82 rfl (by kernel_rfl) (y_pick_t rfl rfl) rfl (fun _ _ _ h => h) (fun _ h => h.subl SB.s SB.s) ?_; refine tx_p 83 rfl (by kernel_rfl) (y_move rfl) rfl (fun _ _ _ h => h) (fun _ h => h.subl SB.s SB.s) ?_; refine tx_norm (L' := [true, true, true, true, true, true, true, true, true, true, true, true, true, true, true, true, true, true, true, true, true, true, true, true, true, true, true, true, true, true, true, true, true, true, true, true, true, true, true, true, true, true, true, true, true, true, true, true, true, true, true, true, true, true, true, true, true, true, true, true, true, true, true, true, true, true, true, true, true, true, true, true, true, true, true, true, true, true, true, true, true, true, true, true, false, false, false, false, false]) (by kernel_rfl) ?_; refine tx_pg 84 rfl (by kernel_rfl) rfl rfl (y_move rfl) rfl (fun _ _ _ h => h) (fun _ h => h.subl SB.s SB.s) ?_; ((refine tx_single 85 (by kernel_rfl) (to_eg rfl rfl rfl rfl (e_bslice rfl (by (repeat (first | exact .nil | apply PV.one rfl rfl)); done) rfl rfl) (.inr ⟨fun _ _ h => h.subl SB.s SB.s, fun _ h => h⟩) (fun _ _ => ?_))))
  all_goals (refine tx_single 86 (by kernel_rfl) (to_eg rfl rfl rfl rfl (e_callV rfl (.cons rfl (.cons rfl .nil)) (fun w' hw' => ints9_t [2] (by decide) _ _ w' (r7.fr (hw'.fr (w0 := wl8) (S := []) MI.m)) (RdI.own0 (xs := [2]) hw' (by repeat constructor)))) (.inr ⟨fun _ _ h => h.subl SB.s SB.s, fun _ h => h⟩) (fun _ _ => ?_))); refine tx_p 87 rfl (by kernel_rfl) (y_pick_t rfl rfl) rfl (fun _ _ _ h => h) (fun _ h => h.subl SB.s SB.s) ?_; refine tx_p 88 rfl (by kernel_rfl) (y_assign rfl) rfl (fun _ _ _ h => h) (fun _ h => h.subl SB.s SB.s) ?_; refine tx_done (by kernel_rfl) ?_; ((refine hK9 ?_; try (clear hK9; clear K9)))
  all_goals refine tc_ret ?_; (repeat (first | refine tk_then_ret ?_))
  all_goals (refine tk_ret rfl rfl (.cons (.tmp rfl) .nil) ?_)
  all_goals (
   exact fun w' hw' => ⟨rfl, hw'.fr (w0 := w) (S := []) MI.m⟩)
end Go.Sp
/-
  Helpers of the statements about trials.
-/
namespace Go.Sp
open Go Go.Proofs
def thin9P (t : Tr) : Prop := (t.s.weights.length : Int) ≤ 9 ∧ (t.parts.length : Int) ≤ 6 ∧ (t.liquids.length : Int) ≤ 5 ∧ (t.tests.length : Int) ≤ 9
instance (t : Tr) : Decidable (thin9P t) := by unfold thin9P; infer_instance
theorem thin9P.nt {t : Tr} (h : thin9P t) : NT t := by
  obtain ⟨h1, h2, h3, h4⟩ := h
  exact ⟨by omega, by omega, by omega, by omega⟩
theorem thin9_c (t : Tr) (sl pl ll tl : Value) (w : World) (hr : RdTr w t sl pl ll tl) : CnV Tryz.prog 15 #[trV t sl pl ll tl] w (.bool (decide (thin9P t))) := by
  have hr0 := hr
  obtain ⟨_, _, _, _, rfl, _, _⟩ := hr.ps.open
  obtain ⟨_, _, _, _, rfl, _, _⟩ := hr.ls.open
  obtain ⟨_, _, _, _, rfl, _, _⟩ := hr.ts.open
  refine cnv (vs := [_]) Tryz.func15 rfl rfl ?_
  all_goals refine tc_seq fun K1 hK1 => ?_; refine tc_region ?_; refine tl_e (e_box rfl rfl rfl) rfl (fun _ _ => ?_); refine tl_q (y_assign rfl) rfl ?_; refine tl_nil ?_; ((refine hK1 ?_; try (clear hK1; clear K1)))
  all_goals refine tc_seq fun K2 hK2 => ?_; refine tc_region ?_; refine tl_q (y_field rfl) rfl ?_; ((refine tl_q (y_loadN rfl (by repeat constructor) (by (repeat (first | exact .nil | apply CA.cons rfl)); done)) rfl ?_))
  all_goals refine tl_e (e_callV rfl (.cons rfl .nil) (fun w' hw' => thin_c t.s sl w' (hr0.ws.fr (hw'.fr (by simp))))) rfl (fun _ _ => ?_); refine tl_q (y_move rfl) rfl ?_; ((refine tl_gs rfl rfl (fun hc => ?_) (fun hc => ?_) <;> (try simp only [qn1, qn2, qn3, qn4, qn5, qn6, qn7, qn8] at hc) <;> (first | refine tl_sk rfl rfl rfl rfl ?_ | refine tl_qg rfl rfl (y_field rfl) rfl ?_)))
  all_goals (first | refine tl_sk rfl rfl rfl rfl ?_ | refine tl_qg rfl rfl (y_load1 rfl (by repeat constructor) (by rfl)) rfl ?_); (first | refine tl_sk rfl rfl rfl rfl ?_ | refine tl_qg rfl rfl (y_len rfl) rfl ?_); (first | refine tl_sk rfl rfl rfl rfl ?_ | refine tl_qg rfl rfl (y_leq rfl rfl) rfl ?_); (first | refine tl_q (y_pick_t rfl rfl) rfl ?_ | refine tl_q (y_pick_f rfl rfl) rfl ?_); refine tl_q (y_move rfl) rfl ?_; ((first | refine tl_sk rfl rfl rfl rfl ?_ | (refine tl_gs rfl rfl (fun hc => ?_) (fun hc => ?_) <;> (try simp only [qn1, qn2, qn3, qn4, qn5, qn6, qn7, qn8] at hc) <;> (first | refine tl_sk rfl rfl rfl rfl ?_ | refine tl_qg rfl rfl (y_field rfl) rfl ?_))))
  all_goals (first | refine tl_sk rfl rfl rfl rfl ?_ | refine tl_qg rfl rfl (y_load1 rfl (by repeat constructor) (by rfl)) rfl ?_); (first | refine tl_sk rfl rfl rfl rfl ?_ | refine tl_qg rfl rfl (y_len rfl) rfl ?_); (first | refine tl_sk rfl rfl rfl rfl ?_ | refine tl_qg rfl rfl (y_leq rfl rfl) rfl ?_); (first | refine tl_q (y_pick_t rfl rfl) rfl ?_ | refine tl_q (y_pick_f rfl rfl) rfl ?_); refine tl_q (y_move rfl) rfl ?_; ((first | refine tl_sk rfl rfl rfl rfl ?_ | (refine tl_gs rfl rfl (fun hc => ?_) (fun hc => ?_) <;> (try simp only [qn1, qn2, qn3, qn4, qn5, qn6, qn7, qn8] at hc) <;> (first | refine tl_sk rfl rfl rfl rfl ?_ | refine tl_qg rfl rfl (y_field rfl) rfl ?_))))
  all_goals (first | refine tl_sk rfl rfl rfl rfl ?_ | refine tl_qg rfl rfl (y_load1 rfl (by repeat constructor) (by rfl)) rfl ?_); (first | refine tl_sk rfl rfl rfl rfl ?_ | refine tl_qg rfl rfl (y_len rfl) rfl ?_); (first | refine tl_sk rfl rfl rfl rfl ?_ | refine tl_qg rfl rfl (y_leq rfl rfl) rfl ?_); (first | refine tl_q (y_pick_t rfl rfl) rfl ?_ | refine tl_q (y_pick_f rfl rfl) rfl ?_); refine tl_q (y_assign rfl) rfl ?_; refine tl_nil ?_; ((refine hK2 ?_; try (clear hK2; clear K2)))
  all_goals refine tc_ret ?_; (repeat (first | refine tk_then_ret ?_))
  all_goals (refine tk_ret rfl rfl (.cons (.tmp rfl) .nil) ?_)
  all_goals (
   refine fun w' hw' => ⟨congrArg (fun b => Ending.returned (Value.bool b)) ?_, hw'.fr (by simp)⟩
   unfold thin9P
   first
   | exact decide_eq_decide.2 (by omega)
   | exact (decide_eq_false (by omega)).symm)
end Go.Sp
/-
  Package trial: whether a truth is one of a trial.
-/
namespace Go.Sp
open Go Go.Proofs
/-- What is asked of a function value that tests a test of a trial, and keeps something at bm. -/
def TestsTM (P : Program) (g : FuncId) (first cap : Array Value) (bm : Nat) (J : Obj → Prop) (p : E3 → Bool) (xs : List E3) (w : World) : Prop :=
  ∀ (x : E3) (o : Obj) (w' : World), Fr [bm] w w' → w'.heap[bm]? = some o → J o → x ∈ xs → CnX P g (first ++ #[tsV x] ++ cap) w' [bm] (fun _ : Obj => .bool (p x)) (fun o' w2 => J o' ∧ w2.heap[bm]? = some o')
theorem TestsTM.fr {P : Program} {g : FuncId} {first cap : Array Value} {bm : Nat} {J : Obj → Prop} {p : E3 → Bool} {xs : List E3} {w w1 : World} (h : TestsTM P g first cap bm J p xs w) (f : Fr [bm] w w1) : TestsTM P g first cap bm J p xs w1 := fun x o w' f' hl hj hx => h x o w' (f.trans f' (fun x hx => .inl hx)) hl hj hx
theorem indexFuncTM_c (g : FuncId) [GoFn Tryz.prog g] (first cap : Array Value) (bm : Nat) (J : Obj → Prop) (p : E3 → Bool) (xs : List E3) (hx : (xs.length : Int) ≤ 9000000000000000000) (sl : Value) (w : World) (o0 : Obj) (hl : w.heap[bm]? = some o0) (hJ : J o0) (hrd : ∀ w', Fr [bm] w w' → RdT w' sl xs) (ht : TestsTM Tryz.prog g first cap bm J p xs w) :
    CnX Tryz.prog 159 #[sl, .func (.func g) first cap] w [bm] (fun _ : Obj => vi (idxT xs p)) (fun o' w2 => J o' ∧ w2.heap[bm]? = some o') := by
  obtain ⟨ad, cp, b0, o, rfl, had, _⟩ := (hrd w (Fr.refl _ _)).open
  refine cnxS (vs := [_, _]) (S := [bm]) [(bm, o0)] Tryz.func159 rfl rfl ⟨by simp [hl], by simp, by simp⟩ ?_
  all_goals refine tc_seq fun K1 hK1 => ?_; refine tc_region ?_; refine tl_q (y_assign rfl) rfl ?_; refine tl_nil ?_; ((refine hK1 ?_; try (clear hK1; clear K1)))
  all_goals refine tc_seq fun K2 hK2 => ?_; refine tc_seq fun K3 hK3 => ?_; refine tc_region ?_; refine tl_q (y_move rfl) rfl ?_; refine tl_q (y_len rfl) rfl ?_; refine tl_q (y_move rfl) rfl ?_; refine tl_nil ?_; ((refine hK3 ?_; try (clear hK3; clear K3)))
  all_goals refine tc_block ?_
  all_goals (
   refine tc_loop (fun q : Nat × Obj => (q.1 ≤ xs.length ∧ ∀ j, j < q.1 → p (xs.getD j (0, 0, 0)) = false) ∧ J q.2) (fun q => [(0, .slice ad xs.length cp), (1, .func (.func g) first cap), (7, vi xs.length), (8, vi q.1)]) (fun _ => [(w, [bm])]) (fun q => [(bm, q.2)]) (fun q => xs.length - q.1) ?_ ?_
   · exact tk_start (0, o0) ⟨⟨Nat.zero_le _, fun j hj => absurd hj (Nat.not_lt_zero j)⟩, hJ⟩ (.cons rfl (.cons rfl (.cons rfl (.cons rfl .nil)))) (fun _ h => h)
   · rintro ⟨k, o1⟩ ⟨⟨hk, hj⟩, hJ1⟩
     dsimp only at hk hj hJ1 ⊢
     all_goals refine tc_seq fun K4 hK4 => ?_; refine tc_region ?_; refine tl_q (y_lss rfl rfl) rfl ?_; refine tl_nil ?_; ((refine hK4 ?_; try (clear hK4; clear K4)))
     all_goals refine tc_seq fun K5 hK5 => ?_
     all_goals (
      refine tc_cond rfl (fun hc => ?_) (fun hc => ?_)
      · try simp only [qn1, qn2, qn3, qn4, qn5, qn6, qn7, qn8] at hc
        all_goals refine tc_skip ?_; ((refine hK5 ?_; try (clear hK5; clear K5)))
        all_goals refine tc_seq fun K6 hK6 => ?_; refine tc_block ?_; refine tc_seq fun K7 hK7 => ?_; refine tc_region ?_; refine tl_q (y_move rfl) rfl ?_; refine tl_q (y_assign rfl) rfl ?_; refine tl_nil ?_; ((refine hK7 ?_; try (clear hK7; clear K7)))
        all_goals refine tc_seq fun K8 hK8 => ?_
        have had' := had (by omega)
        subst had'
        all_goals refine tc_region ?_; refine tl_q (y_move rfl) rfl ?_; refine tl_q (y_move rfl) rfl ?_; refine tl_q (y_move rfl) rfl ?_; refine tl_q (y_index rfl rfl (by omega) rfl) rfl ?_; ((refine tl_q (y_loadNo rfl (fun w' hw' => by rw [show Int.toNat (k : Int) * 3 = k * 3 from by omega]; exact (hrd w' (hw'.fr (w0 := w) (S := [bm]) MI.m)).at (by omega))) rfl ?_))
        all_goals refine tl_e (e_callUf (val := fun _ : Obj => .bool (p (xs.getD k (0, 0, 0)))) (p := J) (b := bm) (ob := fun o => o) rfl rfl (.cons rfl .nil) (fun w' hw' => ht (xs.getD k (0, 0, 0)) o1 w' (hw'.fr (w0 := w) (S := [bm]) MI.m) (hw'.heap _ (HM.mem (by repeat constructor))) hJ1 (getD_memE (by omega))) (fun _ => (by repeat constructor))) rfl (fun z hz => ?_); refine tl_nil ?_; ((refine hK8 ?_; try (clear hK8; clear K8)))
        all_goals (
         refine tc_cond rfl (fun hc => ?_) (fun hc => ?_)
         · all_goals (skip)
           all_goals refine tc_seq fun K9 hK9 => ?_; refine tc_region ?_; refine tl_q (y_move rfl) rfl ?_; refine tl_q (y_assign rfl) rfl ?_; refine tl_nil ?_; ((refine hK9 ?_; try (clear hK9; clear K9)))
           all_goals refine tc_ret ?_; (repeat (first | refine tk_then_ret ?_ | refine tk_block_ret ?_))
           all_goals (refine tk_ret rfl rfl (.cons (.tmp rfl) .nil) ?_)
           all_goals (
            first
            | exact fun w' hw' => ⟨z, by rw [idxT_hit (k := k) (by omega) (by simpa using hc) hj]; rfl, hw'.fr (by simp), hz, hw'.heap _ (HM.mem (by repeat constructor))⟩
            | exact fun w' hw' => ⟨o1, by rw [idxT_miss (fun j hjj => hj j (by omega))]; rfl, hw'.fr (by simp), hJ1, hw'.heap _ (HM.mem (by repeat constructor))⟩)
         · all_goals (skip)
           all_goals refine tc_skip ?_; ((refine hK6 ?_; try (clear hK6; clear K6)))
           all_goals refine tc_region ?_; refine tl_q (y_add rfl rfl (by omega)) rfl ?_; refine tl_q (y_move rfl) rfl ?_; refine tl_nil ?_
           all_goals (
            exact tk_round (k + 1, z) ⟨⟨by dsimp only; omega, fun j hj' => by rcases Nat.lt_succ_iff_lt_or_eq.1 hj' with h | rfl; exact hj j h; simpa using hc⟩, hz⟩ (by dsimp only; omega) (.cons rfl (.cons rfl (.cons rfl (.cons rfl .nil)))) (fun _ h => h.subl SB.s SB.s)))
      · try simp only [qn1, qn2, qn3, qn4, qn5, qn6, qn7, qn8] at hc
        all_goals refine tc_exit ?_; ((refine hK2 ?_; try (clear hK2; clear K2)))
        all_goals refine tc_seq fun K10 hK10 => ?_; refine tc_region ?_; refine tl_q (y_assign rfl) rfl ?_; refine tl_nil ?_; ((refine hK10 ?_; try (clear hK10; clear K10)))
        all_goals refine tc_ret ?_; (repeat (first | refine tk_then_ret ?_))
        all_goals (refine tk_ret rfl rfl (.cons (.tmp rfl) .nil) ?_)
        all_goals (
         first
         | exact fun w' hw' => ⟨z, by rw [idxT_hit (k := k) (by omega) (by simpa using hc) hj]; rfl, hw'.fr (by simp), hz, hw'.heap _ (HM.mem (by repeat constructor))⟩
         | exact fun w' hw' => ⟨o1, by rw [idxT_miss (fun j hjj => hj j (by omega))]; rfl, hw'.fr (by simp), hJ1, hw'.heap _ (HM.mem (by repeat constructor))⟩)))
theorem containsFuncTM_c (g : FuncId) [GoFn Tryz.prog g] (first cap : Array Value) (bm : Nat) (J : Obj → Prop) (p : E3 → Bool) (xs : List E3) (hx : (xs.length : Int) ≤ 9000000000000000000) (sl : Value) (w : World) (o0 : Obj) (hl : w.heap[bm]? = some o0) (hJ : J o0) (hrd : ∀ w', Fr [bm] w w' → RdT w' sl xs) (ht : TestsTM Tryz.prog g first cap bm J p xs w) :
    CnX Tryz.prog 125 #[sl, .func (.func g) first cap] w [bm] (fun _ : Obj => .bool (xs.any p)) (fun o' w2 => J o' ∧ w2.heap[bm]? = some o') := by
  refine cnxS (vs := [_, _]) (S := [bm]) [(bm, o0)] Tryz.func125 rfl rfl ⟨by simp [hl], by simp, by simp⟩ ?_
  all_goals refine tc_seq fun K1 hK1 => ?_; refine tc_region ?_; refine tl_q (y_assign rfl) rfl ?_; refine tl_nil ?_; ((refine hK1 ?_; try (clear hK1; clear K1)))
  all_goals refine tc_seq fun K2 hK2 => ?_; refine tc_region ?_; refine tl_q (y_move rfl) rfl ?_; refine tl_q (y_move rfl) rfl ?_; refine tl_e (e_callU (ob := fun o => o) rfl (.cons rfl (.cons rfl .nil)) (fun w' hw' => indexFuncTM_c g first cap bm J p xs hx _ w' o0 (hw'.heap _ (HM.mem (by repeat constructor))) hJ (fun w2 f => hrd w2 ((hw'.fr (w0 := w) (S := [bm]) (by simp)).trans f (fun x hx => .inl hx))) (ht.fr (hw'.fr (by simp)))) (fun _ => (by repeat constructor))) rfl (fun z hz => ?_); refine tl_q (y_geq rfl rfl) rfl ?_; refine tl_q (y_assign rfl) rfl ?_; refine tl_nil ?_; ((refine hK2 ?_; try (clear hK2; clear K2)))
  all_goals refine tc_ret ?_; (repeat (first | refine tk_then_ret ?_))
  all_goals (refine tk_ret rfl rfl (.cons (.tmp rfl) .nil) ?_)
  all_goals (
   exact fun w' hw' => ⟨z, by rw [← idxT_any]; rfl, hw'.fr (by simp), hz, hw'.heap _ (HM.mem (by repeat constructor))⟩)
theorem allTM1_c (g : FuncId) [GoFn Tryz.prog g] (first cap : Array Value) (bm bp : Nat) (hne : bp ≠ bm) (J : Obj → Prop) (p : E3 → Bool) (xs : List E3) (w : World) (hb : w.heap[bp]? = some (.cells #[.func (.func g) first cap] 134 (0, 0))) (ht : TestsTM Tryz.prog g first cap bm J p xs w) :
    TestsTM Tryz.prog 126 #[] #[ptr bp] bm J (fun x => !(p x)) xs w := by
  intro x o w1 f1 hl hJ hx
  have hb1 := f1.keepS (by simpa using hne) hb
  rw [show (#[] ++ #[tsV x] ++ #[ptr bp] : Array Value) = #[tsV x, ptr bp] from by simp]
  refine cnxS (vs := [_, _]) (S := [bm]) [(bm, o)] Tryz.func126 rfl rfl ⟨by simp [hl], by simp, by simp⟩ ?_
  all_goals refine tc_seq fun K1 hK1 => ?_; refine tc_region ?_; refine tl_e (e_box rfl rfl rfl) rfl (fun _ _ => ?_); refine tl_q (y_assign rfl) rfl ?_; refine tl_nil ?_; ((refine hK1 ?_; try (clear hK1; clear K1)))
  all_goals refine tc_seq fun K2 hK2 => ?_; refine tc_region ?_; refine tl_q (y_load1o rfl (fun w' hw' => cell0 ((hw'.fr (w0 := w1) (S := [bm]) (by simp)).keepS (by simpa using hne) hb1) rfl)) rfl ?_; refine tl_q (y_loadW rfl (by repeat constructor) (by rfl)) rfl ?_; refine tl_e (e_callUf (val := fun _ : Obj => .bool (p x)) (p := J) (b := bm) (ob := fun o => o) rfl rfl (.cons rfl .nil) (fun w' hw' => ht x o w' (f1.trans (hw'.fr (w0 := w1) (S := [bm]) (by simp)) (fun x hx => .inl hx)) (hw'.heap _ (HM.mem (by repeat constructor))) hJ hx) (fun _ => (by repeat constructor))) rfl (fun z hz => ?_); refine tl_q (y_not rfl) rfl ?_; refine tl_q (y_assign rfl) rfl ?_; refine tl_nil ?_; ((refine hK2 ?_; try (clear hK2; clear K2)))
  all_goals refine tc_ret ?_; (repeat (first | refine tk_then_ret ?_))
  all_goals (refine tk_ret rfl rfl (.cons (.tmp rfl) .nil) ?_)
  all_goals (
   exact fun w' hw' => ⟨z, rfl, hw'.fr (by simp), hz, hw'.heap _ (HM.mem (by repeat constructor))⟩)
theorem allTM_c (g : FuncId) [GoFn Tryz.prog g] (first cap : Array Value) (bm : Nat) (J : Obj → Prop) (p : E3 → Bool) (xs : List E3) (hx : (xs.length : Int) ≤ 9000000000000000000) (sl : Value) (w : World) (o0 : Obj) (hl : w.heap[bm]? = some o0) (hJ : J o0) (hrd : ∀ w', Fr [bm] w w' → RdT w' sl xs) (ht : TestsTM Tryz.prog g first cap bm J p xs w) :
    CnX Tryz.prog 73 #[sl, .func (.func g) first cap] w [bm] (fun _ : Obj => .bool (xs.all p)) (fun o' w2 => J o' ∧ w2.heap[bm]? = some o') := by
  refine cnxS (vs := [_, _]) (S := [bm]) [(bm, o0)] Tryz.func73 rfl rfl ⟨by simp [hl], by simp, by simp⟩ ?_
  all_goals refine tc_seq fun K1 hK1 => ?_; refine tc_region ?_; refine tl_e (e_box rfl rfl rfl) rfl (fun bp _ => ?_); refine tl_q (y_assign rfl) rfl ?_; refine tl_nil ?_; ((refine hK1 ?_; try (clear hK1; clear K1)))
  all_goals refine tc_seq fun K2 hK2 => ?_; refine tc_region ?_; refine tl_q (y_move rfl) rfl ?_; refine tl_q (y_fn .nil (.cons rfl .nil)) rfl ?_; (refine tl_e (e_callU (ob := fun o => o) rfl (.cons rfl (.cons rfl .nil)) (fun w' hw' => containsFuncTM_c 126 #[] #[ptr bp] bm J (fun x => !(p x)) xs hx _ w' o0 (hw'.heap _ (HM.mem (by repeat constructor))) hJ (fun w2 f => hrd w2 ((hw'.fr (w0 := w) (S := [bm]) (by simp)).trans f (fun x hx => .inl hx))) (allTM1_c g first cap bm bp (by have := hw'.nodup; simp at this; omega) J p xs w' (hw'.heap _ (HM.mem (by repeat constructor))) (ht.fr (hw'.fr (by simp))))) (fun _ => (by repeat constructor))) rfl (fun z hz => ?_))
  all_goals (refine tl_q (y_not rfl) rfl ?_); refine tl_q (y_assign rfl) rfl ?_; refine tl_nil ?_; ((refine hK2 ?_; try (clear hK2; clear K2)))
  all_goals refine tc_ret ?_; (repeat (first | refine tk_then_ret ?_))
  all_goals (refine tk_ret rfl rfl (.cons (.tmp rfl) .nil) ?_)
  all_goals (
   exact fun w' hw' => ⟨z, by rw [List.all_eq_not_any_not]; rfl, hw'.fr (by simp), hz, hw'.heap _ (HM.mem (by repeat constructor))⟩)
end Go.Sp
/-
  Package trial: the truth that is shown.
-/
namespace Go.Sp
open Go Go.Proofs
theorem Reads.frI {w w' : World} {v : Value} {sz n : Nat} {vs : List Value} {S : List Nat} (h : Reads w v sz n vs) (f : Fr S w w') (hS : ∀ u ∈ vs, ∀ x ∈ S, ∀ k : Nat, w.cell? ⟨x, k, none⟩ ≠ some u) : Reads w' v sz n vs := by
  obtain ⟨h1, ad, cap, h2, h3⟩ := h
  refine ⟨h1, ad, cap, h2, fun hn => ?_⟩
  obtain ⟨b, o, h4, h5⟩ := h3 hn
  refine ⟨b, o, h4, ?_⟩
  clear h1 h2 h3 h4 hn
  generalize n * sz = q at h5
  induction h5 with
  | nil => exact .nil
  | @cons o n v vs hv _ ih =>
    exact .cons (f.cell (p := ⟨b, o, none⟩) (fun hb => hS v List.mem_cons_self b hb o hv) hv) (ih (fun u hu => hS u (List.mem_cons_of_mem _ hu)))
theorem RdI.frI {w w' : World} {v : Value} {xs : List Int} {b : Nat} (h : RdI w v xs) (f : Fr [b] w w') (hn : ∀ (k : Nat) (n : Int), w.cell? ⟨b, k, none⟩ ≠ some (vi n)) : RdI w' v xs :=
  Reads.frI h f (fun u hu x hx k => by
    obtain ⟨n, _, rfl⟩ := List.mem_map.1 hu
    rw [List.mem_singleton.1 hx]
    exact hn k n)
theorem no_int2 {w : World} {b : Nat} {e : TypeId} {f : Nat × Nat} (h : w.heap[b]? = some (.cells #[.slice none 0 0, .slice none 0 0] e f)) (k : Nat) (n : Int) : w.cell? ⟨b, k, none⟩ ≠ some (vi n) := by
  intro hc
  simp only [World.cell?, h] at hc
  rcases k with _ | _ | k
  · simp at hc
  · simp at hc
  · simp at hc
def errL (t : Tr) (e : E3) : List Int := (List.range t.parts.length).map (get3 e)
theorem errL_len (t : Tr) (e : E3) : (errL t e).length = t.parts.length := by simp [errL]
theorem errL_get {t : Tr} {e : E3} {i : Nat} (h : i < t.parts.length) : (errL t e).getD i 0 = get3 e i := by
  unfold errL
  rw [List.getD_eq_getElem?_getD, List.getElem?_map, List.getElem?_range h]; rfl
theorem cloneG_c (xs : List Int) (h0 : 0 < xs.length) (hx : xs.length ≤ 1000) (sl : Value) (w : World) (hr : RdI w sl xs) :
    CnX Tryz.prog 113 #[sl] w [] (slV xs.length) (fun x w' => RdI w' (slV xs.length x) xs) := by
  have hr0 := hr
  obtain ⟨ad, cap, b0, o, rfl, had, hcell⟩ := hr.open
  have had' := had h0
  subst had'
  refine cnx0 (vs := [_]) Tryz.func113 rfl rfl ?_
  all_goals refine tc_seq fun K1 hK1 => ?_; refine tc_region ?_; refine tl_q (y_assign rfl) rfl ?_; refine tl_nil ?_; ((refine hK1 ?_; try (clear hK1; clear K1)))
  all_goals refine tc_seq fun K2 hK2 => ?_; refine tc_seq fun K3 hK3 => ?_; refine tc_region ?_; refine tl_q (y_move rfl) rfl ?_; refine tl_q (y_eql_nil rfl rfl) rfl ?_; refine tl_nil ?_; ((refine hK3 ?_; try (clear hK3; clear K3)))
  all_goals (
   refine tc_cond rfl (fun hc => ?_) (fun hc => ?_)
   · all_goals (skip)
     all_goals refine tc_seq fun K4 hK4 => ?_; refine tc_region ?_; refine tl_q (y_assign rfl) rfl ?_; refine tl_nil ?_; ((refine hK4 ?_; try (clear hK4; clear K4)))
     all_goals refine tc_ret ?_; (repeat (refine tk_then_ret ?_))
     all_goals (refine tk_ret rfl rfl (.cons (.tmp rfl) .nil) ?_)
     all_goals (
      first
      | (refine fun w' hw' => ⟨(some ⟨z.1, 0, none⟩, z.2.1), ?_, hw'.fr (by simp), ?_⟩
         · unfold slV; rw [Nat.zero_add]; rfl
         · exact RdI.own (xs := xs) (cap := z.2.1) (junk := z.2.2) hw' (b := z.1) (by repeat constructor))
      | (exfalso; simp at hc))
   · all_goals (skip)
     all_goals refine tc_skip ?_; ((refine hK2 ?_; try (clear hK2; clear K2)))
     all_goals refine tc_seq fun K5 hK5 => ?_; refine tc_region ?_; (refine tl_e (e_bslice rfl (by (repeat (exact .nil)); done) rfl rfl) rfl (fun _ _ => ?_))
     all_goals refine tl_q (y_move rfl) rfl ?_; (refine tl_e (e_append_own (old := []) (junk := []) rfl rfl rfl (by repeat constructor) (by rfl) (by rfl) (Nat.le_refl _) (fun w' hw' => hr0.fr (hw'.fr (w0 := w) (S := []) MI.m)) (fun u hu => by obtain ⟨_, _, rfl⟩ := List.mem_map.1 hu; rfl) (by omega) rfl) rfl (fun z hz => ?_))
     all_goals refine tl_q (y_assign rfl) rfl ?_; refine tl_nil ?_; ((refine hK5 ?_; try (clear hK5; clear K5)))
     all_goals refine tc_ret ?_; (repeat (first | refine tk_then_ret ?_))
     all_goals (refine tk_ret rfl rfl (.cons (.tmp rfl) .nil) ?_)
     all_goals (
      first
      | (refine fun w' hw' => ⟨(some ⟨z.1, 0, none⟩, z.2.1), ?_, hw'.fr (by simp), ?_⟩
         · unfold slV; rw [Nat.zero_add]; rfl
         · exact RdI.own (xs := xs) (cap := z.2.1) (junk := z.2.2) hw' (b := z.1) (by repeat constructor))
      | (exfalso; simp at hc)))
def e0L (t : Tr) : E3 := (truthsL t []).getD 0 (0, 0, 0)
theorem e0_mem {t : Tr} (h : 0 < (truthsL t []).length) : e0L t ∈ truthsL t [] := getD_memE h
theorem errs_rd {w : World} {b o : Nat} {e : E3} {t : Tr} (hv : VT t) (h : CA (fun k => w.cell? ⟨b, k, none⟩) o 3 [vi e.1, vi e.2.1, vi e.2.2]) : RdI w (.slice (some ⟨b, o, none⟩) t.parts.length 3) (errL t e) := by
  have h1 := hv.p1
  have h3 := hv.p3
  have g0 := h.get 0 _ rfl
  have g1 := h.get 1 _ rfl
  have g2 := h.get 2 _ rfl
  unfold errL
  rcases (by omega : t.parts.length = 1 ∨ t.parts.length = 2 ∨ t.parts.length = 3) with h | h | h <;> rw [h]
  · exact ⟨rfl, _, _, rfl, fun _ => ⟨b, o, rfl, .cons g0 .nil⟩⟩
  · exact ⟨rfl, _, _, rfl, fun _ => ⟨b, o, rfl, .cons g0 (.cons g1 .nil)⟩⟩
  · exact ⟨rfl, _, _, rfl, fun _ => ⟨b, o, rfl, .cons g0 (.cons g1 (.cons g2 .nil))⟩⟩
theorem show_no (t : Tr) (hn : NT t) (he : ¬ askedE t = 0) (sl pl ll tl : Value) (w : World) (hr : RdTr w t sl pl ll tl) : CnV Tryz.prog 51 #[trV t sl pl ll tl] w (.tuple #[.agg #[.slice none 0 0, .slice none 0 0], vi (askedE t)]) := by
  have hr0 := hr
  refine cnv (vs := [_]) Tryz.func51 rfl rfl ?_
  all_goals refine tc_seq fun K1 hK1 => ?_; refine tc_region ?_; refine tl_e (e_box rfl rfl rfl) rfl (fun b1 _ => ?_); refine tl_e (e_allocN rfl) rfl (fun _ _ => ?_); refine tl_q (y_assign rfl) rfl ?_; refine tl_nil ?_; ((refine hK1 ?_; try (clear hK1; clear K1)))
  all_goals refine tc_seq fun K2 hK2 => ?_; refine tc_region ?_; refine tl_q (y_loadW rfl (by repeat constructor) (by rfl)) rfl ?_; refine tl_e (e_callV rfl (.cons rfl .nil) (fun w' hw' => asked_no t hn he _ _ _ _ w' (hr0.fr (hw'.fr (by simp))))) rfl (fun _ _ => ?_); refine tl_q (y_move rfl) rfl ?_; refine tl_q (y_extract rfl rfl) rfl ?_; refine tl_q (y_extract rfl rfl) rfl ?_; refine tl_q (y_extract rfl rfl) rfl ?_; refine tl_q (y_assign rfl) rfl ?_; refine tl_q (y_assign rfl) rfl ?_; refine tl_q (y_assign rfl) rfl ?_; refine tl_nil ?_; ((refine hK2 ?_; try (clear hK2; clear K2)))
  all_goals refine tc_seq fun K3 hK3 => ?_; refine tc_seq fun K4 hK4 => ?_; refine tc_region ?_; refine tl_q (y_move rfl) rfl ?_; refine tl_q (y_neq rfl rfl) rfl ?_; refine tl_nil ?_; ((refine hK4 ?_; try (clear hK4; clear K4)))
  all_goals (
   refine tc_cond rfl (fun hc => ?_) (fun hc => ?_)
   · try simp only [qn1, qn2, qn3, qn4, qn5, qn6, qn7, qn8] at hc
     all_goals refine tc_seq fun K5 hK5 => ?_; refine tc_region ?_; refine tl_q (y_build_g (by repeat constructor)) rfl ?_; refine tl_q (y_move rfl) rfl ?_; refine tl_e (e_storeW rfl rfl (by repeat constructor) (by rfl) (by rfl) (by simp [Value.oneCell'])) rfl (fun _ _ => ?_); refine tl_q (y_assign rfl) rfl ?_; refine tl_nil ?_; ((refine hK5 ?_; try (clear hK5; clear K5)))
     all_goals refine tc_ret ?_; (repeat (refine tk_then_ret ?_))
     all_goals (refine tk_ret rfl rfl (.cons (.agg inferInstance rfl (by repeat constructor) (by rfl)) (.cons (.tmp rfl) .nil)) ?_)
     all_goals (
      refine fun w' hw' => ⟨rfl, hw'.fr (by simp)⟩)
   · try simp only [qn1, qn2, qn3, qn4, qn5, qn6, qn7, qn8] at hc
     all_goals ((exfalso; omega))
     all_goals (
      refine fun w' hw' => ⟨rfl, hw'.fr (by simp)⟩))
theorem show_ok (t : Tr) (hn : NT t) (he : askedE t = 0) (sl pl ll tl : Value) (w : World) (hr : RdTr w t sl pl ll tl) :
    CnX Tryz.prog 51 #[trV t sl pl ll tl] w [] (fun y : (Option Addr × Nat) × Value => .tuple #[.agg #[slV t.parts.length y.1, y.2], vi 0]) (fun y w' => RdI w' (slV t.parts.length y.1) (errL t (e0L t)) ∧ RdI w' y.2 (dlN t (e0L t) [] t.liquids.length)) := by
  have hr0 := hr
  obtain ⟨hv, hpos⟩ := askedE_0 he
  have hp1 := hv.p1
  have hp3 := hv.p3
  have hmem := e0_mem hpos
  have heb := truths_bd hv hmem
  have hok := (mem_truths.1 hmem).2
  have hdd : denD t (e0L t) [] = dlN t (e0L t) [] t.liquids.length := if_pos hok
  obtain ⟨ap, cp, _, _, rfl, _, _⟩ := hr.ps.open
  refine cnx0 (vs := [_]) Tryz.func51 rfl rfl ?_
  all_goals refine tc_seq fun K1 hK1 => ?_; refine tc_region ?_; refine tl_e (e_box rfl rfl rfl) rfl (fun b1 _ => ?_); refine tl_e (e_allocN rfl) rfl (fun b2 _ => ?_); refine tl_q (y_assign rfl) rfl ?_; refine tl_nil ?_; ((refine hK1 ?_; try (clear hK1; clear K1)))
  all_goals refine tc_seq fun K2 hK2 => ?_; refine tc_region ?_; refine tl_q (y_loadW rfl (by repeat constructor) (by rfl)) rfl ?_; refine tl_e (e_callBX (bk := fun y : (Nat × Nat) × (Option Addr × Nat) × Array MapEntry × Nat => y.1.2) (ob := fun y => .map y.2.2.1 y.2.2.2) rfl (.cons rfl .nil) (fun w' hw' => asked_ok t hn he _ _ _ _ w' (hr0.fr (hw'.fr (w0 := w) (S := []) MI.m)))) rfl (fun y hy => ?_); refine tl_q (y_move rfl) rfl ?_; refine tl_q (y_extract rfl rfl) rfl ?_; refine tl_q (y_extract rfl rfl) rfl ?_; refine tl_q (y_extract rfl rfl) rfl ?_; refine tl_q (y_assign rfl) rfl ?_; refine tl_q (y_assign rfl) rfl ?_; refine tl_q (y_assign rfl) rfl ?_; refine tl_nil ?_; ((refine hK2 ?_; try (clear hK2; clear K2)))
  all_goals refine tc_seq fun K3 hK3 => ?_; refine tc_seq fun K4 hK4 => ?_; refine tc_region ?_; refine tl_q (y_move rfl) rfl ?_; refine tl_q (y_neq rfl rfl) rfl ?_; refine tl_nil ?_; ((refine hK4 ?_; try (clear hK4; clear K4)))
  all_goals (
   refine tc_cond rfl (fun hc => ?_) (fun hc => ?_)
   · try simp only [qn1, qn2, qn3, qn4, qn5, qn6, qn7, qn8] at hc
   · try simp only [qn1, qn2, qn3, qn4, qn5, qn6, qn7, qn8] at hc
     all_goals refine tc_skip ?_; ((refine hK3 ?_; try (clear hK3; clear K3)))
     all_goals refine tc_seq fun K6 hK6 => ?_; ((obtain ⟨bT, oT, hadT⟩ := hy.1.1.opens1; have hadT' := hadT hpos))
     all_goals refine tc_region ?_; refine tl_q (y_move rfl) rfl ?_; refine tl_q (y_move rfl) rfl ?_; refine tl_q (y_index rfl rfl (by omega) hadT') rfl ?_; refine tl_q (y_loadNo (n := 3) (vs := [vi (e0L t).1, vi (e0L t).2.1, vi (e0L t).2.2]) rfl (fun w' hw' => by exact ((hy.1.1.fr (hw'.calm hy.2 MI.m SB.s)).at1 hadT' hpos))) rfl ?_; (refine tl_e (e_callUX rfl (.cons rfl (.cons rfl (.cons rfl .nil))) (fun w' hw' => by have h := densities_c t hv (e0L t) heb [] (by simp) none 0 sl (.slice ap t.parts.length cp) ll tl w' y.1.1.1 y.1.1.2 y.1.2.2.1 y.1.2.2.2 ⟨hr0.fr (hw'.fr (w0 := w) (S := []) MI.m), (hw'.calm hy.2 MI.m SB.s).keep hy.1.2.2.1, hw'.heap _ (HM.mem (by repeat constructor)), hy.1.2.1, hr0.ws.one, hr0.ps.one, hr0.ls.one, hr0.ts.one⟩ (RdI.nil w'); rw [hdd, hok] at h; exact h) (fun _ => (by repeat constructor))) rfl (fun z hz => ?_))
     all_goals refine tl_q (y_move rfl) rfl ?_; refine tl_q (y_extract rfl rfl) rfl ?_; refine tl_q (y_extract rfl rfl) rfl ?_; refine tl_q (y_assign rfl) rfl ?_; refine tl_q (y_assign rfl) rfl ?_; refine tl_nil ?_; ((obtain ⟨ad9, cp9, _, _, hz9, _, _⟩ := hz.1.1.open; rw [hz9]))
     all_goals ((refine hK6 ?_; try (clear hK6; clear K6)))
     all_goals refine tc_seq fun K7 hK7 => ?_; ((have hrdT : ∀ w', Fr [y.1.1.2] y.2 w' → RdT w' (slV (truthsL t []).length y.1.2.1) (truthsL t []) := fun w' f => Reads.frM hy.1.1 f (fun z hz => by obtain rfl := List.mem_singleton.1 hz; exact ⟨_, _, hy.2.heap _ (HM.mem .head)⟩)))
     all_goals refine tc_draw (by kernel_rfl) ?_; refine tx_p 0 rfl (by kernel_rfl) (y_move rfl) rfl (fun _ _ _ h => h) (fun _ h => h) ?_; refine tx_p 1 rfl (by kernel_rfl) (y_index rfl rfl (by omega) hadT') rfl (fun _ _ _ h => h) (fun _ h => h) ?_; refine tx_p 2 rfl (by kernel_rfl) (y_field rfl) rfl (fun _ _ _ h => h) (fun _ h => h) ?_; refine tx_q 3 rfl (by kernel_rfl) (y_load1 rfl (by repeat constructor) (by rfl)) rfl (fun _ _ _ h => h) (fun _ h => h) ?_; refine tx_q 4 rfl (by kernel_rfl) (y_len rfl) rfl (fun _ _ _ h => h) (fun _ h => h) ?_; refine tx_q 5 rfl (by kernel_rfl) (y_sliceAT rfl rfl (by omega)) rfl (fun _ _ _ h => h) (fun _ h => h) ?_; refine tx_p 7 rfl (by kernel_rfl) (y_move rfl) rfl (fun _ _ _ h => h) (fun _ h => h) ?_; (refine tx_e 6 rfl (by kernel_rfl) rfl (e_callX rfl (.cons rfl .nil) (fun w' hw' => by have h := cloneG_c (errL t (e0L t)) (by rw [errL_len]; omega) (by rw [errL_len]; omega) (.slice (some ⟨bT, oT + 0 * 3, none⟩) t.parts.length 3) w' (errs_rd hv ((hrdT w' (hw'.calmM hy.2 (bm := y.1.1.2) MI.m (by (repeat (first | exact .nil | (refine AB.old ?_ ?_; (focus ((repeat constructor); done))) | refine AB.but ?_)); done))).at1 hadT' hpos)); rw [errL_len] at h; exact h)) (.inr fun _ _ h => h.sub (fun _ h => List.mem_cons_of_mem _ h) (List.Sublist.refl _)) (fun x hx => ?_))
     all_goals (refine tx_p 8 rfl (by kernel_rfl) (y_build_g (by repeat constructor)) rfl (fun _ _ _ h => h) (fun _ h => h) ?_); ((refine tx_e 9 rfl (by kernel_rfl) rfl (e_storeW (cs := #[slV t.parts.length x.1, .slice ad9 (dlN t (e0L t) [] t.liquids.length).length cp9]) rfl rfl (by repeat constructor) (by rfl) (by rfl) (by intro v hv; simp at hv; rcases hv with rfl | rfl <;> rfl)) (.inl (by kernel_rfl)) (fun _ _ => ?_)))
     all_goals refine tx_p 10 rfl (by kernel_rfl) (y_assign rfl) rfl (fun _ _ _ h => h) (fun _ h => h) ?_; refine tx_done (by kernel_rfl) ?_; ((refine hK7 ?_; try (clear hK7; clear K7)))
     all_goals refine tc_ret ?_; (repeat (first | refine tk_then_ret ?_))
     all_goals (refine tk_ret rfl rfl (.cons (.agg inferInstance rfl (by repeat constructor) (by rfl)) (.cons (.tmp rfl) .nil)) ?_)
     all_goals (
      refine fun w' hw' => ⟨(x.1, .slice ad9 (dlN t (e0L t) [] t.liquids.length).length cp9), rfl, hw'.fr (w0 := w) (S := []) MI.m, hx.1.frI (hw'.calmM hx.2 (bm := b2) MI.m (by (repeat (first | exact .nil | (refine AB.old ?_ ?_; (focus ((repeat constructor); done))) | refine AB.but ?_)); done)) (no_int2 (hx.2.heap (b2, _) (HM.mem (by repeat constructor)))), ?_⟩
      have h9 := hz.1.1
      rw [hz9] at h9
      exact h9.frI (hw'.calmM hz.2 (bm := b2) MI.m (by (repeat (first | exact .nil | (refine AB.old ?_ ?_; (focus ((repeat constructor); done))) | refine AB.but ?_)); done)) (no_int2 (hz.2.heap (b2, _) (HM.mem (by repeat constructor))))))
end Go.Sp
/-
  Package trial: whether a truth is one of a trial, walked.
-/
namespace Go.Sp
open Go Go.Proofs
def inN (t : Tr) (xd : List Int) (n : Nat) : Bool := (List.range n).all fun i => decide ((lqAt t i).1 ≤ xd.getD i 0 ∧ xd.getD i 0 ≤ (lqAt t i).2)
theorem inN_succ (t : Tr) (xd : List Int) (n : Nat) : inN t xd (n + 1) = (inN t xd n && decide ((lqAt t n).1 ≤ xd.getD n 0 ∧ xd.getD n 0 ≤ (lqAt t n).2)) := by simp [inN, List.range_succ, List.all_append]
def prP (t : Tr) (e : E3) (xd : List Int) (x : E3) : Bool := rightF t e x (xd.getD x.1.toNat 0)
def proveB (t : Tr) (xe xd : List Int) : Bool := decide (chkT t = 0) && (decide (xd.length = t.liquids.length) && ((errB t xe && inN t xd t.liquids.length) && t.tests.all (prP t (er3 xe) xd)))
theorem errE_of {t : Tr} {l : List Int} {b : Bool} (h : (errB t l && b) = true) : errE t l = (er3 l, true) := by
  rw [Bool.and_eq_true] at h
  exact if_pos h.1
theorem prove1_c (t : Tr) (hv : VT t) (e : E3) (he : ErB e) (xd : List Int) (hxd : xd.length = t.liquids.length) (ev dv sl pl ll tl : Value) (w : World) (b9 b5 b3 bw bm : Nat) (es : Array MapEntry) (ck : Nat) (hT : TW w t sl pl ll tl bw bm es ck)
    (h9 : w.heap[b9]? = some (.cells #[ptr bw] 130 (0, 0))) (h5 : w.heap[b5]? = some (.cells #[vi e.1, vi e.2.1, vi e.2.2] 126 (0, 0))) (h3 : w.heap[b3]? = some (.cells #[ev, dv] 106 (0, 0))) (hd : RdI w dv xd) :
    TestsTM Tryz.prog 114 #[] #[ptr b9, ptr b5, ptr b3] bm (JMt t) (prP t e xd) t.tests w := by
  intro x o w1 f1 hl hJ hx
  obtain ⟨es1, ck1, rfl, hc1⟩ := hJ
  have hmm : ∀ b : Nat, (∃ c tt f, w.heap[b]? = some (.cells c tt f)) → b ∉ [bm] := fun b hb hm => by
    obtain rfl := List.mem_singleton.1 hm
    obtain ⟨c, tt, f, hb⟩ := hb
    rw [hT.hm] at hb; cases hb
  have n9 := hmm b9 ⟨_, _, _, h9⟩
  have n5 := hmm b5 ⟨_, _, _, h5⟩
  have n3 := hmm b3 ⟨_, _, _, h3⟩
  have g9 := f1.keepS n9 h9
  have g5 := f1.keepS n5 h5
  have g3 := f1.keepS n3 h3
  have hT1 := hT.fr f1 hl hc1
  have hd1 : RdI w1 dv xd := Reads.frM hd f1 (fun q hq => by rw [List.mem_singleton.1 hq]; exact ⟨_, _, hT.hm⟩)
  have hx1 := List.all_eq_true.1 hv.ts x hx
  have hx2 := of_decide_eq_true hx1
  obtain ⟨ad, cp, bD, oD, rfl, hadD, _⟩ := hd1.open
  have hadD' := hadD (by omega)
  subst hadD'
  rw [show (#[] ++ #[tsV x] ++ #[ptr b9, ptr b5, ptr b3] : Array Value) = #[tsV x, ptr b9, ptr b5, ptr b3] from by simp]
  refine cnxS (vs := [_, _, _, _]) (S := [bm]) [(bm, .map es1 ck1)] Tryz.func114 rfl rfl ⟨by simp [hl], by simp, by simp⟩ ?_
  all_goals refine tc_seq fun K1 hK1 => ?_; refine tc_region ?_; refine tl_e (e_box rfl rfl rfl) rfl (fun b4 _ => ?_); refine tl_q (y_assign rfl) rfl ?_; refine tl_nil ?_; ((refine hK1 ?_; try (clear hK1; clear K1)))
  all_goals refine tc_seq fun K2 hK2 => ?_; refine tc_drawS ([(b4, .cells (tsV x).cells 121 (0, 0))]) (by kernel_rfl) ?_; refine tx_qS 0 rfl (by kernel_rfl) (y_load1o (v := ptr bw) rfl (fun w' hw' => cell0 ((hw'.fr (w0 := w1) (S := [bm]) MI.m).keepS n9 g9) rfl)) rfl (fun _ _ _ h => h) (fun _ h => h.subl SB.s SB.s) ?_; refine tx_qS 1 rfl (by kernel_rfl) (y_loadNo (n := 3) (vs := [vi e.1, vi e.2.1, vi e.2.2]) rfl (fun w' hw' => (CA_whole (c := #[vi e.1, vi e.2.1, vi e.2.2]) (t := 126) (f := (0, 0)) rfl).cells ((hw'.fr (w0 := w1) (S := [bm]) MI.m).keepS n5 g5))) rfl (fun _ _ _ h => h) (fun _ h => h.subl SB.s SB.s) ?_; refine tx_qS 2 rfl (by kernel_rfl) (y_loadW rfl (by repeat constructor) (by rfl)) rfl (fun _ _ _ h => h) (fun _ h => h.subl SB.s SB.s) ?_; refine tx_p 3 rfl (by kernel_rfl) (y_field rfl) rfl (fun _ _ _ h => h) (fun _ h => h.subl SB.s SB.s) ?_; refine tx_qS 4 rfl (by kernel_rfl) (y_load1o (v := .slice (some ⟨bD, oD, none⟩) xd.length cp) rfl (fun w' hw' => cell0 ((hw'.fr (w0 := w1) (S := [bm]) MI.m).keepS n3 g3) rfl)) rfl (fun _ _ _ h => h) (fun _ h => h.subl SB.s SB.s) ?_; refine tx_p 5 rfl (by kernel_rfl) (y_field rfl) rfl (fun _ _ _ h => h) (fun _ h => h.subl SB.s SB.s) ?_; refine tx_qS 6 rfl (by kernel_rfl) (y_load1 rfl (by repeat constructor) (by rfl)) rfl (fun _ _ _ h => h) (fun _ h => h.subl SB.s SB.s) ?_; refine tx_p 7 rfl (by kernel_rfl) (y_index rfl rfl (by omega) rfl) rfl (fun _ _ _ h => h) (fun _ h => h.subl SB.s SB.s) ?_; ((refine tx_qS 8 rfl (by kernel_rfl) (y_load1o (v := vi (xd.getD x.1.toNat 0)) rfl (fun w' hw' => by rw [show x.1.toNat * 1 = x.1.toNat from by omega]; have hh : RdI w' (.slice (some ⟨bD, oD, none⟩) xd.length cp) xd := Reads.frM hd1 (hw'.fr (w0 := w1) (S := [bm]) MI.m) (fun q hq => by rw [List.mem_singleton.1 hq]; exact ⟨_, _, hl⟩); exact RdI.at hh (by omega))) rfl (fun _ _ _ h => h) (fun _ h => h.subl SB.s SB.s) ?_))
  all_goals refine tx_single 9 (by kernel_rfl) (to_e rfl rfl (e_callU rfl (.cons rfl (.cons rfl (.cons rfl (.cons rfl .nil)))) (fun w' hw' => right_c t hv e he x hx1 (xd.getD x.1.toNat 0) sl pl ll tl w' bw bm es1 ck1 (hT1.fr (hw'.fr (w0 := w1) (S := [bm]) MI.m) (hw'.heap _ (HM.mem (by repeat constructor))) hc1)) (fun _ => (by repeat constructor))) (.inr ⟨fun _ _ h => h.subl SB.s SB.s, fun _ h => h⟩) (fun z hz => ?_)); refine tx_p 10 rfl (by kernel_rfl) (y_assign rfl) rfl (fun _ _ _ h => h) (fun _ h => h.subl SB.s SB.s) ?_; refine tx_done (by kernel_rfl) ?_; ((refine hK2 ?_; try (clear hK2; clear K2)))
  all_goals refine tc_ret ?_; (repeat (first | refine tk_then_ret ?_))
  all_goals (refine tk_ret rfl rfl (.cons (.tmp rfl) .nil) ?_)
  all_goals (
   exact fun w' hw' => ⟨.map z.1 z.2, rfl, hw'.fr (by simp), ⟨_, _, rfl, hz⟩, hw'.heap _ (HM.mem (by repeat constructor))⟩)
set_option maxHeartbeats 1000000 in
theorem prove_c (t : Tr) (hn : NT t) (xe xd : List Int) (hxe : (xe.length : Int) ≤ 9000000000000000000) (ev dv sl pl ll tl : Value) (w : World) (hr : RdTr w t sl pl ll tl) (hE : RdI w ev xe) (hD : RdI w dv xd) :
    CnV Tryz.prog 52 #[trV t sl pl ll tl, .agg #[ev, dv]] w (.bool (proveB t xe xd)) := by
  have hr0 := hr
  have hD0 := hD
  have hE0 := hE
  obtain ⟨aE, cE, _, _, rfl, _, _⟩ := hE.open
  obtain ⟨aD, cD, bD, oD, rfl, hadD, hcD⟩ := hD.open
  obtain ⟨aL, cL, bL, oL, rfl, hadL, hcL⟩ := hr.ls.open
  obtain ⟨aT, cT, _, _, rfl, _, _⟩ := hr.ts.open
  refine cnv (vs := [_, _]) Tryz.func52 rfl rfl ?_
  all_goals refine tc_seq fun K1 hK1 => ?_; refine tc_region ?_; refine tl_e (e_box rfl rfl rfl) rfl (fun b2 _ => ?_); refine tl_e (e_box rfl rfl rfl) rfl (fun b3 _ => ?_); refine tl_q (y_assign rfl) rfl ?_; refine tl_nil ?_; ((refine hK1 ?_; try (clear hK1; clear K1)))
  all_goals refine tc_seq fun K2 hK2 => ?_; refine tc_seq fun K3 hK3 => ?_; refine tc_region ?_; refine tl_q (y_loadW rfl (by repeat constructor) (by rfl)) rfl ?_; refine tl_e (e_callV rfl (.cons rfl .nil) (fun w' hw' => checkTrial_c t hn _ _ _ _ w' (hr0.fr (hw'.fr (w0 := w) (S := []) MI.m)))) rfl (fun _ _ => ?_); refine tl_q (y_neq rfl rfl) rfl ?_; refine tl_q (y_move rfl) rfl ?_; ((refine tl_gs rfl rfl (fun hc => ?_) (fun hc => ?_) <;> (try simp only [qn1, qn2, qn3, qn4, qn5, qn6, qn7, qn8] at hc) <;> (first | refine tl_sk rfl rfl rfl rfl ?_ | refine tl_qg rfl rfl (y_field rfl) rfl ?_)))
  all_goals (first | refine tl_sk rfl rfl rfl rfl ?_ | refine tl_qg rfl rfl (y_load1 rfl (by repeat constructor) (by rfl)) rfl ?_); (first | refine tl_sk rfl rfl rfl rfl ?_ | refine tl_qg rfl rfl (y_len rfl) rfl ?_); (first | refine tl_sk rfl rfl rfl rfl ?_ | refine tl_qg rfl rfl (y_field rfl) rfl ?_); (first | refine tl_sk rfl rfl rfl rfl ?_ | refine tl_qg rfl rfl (y_load1 rfl (by repeat constructor) (by rfl)) rfl ?_); (first | refine tl_sk rfl rfl rfl rfl ?_ | refine tl_qg rfl rfl (y_len rfl) rfl ?_); (first | refine tl_sk rfl rfl rfl rfl ?_ | refine tl_qg rfl rfl (y_neq rfl rfl) rfl ?_); (first | refine tl_q (y_pick_t rfl rfl) rfl ?_ | refine tl_q (y_pick_f rfl rfl) rfl ?_); refine tl_nil ?_; ((refine hK3 ?_; try (clear hK3; clear K3)))
  all_goals (
   refine tc_cond rfl (fun hc => ?_) (fun hc => ?_)
   · try simp only [qn1, qn2, qn3, qn4, qn5, qn6, qn7, qn8] at hc
     all_goals refine tc_seq fun K4 hK4 => ?_; refine tc_region ?_; refine tl_q (y_assign rfl) rfl ?_; refine tl_nil ?_; ((refine hK4 ?_; try (clear hK4; clear K4)))
     all_goals refine tc_ret ?_; (repeat (refine tk_then_ret ?_))
     all_goals (refine tk_ret rfl rfl (.cons (.tmp rfl) .nil) ?_)
     all_goals (
      refine fun w' hw' => ⟨congrArg (fun b => Ending.returned (Value.bool b)) ?_, hw'.fr (w0 := w) (S := []) MI.m⟩
      symm
      unfold proveB
      first
      | (rw [decide_eq_true (show chkT t = 0 by omega), Bool.true_and, decide_eq_true (by assumption : xd.length = t.liquids.length), Bool.true_and, hbn, Bool.false_and])
      | (rw [decide_eq_true (show chkT t = 0 by omega), Bool.true_and, decide_eq_true (by assumption : xd.length = t.liquids.length), Bool.true_and, hbn, Bool.true_and])
      | (rw [decide_eq_false (show ¬ chkT t = 0 by omega), Bool.false_and])
      | (rw [decide_eq_true (show chkT t = 0 by omega), Bool.true_and, decide_eq_false (show ¬ xd.length = t.liquids.length by omega), Bool.false_and]))
   · try simp only [qn1, qn2, qn3, qn4, qn5, qn6, qn7, qn8] at hc
     all_goals ((first | (exfalso; with_reducible exact btf hc) | skip))
     all_goals refine tc_skip ?_; ((refine hK2 ?_; try (clear hK2; clear K2)))
     all_goals refine tc_seq fun K5 hK5 => ?_; ((have hv := chkT_0.1 (show chkT t = 0 by omega); have hl3 := hv.l3; have hl1 := hv.l1))
     all_goals (have hDl : xd.length = t.liquids.length := by omega)
     all_goals refine tc_region ?_; refine tl_q (y_loadW rfl (by repeat constructor) (by rfl)) rfl ?_; refine tl_q (y_field rfl) rfl ?_; refine tl_q (y_load1 rfl (by repeat constructor) (by rfl)) rfl ?_; refine tl_e (e_callV rfl (.cons rfl (.cons rfl .nil)) (fun w' hw' => errorsOf_c t hv xe hxe _ _ _ _ _ w' (hr0.fr (hw'.fr (w0 := w) (S := []) MI.m)).ps (hE0.fr (hw'.fr (w0 := w) (S := []) MI.m)))) rfl (fun _ _ => ?_); refine tl_q (y_move rfl) rfl ?_; refine tl_q (y_extract rfl rfl) rfl ?_; refine tl_q (y_extract rfl rfl) rfl ?_; refine tl_e (e_allocN rfl) rfl (fun b5 _ => ?_); refine tl_e (e_storeW rfl rfl (by repeat constructor) (by rfl) (by rfl) (by simp [Value.oneCell'])) rfl (fun _ _ => ?_); refine tl_q (y_assign rfl) rfl ?_; refine tl_nil ?_; ((refine hK5 ?_; try (clear hK5; clear K5)))
     all_goals refine tc_seq fun K6 hK6 => ?_; refine tc_seq fun K7 hK7 => ?_; ((have hbb : (errE t xe).2 = errB t xe := by unfold errE; split <;> simp_all))
     all_goals rw [hbb]
     all_goals refine tc_region ?_; refine tl_q (y_field rfl) rfl ?_; refine tl_q (y_load1 rfl (by repeat constructor) (by rfl)) rfl ?_; refine tl_q (y_len rfl) rfl ?_; refine tl_q (y_move rfl) rfl ?_; refine tl_nil ?_; ((refine hK7 ?_; try (clear hK7; clear K7)))
     all_goals refine tc_block ?_
     all_goals (
      refine tc_loop (fun n : Nat => n ≤ t.liquids.length) (fun n => [(2, ptr b2), (3, ptr b3), (5, ptr b5), (6, .bool (errB t xe && inN t xd n)), (30, .slice aL t.liquids.length cL), (31, vi t.liquids.length), (32, vi n)]) (fun _ => [(w, [])]) (fun _ => [(b5, .cells #[vi (errE t xe).1.1, vi (errE t xe).1.2.1, vi (errE t xe).1.2.2] 126 (0, 0)), (b3, .cells #[.slice aE xe.length cE, .slice aD xd.length cD] 106 (0, 0)), (b2, .cells (trV t sl pl (.slice aL t.liquids.length cL) (.slice aT t.tests.length cT)).cells 38 (0, 0))]) (fun n => t.liquids.length - n) ?_ ?_
      · refine tk_start 0 (Nat.zero_le _) (.cons rfl (.cons rfl (.cons rfl (.cons ?_ (.cons rfl (.cons rfl (.cons rfl .nil))))))) (fun _ h => h.subl SB.s SB.s)
        rw [show inN t xd 0 = true from rfl, Bool.and_true]; rfl
      · rintro n hn'
        all_goals refine tc_seq fun K8 hK8 => ?_; refine tc_region ?_; refine tl_q (y_lss rfl rfl) rfl ?_; refine tl_nil ?_; ((refine hK8 ?_; try (clear hK8; clear K8)))
        all_goals refine tc_seq fun K9 hK9 => ?_
        all_goals (
         refine tc_cond rfl (fun hc => ?_) (fun hc => ?_)
         · try simp only [qn1, qn2, qn3, qn4, qn5, qn6, qn7, qn8] at hc
           all_goals refine tc_skip ?_; ((refine hK9 ?_; try (clear hK9; clear K9)))
           all_goals refine tc_seq fun K10 hK10 => ?_; refine tc_block ?_; refine tc_seq fun K11 hK11 => ?_; ((have hadL' := hadL (by omega); have hadD' := hadD (by omega)))
           all_goals refine tc_region ?_; refine tl_q (y_move rfl) rfl ?_; refine tl_q (y_index rfl rfl (by omega) hadL') rfl ?_; ((refine tl_q (y_loadNo (n := 2) (vs := [vi (lqAt t n).1, vi (lqAt t n).2]) rfl (fun w' hw' => by rw [show Int.toNat (n : Int) * 2 = n * 2 from by omega]; exact hcL w' [] (hw'.fr (w0 := w) (S := []) MI.m) (by simp) n (by omega))) rfl ?_))
           all_goals refine tl_e (e_allocN rfl) rfl (fun b8 _ => ?_); refine tl_q (y_assign rfl) rfl ?_; refine tl_e (e_storeW rfl rfl (by repeat constructor) (by rfl) (by rfl) (by simp [Value.oneCell'])) rfl (fun _ _ => ?_); refine tl_nil ?_; ((refine hK11 ?_; try (clear hK11; clear K11)))
           all_goals (have hsu := inN_succ t xd n)
           all_goals rcases hbn : (errB t xe && inN t xd n)
           all_goals refine tc_draw (by kernel_rfl) ?_; refine tx_p 0 rfl (by kernel_rfl) (y_move rfl) rfl (fun _ _ _ h => h) (fun _ h => h) ?_; refine tx_p 1 rfl (by kernel_rfl) (y_move rfl) rfl (fun _ _ _ h => h) (fun _ h => h) ?_; (first | refine tx_sk 2 rfl (by kernel_rfl) rfl rfl rfl rfl (fun _ _ _ h => h) (fun _ h => h) ?_ | refine tx_pg 2 rfl (by kernel_rfl) rfl rfl (y_field rfl) rfl (fun _ _ _ h => h) (fun _ h => h) ?_); (first | refine tx_sk 3 rfl (by kernel_rfl) rfl rfl rfl rfl (fun _ _ _ h => h) (fun _ h => h) ?_ | refine tx_qg 3 rfl (by kernel_rfl) rfl rfl (y_load1 rfl (by repeat constructor) (by rfl)) rfl (fun _ _ _ h => h) (fun _ h => h) ?_); (first | refine tx_sk 4 rfl (by kernel_rfl) rfl rfl rfl rfl (fun _ _ _ h => h) (fun _ h => h) ?_ | refine tx_pg 4 rfl (by kernel_rfl) rfl rfl (y_move rfl) rfl (fun _ _ _ h => h) (fun _ h => h) ?_); (first | refine tx_sk 5 rfl (by kernel_rfl) rfl rfl rfl rfl (fun _ _ _ h => h) (fun _ h => h) ?_ | refine tx_pg 5 rfl (by kernel_rfl) rfl rfl (y_index rfl rfl (by omega) hadD') rfl (fun _ _ _ h => h) (fun _ h => h) ?_); ((first | refine tx_sk 6 rfl (by kernel_rfl) rfl rfl rfl rfl (fun _ _ _ h => h) (fun _ h => h) ?_ | refine tx_qg 6 rfl (by kernel_rfl) rfl rfl (y_load1o (v := vi (xd.getD n 0)) rfl (fun w' hw' => by rw [show Int.toNat (n : Int) * 1 = n from by omega]; exact hcD w' (hw'.fr (w0 := w) (S := []) MI.m) n (by omega))) rfl (fun _ _ _ h => h) (fun _ h => h) ?_))
           all_goals (first | refine tx_sk 7 rfl (by kernel_rfl) rfl rfl rfl rfl (fun _ _ _ h => h) (fun _ h => h) ?_ | refine tx_pg 7 rfl (by kernel_rfl) rfl rfl (y_field rfl) rfl (fun _ _ _ h => h) (fun _ h => h) ?_); (first | refine tx_sk 8 rfl (by kernel_rfl) rfl rfl rfl rfl (fun _ _ _ h => h) (fun _ h => h) ?_ | refine tx_qg 8 rfl (by kernel_rfl) rfl rfl (y_load1 rfl (by repeat constructor) (by rfl)) rfl (fun _ _ _ h => h) (fun _ h => h) ?_); (first | refine tx_sk 9 rfl (by kernel_rfl) rfl rfl rfl rfl (fun _ _ _ h => h) (fun _ h => h) ?_ | refine tx_pg 9 rfl (by kernel_rfl) rfl rfl (y_field rfl) rfl (fun _ _ _ h => h) (fun _ h => h) ?_); (first | refine tx_sk 10 rfl (by kernel_rfl) rfl rfl rfl rfl (fun _ _ _ h => h) (fun _ h => h) ?_ | refine tx_qg 10 rfl (by kernel_rfl) rfl rfl (y_load1 rfl (by repeat constructor) (by rfl)) rfl (fun _ _ _ h => h) (fun _ h => h) ?_); (first | refine tx_sk 11 rfl (by kernel_rfl) rfl rfl rfl rfl (fun _ _ _ h => h) (fun _ h => h) ?_ | refine tx_eg 11 rfl (by kernel_rfl) rfl rfl rfl (e_callV rfl (.cons rfl (.cons rfl (.cons rfl .nil))) (fun w' _ => twithin_c _ _ _ w')) (.inr fun _ _ h => h) (fun _ _ => ?_)); (first | refine tx_p 12 rfl (by kernel_rfl) (y_pick_t rfl rfl) rfl (fun _ _ _ h => h) (fun _ h => h) ?_ | refine tx_p 12 rfl (by kernel_rfl) (y_pick_f rfl rfl) rfl (fun _ _ _ h => h) (fun _ h => h) ?_); refine tx_p 13 rfl (by kernel_rfl) (y_assign rfl) rfl (fun _ _ _ h => h) (fun _ h => h) ?_; refine tx_done (by kernel_rfl) ?_; ((refine hK10 ?_; try (clear hK10; clear K10)))
           all_goals refine tc_region ?_; refine tl_q (y_add rfl rfl (by omega)) rfl ?_; refine tl_q (y_move rfl) rfl ?_; refine tl_nil ?_
           all_goals (
            refine tk_round (n + 1) (by omega) (by omega) (.cons rfl (.cons rfl (.cons rfl (.cons ?_ (.cons rfl (.cons rfl (.cons rfl .nil))))))) (fun _ h => h.subl SB.s SB.s)
            rw [hsu, ← Bool.and_assoc, hbn]
            first | rfl | (rw [Bool.false_and]; rfl) | (rw [Bool.true_and]; rfl))
         · try simp only [qn1, qn2, qn3, qn4, qn5, qn6, qn7, qn8] at hc
           all_goals refine tc_exit ?_; ((refine hK6 ?_; try (clear hK6; clear K6)))
           all_goals refine tc_seq fun K12 hK12 => ?_; (have hnl : n = t.liquids.length := by omega)
           all_goals subst hnl
           all_goals refine tc_region ?_; refine tl_q (y_loadW rfl (by repeat constructor) (by rfl)) rfl ?_; refine tl_e (e_callN rfl (.cons rfl .nil) (fun w' hw' => twork_c t _ _ _ _ hr0.ws.one hr0.ps.one hr0.ls.one hr0.ts.one w')) rfl (fun x hx => ?_); refine tl_e (e_alloc1 rfl) rfl (fun b9 _ => ?_); refine tl_e (e_store1 rfl rfl (by repeat constructor) (by repeat constructor) (by rfl) (by rfl)) rfl (fun _ _ => ?_); refine tl_nil ?_; ((refine hK12 ?_; try (clear hK12; clear K12)))
           all_goals refine tc_seq fun K13 hK13 => ?_; rcases hbn : (errB t xe && inN t xd t.liquids.length)
           all_goals (have ht6 := hv.t6)
           all_goals ((first | (have hee := errE_of hbn; have hebd := errE_bd hv xe; rw [hee] at hebd; rw [hee]) | skip))
           all_goals refine tc_region ?_; refine tl_q (y_move rfl) rfl ?_; refine tl_q (y_move rfl) rfl ?_; (first | refine tl_sk rfl rfl rfl rfl ?_ | refine tl_qg rfl rfl (y_field rfl) rfl ?_); (first | refine tl_sk rfl rfl rfl rfl ?_ | refine tl_qg rfl rfl (y_load1 rfl (by repeat constructor) (by rfl)) rfl ?_); (first | refine tl_sk rfl rfl rfl rfl ?_ | refine tl_qg rfl rfl (y_fn .nil (.cons rfl (.cons rfl (.cons rfl .nil)))) rfl ?_); ((first | refine tl_sk rfl rfl rfl rfl ?_ | refine tl_eg rfl rfl rfl (e_callEndF (val := fun _ : Obj => .bool (t.tests.all (prP t (er3 xe) xd))) (p := fun _ _ => True) (S := [x.2]) rfl (.cons rfl (.cons rfl .nil)) (fun w' hw' => CnX.imp (val' := fun _ : Obj => .bool (t.tests.all (prP t (er3 xe) xd))) (allTM_c 114 #[] #[ptr b9, ptr b5, ptr b3] x.2 (JMt t) (prP t (er3 xe) xd) t.tests (by omega) _ w' (.map #[] 0) (hw'.heap _ (HM.mem (by repeat constructor))) ⟨_, _, rfl, fun e he => by simp at he⟩ (fun w2 f => Reads.frM (hr0.fr (hw'.fr (w0 := w) (S := []) MI.m)).ts f (fun q hq => by rw [List.mem_singleton.1 hq]; exact ⟨_, _, hw'.heap _ (HM.mem (b := x.2) (by repeat constructor))⟩)) (prove1_c t hv (er3 xe) hebd xd hDl (.slice aE xe.length cE) (.slice aD xd.length cD) sl pl _ _ w' b9 b5 b3 x.1 x.2 #[] 0 (tw0 (hr0.fr (hw'.fr (w0 := w) (S := []) MI.m)) (hw'.heap _ (HM.mem (by repeat constructor))) (hw'.heap _ (HM.mem (b := x.2) (by repeat constructor)))) (hw'.heap (b9, _) (HM.mem (by repeat constructor))) (hw'.heap (b5, _) (HM.mem (by repeat constructor))) (hw'.heap (b3, _) (HM.mem (by repeat constructor))) (hD0.fr (hw'.fr (w0 := w) (S := []) MI.m)))) id (fun _ => rfl) (fun _ h => h) (fun _ _ _ _ => trivial)) (fun w' hw' β hβ q hq => .inr (by obtain rfl := List.mem_singleton.1 hβ; obtain rfl := List.mem_singleton.1 hq; exact (hw'.own (x.2, _) (HM.mem (by repeat constructor)) (w, []) (by simp)).resolve_left (by simp)))) (fun z hz => ?_)))
           all_goals (first | refine tl_q (y_pick_t rfl rfl) rfl ?_ | refine tl_q (y_pick_f rfl rfl) rfl ?_); refine tl_q (y_assign rfl) rfl ?_; refine tl_nil ?_; ((refine hK13 ?_; try (clear hK13; clear K13)))
           all_goals refine tc_ret ?_; (repeat (first | refine tk_then_ret ?_))
           all_goals (refine tk_ret rfl rfl (.cons (.tmp rfl) .nil) ?_)
           all_goals (
            refine fun w' hw' => ⟨congrArg (fun b => Ending.returned (Value.bool b)) ?_, hw'.fr (w0 := w) (S := []) MI.m⟩
            symm
            unfold proveB
            first
            | (rw [decide_eq_true (show chkT t = 0 by omega), Bool.true_and, decide_eq_true (by assumption : xd.length = t.liquids.length), Bool.true_and, hbn, Bool.false_and])
            | (rw [decide_eq_true (show chkT t = 0 by omega), Bool.true_and, decide_eq_true (by assumption : xd.length = t.liquids.length), Bool.true_and, hbn, Bool.true_and])
            | (rw [decide_eq_false (show ¬ chkT t = 0 by omega), Bool.false_and])
            | (rw [decide_eq_true (show chkT t = 0 by omega), Bool.true_and, decide_eq_false (show ¬ xd.length = t.liquids.length by omega), Bool.false_and])))))
end Go.Sp
/-
  What Leave returns is what the reference says.
-/
namespace Go.Sp
open Go Go.Proofs
end Go.Sp
/-
  The smallest set of readings: what is kept fits, and without any smaller list nothing does.
-/
namespace Go.Sp
open Go Go.Proofs
theorem y_orn {P : Program} {F : List (Nat × Value)} {bs : List (World × List Nat)} {H : List (Nat × Obj)} {d : Option Tmp} {ty : TypeId} {pos : String} {after : Array Edge} {g : Option (Nat × Bool)} {x y : Operand} {t t' : TypeId} {a b : Nat} (hx : evalO F x = some (.int .i64 a)) (hy : evalO F y = some (.int .i64 b)) (ha : a < 2 ^ 62) (hb : b < 2 ^ 62) :
    OpY P ⟨d, .binOp .or t x y t', ty, pos, after, g⟩ F bs H (.int .i64 ((a ||| b : Nat) : Int)) := by
  unfold OpY
  intro N a' w ht _
  have hab : a ||| b < 2 ^ 62 := Nat.or_lt_two_pow ha hb
  have e : (BitVec.ofInt 64 (a : Int) ||| BitVec.ofInt 64 (b : Int)).toNat = a ||| b := by
    rw [BitVec.toNat_or, BitVec.ofInt_natCast, BitVec.ofInt_natCast, BitVec.toNat_ofNat, BitVec.toNat_ofNat, Nat.mod_eq_of_lt (by omega), Nat.mod_eq_of_lt (by omega)]
  have hw : IntKind.i64.wrap ((a ||| b : Nat) : Int) = ((a ||| b : Nat) : Int) := IntWalk.i64_in _ (by omega)
  simp only [execOp, ht.eval hx, ht.eval hy, Sem.run_bind, eqGuard_int, binOp_or, Op.intBits, IntKind.bits, e, hw, Result.andThen, Sem.run_pure, binOp, ne_eq, not_true, if_false]
  have e2 : IntKind.i64.wrap ((BitVec.ofInt IntKind.i64.bits (a : Int) ||| BitVec.ofInt IntKind.i64.bits (b : Int)).toNat : Int) = ((a ||| b : Nat) : Int) := by
    rw [← hw]; exact congrArg (fun n : Nat => IntKind.i64.wrap (n : Int)) e
  exact congrArg (fun n => Result.ok (Next.value (Value.int .i64 n)) w) e2
theorem y_shl1 {P : Program} {F : List (Nat × Value)} {bs : List (World × List Nat)} {H : List (Nat × Obj)} {d : Option Tmp} {ty : TypeId} {pos : String} {after : Array Edge} {g : Option (Nat × Bool)} {x y : Operand} {t t' : TypeId} {k' : IntKind} {n : Int} (hx : evalO F x = some (.int .i64 1)) (hy : evalO F y = some (.int k' n)) (hn : 0 ≤ n ∧ n ≤ 60) :
    OpY P ⟨d, .binOp .shl t x y t', ty, pos, after, g⟩ F bs H (.int .i64 ((2 ^ n.toNat : Nat) : Int)) := by
  have hp : 2 ^ n.toNat ≤ 2 ^ 60 := Nat.pow_le_pow_right (by omega) (by omega)
  have e : (1 : Int) * 2 ^ n.toNat = ((2 ^ n.toNat : Nat) : Int) := by simp
  have h : OpY P ⟨d, .binOp .shl t x y t', ty, pos, after, g⟩ F bs H (.int .i64 (1 * 2 ^ n.toNat)) := y_shl hx hy (by omega) (by rw [e]; generalize 2 ^ n.toNat = q at hp ⊢; omega)
  rw [e] at h; exact h
end Go.Sp
/-
  Trials, plainly: tests left out; the truth that is shown.
-/
namespace Go.Sp
open Go Go.Proofs
/-- The truth that is shown is one. -/
theorem show_true {t : Tr} (hv : VT t) (ha : askedE t = 0) : proveB t (errL t (e0L t)) (dlN t (e0L t) [] t.liquids.length) = true := by
  have hp1 := hv.p1
  have hp3 := hv.p3
  have hmem := e0_mem (askedE_0 ha).2
  obtain ⟨hev, hok⟩ := mem_truths.1 hmem
  have hin := every_in hv hev
  have her : er3 (errL t (e0L t)) = e0L t := by
    have hg : ∀ i : Nat, i < 3 → (errL t (e0L t)).getD i 0 = get3 (e0L t) i := fun i hi => by
      by_cases h : i < t.parts.length
      · exact errL_get h
      · rw [List.getD_eq_getElem?_getD, List.getElem?_eq_none (by rw [errL_len]; omega)]
        rcases (by omega : i = 1 ∨ i = 2) with rfl | rfl
        · exact (hin.2.2.2.1 (by omega)).symm
        · exact (hin.2.2.2.2 (by omega)).symm
    unfold er3
    rw [hg 0 (by omega), hg 1 (by omega), hg 2 (by omega)]; rfl
  have heb : errB t (errL t (e0L t)) = true := by
    unfold errB
    rw [errL_len, decide_eq_true rfl, Bool.true_and, List.all_eq_true]
    intro x hx
    unfold errL at hx
    obtain ⟨i, _, rfl⟩ := List.mem_map.1 hx
    refine decide_eq_true ?_
    unfold get3
    split
    · exact hin.1
    · split
      · exact hin.2.1
      · exact hin.2.2.1
  have hdl : ∀ i : Nat, i < t.liquids.length → (dlN t (e0L t) [] t.liquids.length).getD i 0 ∈ denseL t (e0L t) i [] := fun i hi => by
    have : (dlN t (e0L t) [] t.liquids.length).getD i 0 = (denseL t (e0L t) i []).headD 0 := by
      unfold dlN
      rw [List.getD_eq_getElem?_getD, List.getElem?_map, List.getElem?_range hi]; rfl
    rw [this]
    obtain ⟨d, hd⟩ := denOk_iff.1 hok i hi
    cases hh : denseL t (e0L t) i [] with
    | nil => rw [hh] at hd; cases hd
    | cons a l => exact List.mem_cons_self
  unfold proveB
  rw [decide_eq_true (chkT_0.2 hv), dlN_len, decide_eq_true rfl, heb, her, Bool.true_and, Bool.true_and, Bool.true_and, Bool.and_eq_true]
  constructor
  · unfold inN
    rw [List.all_eq_true]
    intro i hi
    exact decide_eq_true (dense_memT.1 (hdl i (List.mem_range.1 hi))).1
  · rw [List.all_eq_true]
    intro x hx
    obtain ⟨j, hj, rfl⟩ := List.getElem_of_mem hx
    have htx := of_decide_eq_true (List.all_eq_true.1 hv.ts _ hx)
    have hi : t.tests[j].1.toNat < t.liquids.length := by omega
    have := pass_iffT.1 (dense_memT.1 (hdl _ hi)).2 j hj
    rw [List.getD_eq_getElem?_getD (l := t.tests), List.getElem?_eq_getElem hj] at this
    simp only [Option.getD_some] at this
    unfold prP
    rcases this with g | g | g
    · exfalso; apply g; omega
    · simp at g
    · exact g
end Go.Sp
/-
  Trials, plainly: what a truth is; what was tried in one.
-/
namespace Go.Sp
open Go Go.Proofs
end Go.Sp
/-
  The reference of trials: what can be shown.
-/
namespace Go.Sp
open Go Go.Proofs
theorem canF_fit {t : Tr} (hv : VT t) {e : E3} {k d x : Int} (hk : 0 ≤ k ∧ k ≤ t.s.weights.length) (hd : 1 ≤ d ∧ d ≤ 2000) :
    canF t e k d x = (decide (0 ≤ x - ofF t e x ∧ x - ofF t e x ≤ t.s.divisions) && rFit t.s (k, x - ofF t e x) d) := by
  unfold canF readT
  generalize x - ofF t e x = n
  rcases h : seeF t.s k d with ⟨⟨r1, r2⟩, f⟩
  dsimp only
  rcases see_spec hv.s hk.1 hk.2 hd.1 hd.2 h with ⟨_, rfl, h0, h1, h2, _, hi⟩ | ⟨hf, rfl, _, _⟩
  · rw [if_pos rfl]
    by_cases hn : 0 ≤ n ∧ n ≤ t.s.divisions
    · rw [decide_eq_true hn, Bool.true_and]
      have := hi n hn.1 hn.2
      cases hr : rFit t.s (k, n) d
      · rw [hr] at this
        exact decide_eq_false (fun hh => by have := this.2 hh; cases this)
      · exact decide_eq_true (this.1 hr)
    · rw [decide_eq_false hn, Bool.false_and]
      exact decide_eq_false (fun hh => hn (by dsimp only at hh; omega))
  · rw [if_neg (by omega)]
    dsimp only
    rw [decide_eq_false (by omega)]
    by_cases hn : 0 ≤ n ∧ n ≤ t.s.divisions
    · rw [decide_eq_true hn, Bool.true_and]
      unfold rFit
      have h2 : rFlo t.s k d < 0 := by unfold rFlo at hf ⊢; split <;> rename_i g1; omega; rw [if_neg g1] at hf; split <;> rename_i g2; omega; rw [if_neg g2] at hf; omega
      rw [if_pos (.inr h2)]
      exact (decide_eq_false (by show ¬ rFlo t.s k d = n; omega)).symm
    · rw [decide_eq_false hn, Bool.false_and]
def partA (ps : List Int) (d : Int) : Nat → Nat
  | 0 => 0
  | n + 1 => if ps.getD n 0 ≤ d then n else partA ps d n
theorem partA_of (ps : List Int) (d : Int) : ∀ n, partA ps d (n + 1) = ofFrom ps d n
  | 0 => by show (if ps.getD 0 0 ≤ d then 0 else 0) = 0; split <;> rfl
  | n + 1 => by
    rw [ofFrom_succ]
    show (if ps.getD (n + 1) 0 ≤ d then n + 1 else partA ps d (n + 1)) = _
    rw [partA_of ps d n]
    by_cases h : ps.getD (n + 1) 0 ≤ d
    · rw [if_pos h, if_neg (by omega)]
    · rw [if_neg h, if_pos (by omega)]
theorem partA_le (ps : List Int) (d : Int) : ∀ n, partA ps d n ≤ n - 1
  | 0 => Nat.le_refl _
  | n + 1 => by
    show (if ps.getD n 0 ≤ d then n else partA ps d n) ≤ n
    split
    · exact Nat.le_refl _
    · have := partA_le ps d n; omega
theorem part9_c (t : Tr) (hn : NT t) (d : Int) (sl pl ll tl : Value) (w : World) (hp : RdI w pl t.parts) : CnV Tryz.prog 127 #[trV t sl pl ll tl, vi d] w (vi (partA t.parts d t.parts.length)) := by
  have hps := hn.ps
  obtain ⟨ad, cap, b0, o, rfl, had, hcell⟩ := hp.open
  refine cnv (vs := [_, _]) Tryz.func127 rfl rfl ?_
  all_goals refine tc_seq fun K1 hK1 => ?_; refine tc_region ?_; refine tl_e (e_box rfl rfl rfl) rfl (fun b2 _ => ?_); refine tl_q (y_assign rfl) rfl ?_; refine tl_nil ?_; ((refine hK1 ?_; try (clear hK1; clear K1)))
  all_goals refine tc_seq fun K2 hK2 => ?_; refine tc_region ?_; refine tl_q (y_assign rfl) rfl ?_; refine tl_nil ?_; ((refine hK2 ?_; try (clear hK2; clear K2)))
  all_goals refine tc_seq fun K3 hK3 => ?_; refine tc_seq fun K4 hK4 => ?_; refine tc_region ?_; refine tl_q (y_assign rfl) rfl ?_; refine tl_nil ?_; ((refine hK4 ?_; try (clear hK4; clear K4)))
  all_goals refine tc_block ?_
  all_goals (
   refine tc_loop (fun n : Nat => n ≤ t.parts.length) (fun n => [(1, vi d), (2, ptr b2), (5, vi (partA t.parts d n)), (6, vi n)]) (fun _ => [(w, [])]) (fun _ => [(b2, .cells (trV t sl (.slice ad t.parts.length cap) ll tl).cells 28 (0, 0))]) (fun n => t.parts.length - n) ?_ ?_
   · exact tk_start 0 (Nat.zero_le _) (.cons rfl (.cons rfl (.cons rfl (.cons rfl .nil)))) (fun _ h => h)
   · rintro n hn'
     all_goals refine tc_seq fun K5 hK5 => ?_; refine tc_seq fun K6 hK6 => ?_; refine tc_region ?_; refine tl_q (y_move rfl) rfl ?_; refine tl_q (y_field rfl) rfl ?_; refine tl_q (y_load1 rfl (by repeat constructor) (by rfl)) rfl ?_; refine tl_q (y_len rfl) rfl ?_; refine tl_q (y_lss rfl rfl) rfl ?_; refine tl_nil ?_; ((refine hK6 ?_; try (clear hK6; clear K6)))
     all_goals (
      refine tc_cond rfl (fun hc => ?_) (fun hc => ?_)
      · try simp only [qn1, qn2, qn3, qn4, qn5, qn6, qn7, qn8] at hc
        all_goals refine tc_skip ?_; ((refine hK5 ?_; try (clear hK5; clear K5)))
        all_goals refine tc_seq fun K7 hK7 => ?_; refine tc_block ?_; refine tc_seq fun K8 hK8 => ?_; have had' := had (by omega)
        all_goals refine tc_region ?_; refine tl_q (y_field rfl) rfl ?_; refine tl_q (y_load1 rfl (by repeat constructor) (by rfl)) rfl ?_; refine tl_q (y_move rfl) rfl ?_; refine tl_q (y_index rfl rfl (by omega) had') rfl ?_; ((refine tl_q (y_load1o (v := vi (t.parts.getD n 0)) rfl (fun w' hw' => by rw [show Int.toNat (n : Int) * 1 = n from by omega]; exact hcell w' (hw'.fr (w0 := w) (S := []) MI.m) n (by omega))) rfl ?_))
        all_goals refine tl_q (y_move rfl) rfl ?_; refine tl_q (y_leq rfl rfl) rfl ?_; refine tl_nil ?_; ((refine hK8 ?_; try (clear hK8; clear K8)))
        all_goals (
         refine tc_cond rfl (fun hc => ?_) (fun hc => ?_)
         · try simp only [qn1, qn2, qn3, qn4, qn5, qn6, qn7, qn8] at hc
           all_goals refine tc_region ?_; refine tl_q (y_move rfl) rfl ?_; refine tl_q (y_assign rfl) rfl ?_; refine tl_nil ?_; ((refine hK7 ?_; try (clear hK7; clear K7)))
           all_goals refine tc_region ?_; refine tl_q (y_move rfl) rfl ?_; refine tl_q (y_add rfl rfl (by omega)) rfl ?_; refine tl_q (y_assign rfl) rfl ?_; refine tl_nil ?_
           all_goals (
            refine tk_round (n + 1) (by omega) (by omega) (.cons rfl (.cons rfl (.cons ?_ (.cons rfl .nil)))) (fun _ h => h.subl SB.s SB.s)
            have hs : partA t.parts d (n + 1) = if t.parts.getD n 0 ≤ d then n else partA t.parts d n := rfl
            first
            | (rw [hs, if_pos hc]; rfl)
            | (rw [hs, if_neg (by omega)]; rfl))
         · try simp only [qn1, qn2, qn3, qn4, qn5, qn6, qn7, qn8] at hc
           all_goals refine tc_skip ?_; ((refine hK7 ?_; try (clear hK7; clear K7)))
           all_goals refine tc_region ?_; refine tl_q (y_move rfl) rfl ?_; refine tl_q (y_add rfl rfl (by omega)) rfl ?_; refine tl_q (y_assign rfl) rfl ?_; refine tl_nil ?_
           all_goals (
            refine tk_round (n + 1) (by omega) (by omega) (.cons rfl (.cons rfl (.cons ?_ (.cons rfl .nil)))) (fun _ h => h.subl SB.s SB.s)
            have hs : partA t.parts d (n + 1) = if t.parts.getD n 0 ≤ d then n else partA t.parts d n := rfl
            first
            | (rw [hs, if_pos hc]; rfl)
            | (rw [hs, if_neg (by omega)]; rfl)))
      · try simp only [qn1, qn2, qn3, qn4, qn5, qn6, qn7, qn8] at hc
        all_goals refine tc_exit ?_; ((refine hK3 ?_; try (clear hK3; clear K3)))
        all_goals refine tc_seq fun K9 hK9 => ?_; (have hnl : n = t.parts.length := by omega)
        all_goals subst hnl
        all_goals refine tc_region ?_; refine tl_q (y_move rfl) rfl ?_; refine tl_q (y_assign rfl) rfl ?_; refine tl_nil ?_; ((refine hK9 ?_; try (clear hK9; clear K9)))
        all_goals refine tc_ret ?_; (repeat (first | refine tk_then_ret ?_))
        all_goals (refine tk_ret rfl rfl (.cons (.tmp rfl) .nil) ?_)
        all_goals (
         exact fun w' hw' => ⟨rfl, hw'.fr (by simp)⟩)))
theorem er3_get {l : List Int} (h : l.length ≤ 3) {i : Nat} (hi : i < 3) : get3 (er3 l) i = l.getD i 0 := by
  rcases (by omega : i = 0 ∨ i = 1 ∨ i = 2) with rfl | rfl | rfl <;> rfl
theorem errB_v {t : Tr} {l : List Int} (h : errB t l = true) : l.length = t.parts.length ∧ ∀ i : Nat, i < l.length → -t.worst ≤ l.getD i 0 ∧ l.getD i 0 ≤ t.worst := by
  unfold errB at h
  rw [Bool.and_eq_true, decide_eq_true_eq, List.all_eq_true] at h
  refine ⟨h.1, fun i hi => ?_⟩
  have := of_decide_eq_true (h.2 (l.getD i 0) (by rw [List.getD_eq_getElem?_getD, List.getElem?_eq_getElem hi]; exact List.getElem_mem hi))
  exact this
theorem can9_c (t : Tr) (hv : VT t) (l : List Int) (hl : errB t l = true) (k d x : Int) (hk : 0 ≤ k ∧ k ≤ t.s.weights.length) (hd : 1 ≤ d ∧ d ≤ 2000) (hx : 0 ≤ x ∧ x ≤ t.s.divisions) (sl pl ll tl lv : Value) (w : World) (hr : RdTr w t sl pl ll tl) (hL : RdI w lv l) :
    CnV Tryz.prog 74 #[trV t sl pl ll tl, lv, vi k, vi d, vi x] w (.bool (canF t (er3 l) k d x)) := by
  have hr0 := hr
  have hp1 := hv.p1
  have hp3 := hv.p3
  have hw := hv.w
  have hd2 := hv.s.d2
  obtain ⟨hll, hlb⟩ := errB_v hl
  obtain ⟨aw, cw, _, _, rfl, _, _⟩ := hr.ws.open
  obtain ⟨ad, cap, b0, o, rfl, had, hcell⟩ := hL.open
  obtain ⟨j, hj⟩ : ∃ j, j = partA t.parts x t.parts.length := ⟨_, rfl⟩
  have hjl : j < l.length := by have := partA_le t.parts x t.parts.length; omega
  have had' := had (by omega)
  have hjb := hlb j hjl
  have hof : ofF t (er3 l) x = l.getD j 0 := by
    unfold ofF
    rw [← partA_of, show t.parts.length - 1 + 1 = t.parts.length from by omega, ← hj, er3_get (by omega) (by omega)]
  have hcf := canF_fit hv (e := er3 l) (k := k) (d := d) (x := x) hk hd
  rw [hof] at hcf
  refine cnv (vs := [_, _, _, _, _]) Tryz.func74 rfl rfl ?_
  all_goals refine tc_seq fun K1 hK1 => ?_; refine tc_region ?_; refine tl_e (e_box rfl rfl rfl) rfl (fun b5 _ => ?_); refine tl_q (y_assign rfl) rfl ?_; refine tl_nil ?_; ((refine hK1 ?_; try (clear hK1; clear K1)))
  all_goals refine tc_seq fun K2 hK2 => ?_; refine tc_seq fun K3 hK3 => ?_; refine tc_region ?_; refine tl_q (y_move rfl) rfl ?_; refine tl_q (y_geq rfl rfl) rfl ?_; refine tl_nil ?_; ((refine hK3 ?_; try (clear hK3; clear K3)))
  all_goals (
   refine tc_cond rfl (fun hc => ?_) (fun hc => ?_)
   · try simp only [qn1, qn2, qn3, qn4, qn5, qn6, qn7, qn8] at hc
     all_goals refine tc_seq fun K4 hK4 => ?_; refine tc_region ?_; refine tl_q (y_move rfl) rfl ?_; refine tl_q (y_move rfl) rfl ?_; refine tl_q (y_loadW rfl (by repeat constructor) (by rfl)) rfl ?_; refine tl_q (y_move rfl) rfl ?_; (refine tl_e (e_callV rfl (.cons rfl (.cons rfl .nil)) (fun w' hw' => by have h := part9_c t hv.nt x (.slice aw t.s.weights.length cw) pl ll tl w' (hr0.fr (hw'.fr (by simp))).ps; rw [← hj] at h; exact h)) rfl (fun _ _ => ?_))
     all_goals (refine tl_q (y_index rfl rfl (by omega) had') rfl ?_); ((refine tl_q (y_load1o (v := vi (l.getD j 0)) rfl (fun w' hw' => by rw [show Int.toNat (j : Int) * 1 = j from by omega]; exact hcell w' (hw'.fr (w0 := w) (S := []) (by simp)) j hjl)) rfl ?_))
     all_goals refine tl_q (y_sub rfl rfl (by omega)) rfl ?_; refine tl_q (y_assign rfl) rfl ?_; refine tl_nil ?_; ((refine hK4 ?_; try (clear hK4; clear K4)))
     all_goals refine tc_seq fun K5 hK5 => ?_; refine tc_region ?_; refine tl_q (y_move rfl) rfl ?_; refine tl_q (y_geq rfl rfl) rfl ?_; refine tl_q (y_move rfl) rfl ?_; ((refine tl_gs rfl rfl (fun hc => ?_) (fun hc => ?_) <;> (try simp only [qn1, qn2, qn3, qn4, qn5, qn6, qn7, qn8] at hc) <;> (first | refine tl_sk rfl rfl rfl rfl ?_ | refine tl_qg rfl rfl (y_move rfl) rfl ?_)))
     all_goals (first | refine tl_sk rfl rfl rfl rfl ?_ | refine tl_qg rfl rfl (y_field rfl) rfl ?_); (first | refine tl_sk rfl rfl rfl rfl ?_ | refine tl_qg rfl rfl (y_field rfl) rfl ?_); (first | refine tl_sk rfl rfl rfl rfl ?_ | refine tl_qg rfl rfl (y_load1 rfl (by repeat constructor) (by rfl)) rfl ?_); (first | refine tl_sk rfl rfl rfl rfl ?_ | refine tl_qg rfl rfl (y_leq rfl rfl) rfl ?_); (first | refine tl_q (y_pick_t rfl rfl) rfl ?_ | refine tl_q (y_pick_f rfl rfl) rfl ?_); refine tl_q (y_move rfl) rfl ?_; ((first | refine tl_sk rfl rfl rfl rfl ?_ | (refine tl_gs rfl rfl (fun hc => ?_) (fun hc => ?_) <;> (try simp only [qn1, qn2, qn3, qn4, qn5, qn6, qn7, qn8] at hc) <;> (first | refine tl_sk rfl rfl rfl rfl ?_ | refine tl_qg rfl rfl (y_field rfl) rfl ?_))))
     all_goals ((first | refine tl_sk rfl rfl rfl rfl ?_ | refine tl_qg rfl rfl (y_loadN rfl (by repeat constructor) (by (repeat (first | exact .nil | apply CA.cons rfl)); done)) rfl ?_))
     all_goals (first | refine tl_sk rfl rfl rfl rfl ?_ | refine tl_qg rfl rfl (y_move rfl) rfl ?_); (first | refine tl_sk rfl rfl rfl rfl ?_ | refine tl_qg rfl rfl (y_move rfl) rfl ?_); (first | refine tl_sk rfl rfl rfl rfl ?_ | refine tl_qg rfl rfl (y_build_2 rfl rfl rfl rfl) rfl ?_); (first | refine tl_sk rfl rfl rfl rfl ?_ | refine tl_qg rfl rfl (y_move rfl) rfl ?_); ((first | refine tl_sk rfl rfl rfl rfl ?_ | refine tl_eg rfl rfl rfl (e_callV rfl (.cons rfl (.cons rfl (.cons rfl .nil))) (fun w' hw' => fits_c t.s hv.s (k, x - l.getD j 0) (decide_eq_true ⟨hk, by dsimp only; omega⟩) d hd.1 hd.2 _ w' (hr0.fr (hw'.fr (by simp))).ws)) (fun _ _ => ?_)))
     all_goals (first | refine tl_q (y_pick_t rfl rfl) rfl ?_ | refine tl_q (y_pick_f rfl rfl) rfl ?_); refine tl_q (y_assign rfl) rfl ?_; refine tl_nil ?_; ((refine hK5 ?_; try (clear hK5; clear K5)))
     all_goals refine tc_ret ?_; (repeat (refine tk_then_ret ?_))
     all_goals (refine tk_ret rfl rfl (.cons (.tmp rfl) .nil) ?_)
     all_goals (
      refine fun w' hw' => ⟨congrArg (fun b => Ending.returned (Value.bool b)) ?_, hw'.fr (by simp)⟩
      rw [hcf]
      first
      | (rw [decide_eq_true (by omega), Bool.true_and])
      | (rw [decide_eq_false (by omega), Bool.false_and]))
   · try simp only [qn1, qn2, qn3, qn4, qn5, qn6, qn7, qn8] at hc
     all_goals ((exfalso; omega))
     all_goals skip)
end Go.Sp
/-
  The reference of trials: all that can be shown.
-/
namespace Go.Sp
open Go Go.Proofs
theorem shownN_0 {t : Tr} {e : E3} {k d : Int} {n : Nat} (h : ∀ j : Nat, j < n → canF t e k d j = false) : (shownN t e k d n).length = 0 := by
  unfold shownN
  rw [List.length_map, List.length_eq_zero_iff, List.filter_eq_nil_iff]
  intro j hj
  rw [h j (List.mem_range.1 hj)]; exact Bool.false_ne_true
theorem shownN_1 {t : Tr} {e : E3} {k d : Int} {n j : Nat} (hj : j < n) (h : canF t e k d j = true) : ¬ (shownN t e k d n).length = 0 := by
  unfold shownN
  rw [List.length_map, List.length_eq_zero_iff, List.filter_eq_nil_iff]
  intro g
  exact g j (List.mem_range.2 hj) h
def noneB (t : Tr) (e : E3) (k d : Int) : Bool := decide ((shownN t e k d (t.s.divisions + 1).toNat).length = 0)
theorem canN_c (t : Tr) (hv : VT t) (l : List Int) (hl : errB t l = true) (k d : Int) (hk : 0 ≤ k ∧ k ≤ t.s.weights.length) (hd : 1 ≤ d ∧ d ≤ 2000) (sl pl ll tl lv : Value) (w : World) (hr : RdTr w t sl pl ll tl) (hL : RdI w lv l) :
    CnV Tryz.prog 74 #[trV t sl pl ll tl, lv, vi k, vi d, vi (-1)] w (.bool (noneB t (er3 l) k d)) := by
  have hr0 := hr
  have hd1 := hv.s.d1
  have hd2 := hv.s.d2
  obtain ⟨aw, cw, _, _, rfl, _, _⟩ := hr.ws.open
  refine cnv (vs := [_, _, _, _, _]) Tryz.func74 rfl rfl ?_
  all_goals refine tc_seq fun K1 hK1 => ?_; refine tc_region ?_; refine tl_e (e_box rfl rfl rfl) rfl (fun b5 _ => ?_); refine tl_q (y_assign rfl) rfl ?_; refine tl_nil ?_; ((refine hK1 ?_; try (clear hK1; clear K1)))
  all_goals refine tc_seq fun K2 hK2 => ?_; refine tc_seq fun K3 hK3 => ?_; refine tc_region ?_; refine tl_q (y_move rfl) rfl ?_; refine tl_q (y_geq rfl rfl) rfl ?_; refine tl_nil ?_; ((refine hK3 ?_; try (clear hK3; clear K3)))
  all_goals (
   refine tc_cond rfl (fun hc => ?_) (fun hc => ?_)
   · try simp only [qn1, qn2, qn3, qn4, qn5, qn6, qn7, qn8] at hc
     all_goals ((exfalso; omega))
   · try simp only [qn1, qn2, qn3, qn4, qn5, qn6, qn7, qn8] at hc
     all_goals refine tc_skip ?_; ((refine hK2 ?_; try (clear hK2; clear K2)))
     all_goals refine tc_seq fun K6 hK6 => ?_; refine tc_seq fun K7 hK7 => ?_; refine tc_region ?_; refine tl_q (y_assign rfl) rfl ?_; refine tl_nil ?_; ((refine hK7 ?_; try (clear hK7; clear K7)))
     all_goals refine tc_block ?_
     all_goals (
      refine tc_loop (fun n : Nat => n ≤ (t.s.divisions + 1).toNat ∧ ∀ j : Nat, j < n → canF t (er3 l) k d j = false) (fun n => [(1, lv), (2, vi k), (3, vi d), (5, ptr b5), (12, vi n)]) (fun _ => [(w, [])]) (fun _ => [(b5, .cells (trV t (.slice aw t.s.weights.length cw) pl ll tl).cells 28 (0, 0))]) (fun n => (t.s.divisions + 1).toNat - n) ?_ ?_
      · exact tk_start 0 ⟨Nat.zero_le _, fun j hj => absurd hj (Nat.not_lt_zero j)⟩ (.cons rfl (.cons rfl (.cons rfl (.cons rfl (.cons rfl .nil))))) (fun _ h => h.subl SB.s SB.s)
      · rintro n ⟨hn, hno⟩
        all_goals refine tc_seq fun K8 hK8 => ?_; refine tc_seq fun K9 hK9 => ?_; refine tc_region ?_; refine tl_q (y_move rfl) rfl ?_; refine tl_q (y_field rfl) rfl ?_; refine tl_q (y_field rfl) rfl ?_; refine tl_q (y_load1 rfl (by repeat constructor) (by rfl)) rfl ?_; refine tl_q (y_leq rfl rfl) rfl ?_; refine tl_nil ?_; ((refine hK9 ?_; try (clear hK9; clear K9)))
        all_goals (
         refine tc_cond rfl (fun hc => ?_) (fun hc => ?_)
         · try simp only [qn1, qn2, qn3, qn4, qn5, qn6, qn7, qn8] at hc
           all_goals refine tc_skip ?_; ((refine hK8 ?_; try (clear hK8; clear K8)))
           all_goals refine tc_seq fun K10 hK10 => ?_; refine tc_block ?_; refine tc_seq fun K11 hK11 => ?_; refine tc_region ?_; refine tl_q (y_loadW rfl (by repeat constructor) (by rfl)) rfl ?_; refine tl_q (y_move rfl) rfl ?_; refine tl_q (y_move rfl) rfl ?_; refine tl_q (y_move rfl) rfl ?_; refine tl_q (y_move rfl) rfl ?_; refine tl_e (e_callV rfl (.cons rfl (.cons rfl (.cons rfl (.cons rfl (.cons rfl .nil))))) (fun w' hw' => can9_c t hv l hl k d (n : Nat) hk hd (by omega) _ _ _ _ _ w' (hr0.fr (hw'.fr (w0 := w) (S := []) MI.m)) (hL.fr (hw'.fr (w0 := w) (S := []) MI.m)))) rfl (fun _ _ => ?_); refine tl_nil ?_; ((refine hK11 ?_; try (clear hK11; clear K11)))
           all_goals (
            refine tc_cond rfl (fun hc => ?_) (fun hc => ?_)
            · all_goals (skip)
              all_goals refine tc_seq fun K12 hK12 => ?_; refine tc_region ?_; refine tl_q (y_assign rfl) rfl ?_; refine tl_nil ?_; ((refine hK12 ?_; try (clear hK12; clear K12)))
              all_goals refine tc_ret ?_; (repeat (first | refine tk_then_ret ?_ | refine tk_block_ret ?_))
              all_goals (refine tk_ret rfl rfl (.cons (.tmp rfl) .nil) ?_)
              all_goals (
               refine fun w' hw' => ⟨congrArg (fun b => Ending.returned (Value.bool b)) ?_, hw'.fr (by simp)⟩
               symm
               unfold noneB
               first
               | exact decide_eq_false (shownN_1 (j := n) (by omega) hc)
               | exact decide_eq_true (shownN_0 (fun j hj => hno j (by omega))))
            · all_goals (skip)
              all_goals refine tc_skip ?_; ((refine hK10 ?_; try (clear hK10; clear K10)))
              all_goals refine tc_region ?_; refine tl_q (y_move rfl) rfl ?_; refine tl_q (y_add rfl rfl (by omega)) rfl ?_; refine tl_q (y_assign rfl) rfl ?_; refine tl_nil ?_
              all_goals (
               exact tk_round (n + 1) ⟨by omega, fun j hj => by
                 rcases Nat.lt_succ_iff_lt_or_eq.1 hj with g | rfl
                 · exact hno j g
                 · exact hc⟩ (by omega) (.cons rfl (.cons rfl (.cons rfl (.cons rfl (.cons rfl .nil))))) (fun _ h => h.subl SB.s SB.s)))
         · try simp only [qn1, qn2, qn3, qn4, qn5, qn6, qn7, qn8] at hc
           all_goals refine tc_exit ?_; ((refine hK6 ?_; try (clear hK6; clear K6)))
           all_goals refine tc_seq fun K13 hK13 => ?_; refine tc_region ?_; refine tl_q (y_assign rfl) rfl ?_; refine tl_nil ?_; ((refine hK13 ?_; try (clear hK13; clear K13)))
           all_goals refine tc_ret ?_; (repeat (first | refine tk_then_ret ?_))
           all_goals (refine tk_ret rfl rfl (.cons (.tmp rfl) .nil) ?_)
           all_goals (
            refine fun w' hw' => ⟨congrArg (fun b => Ending.returned (Value.bool b)) ?_, hw'.fr (by simp)⟩
            symm
            unfold noneB
            first
            | exact decide_eq_false (shownN_1 (j := n) (by omega) hc)
            | exact decide_eq_true (shownN_0 (fun j hj => hno j (by omega)))))))
end Go.Sp
/-
  Trials, plainly: the reference's ways; how they lie in memory.
-/
namespace Go.Sp
open Go Go.Proofs
def OKI (w : World) (S : List Nat) (v : Value) (l : List Int) : Prop := RdI w v l ∧ ∀ p m c, v = .slice (some p) m c → p.block < w.heap.size ∧ p.block ∉ S
theorem OKI.step {w w1 : World} {S S' : List Nat} {v : Value} {l : List Int} (h : OKI w S v l) (f : Fr S w w1) (hS : ∀ b ∈ S', b ∈ S ∨ w.heap.size ≤ b) : OKI w1 S' v l :=
  ⟨Reads.frS h.1 f (fun p m c e => (h.2 p m c e).2), fun p m c e => by
    obtain ⟨g1, g2⟩ := h.2 p m c e
    refine ⟨Nat.lt_of_lt_of_le g1 f.size, fun hm => ?_⟩
    rcases hS _ hm with h | h
    · exact g2 h
    · omega⟩
/-- The slices in a list. -/
def OKV (w : World) (S : List Nat) (us : List Value) (ls : List (List Int)) : Prop := us.length = ls.length ∧ ∀ j, j < ls.length → OKI w S (us.getD j (.slice none 0 0)) (ls.getD j [])
theorem OKV.nil {w : World} {S : List Nat} : OKV w S [] [] := ⟨rfl, fun j hj => absurd hj (Nat.not_lt_zero j)⟩
theorem OKV.step {w w1 : World} {S S' : List Nat} {us : List Value} {ls : List (List Int)} (h : OKV w S us ls) (f : Fr S w w1) (hS : ∀ b ∈ S', b ∈ S ∨ w.heap.size ≤ b) : OKV w1 S' us ls := ⟨h.1, fun j hj => (h.2 j hj).step f hS⟩
theorem getD_snoc {α : Type} {l : List α} {x z : α} {j : Nat} : (l ++ [x]).getD j z = if j < l.length then l.getD j z else if j = l.length then x else z := by
  rw [List.getD_eq_getElem?_getD, List.getD_eq_getElem?_getD]
  split
  · rename_i h; rw [List.getElem?_append_left h]
  · rename_i h
    split
    · rename_i h2; rw [h2, List.getElem?_append_right (Nat.le_refl _)]; simp
    · rename_i h2; rw [List.getElem?_eq_none (by simp; omega)]; rfl
theorem OKV.snoc {w : World} {S : List Nat} {us : List Value} {ls : List (List Int)} {v : Value} {l : List Int} (h : OKV w S us ls) (hv : OKI w S v l) : OKV w S (us ++ [v]) (ls ++ [l]) := by
  refine ⟨by simp [h.1], fun j hj => ?_⟩
  rw [getD_snoc, getD_snoc, h.1]
  rw [List.length_append, List.length_singleton] at hj
  split
  · rename_i hj1; exact h.2 j hj1
  · rename_i hj1; rw [if_pos (by omega), if_pos (by omega)]; exact hv
/-- A slice of slices. -/
def OKL (w : World) (S : List Nat) (v : Value) (ls : List (List Int)) : Prop := ∃ us, (Reads w v 1 ls.length us ∧ ∀ p m c, v = .slice (some p) m c → p.block < w.heap.size ∧ p.block ∉ S) ∧ OKV w S us ls
theorem OKL.step {w w1 : World} {S S' : List Nat} {v : Value} {ls : List (List Int)} (h : OKL w S v ls) (f : Fr S w w1) (hS : ∀ b ∈ S', b ∈ S ∨ w.heap.size ≤ b) : OKL w1 S' v ls := by
  obtain ⟨us, ⟨h1, h2⟩, h3⟩ := h
  refine ⟨us, ⟨Reads.frS h1 f (fun p m c e => (h2 p m c e).2), fun p m c e => ?_⟩, h3.step f hS⟩
  obtain ⟨g1, g2⟩ := h2 p m c e
  refine ⟨Nat.lt_of_lt_of_le g1 f.size, fun hm => ?_⟩
  rcases hS _ hm with h | h
  · exact g2 h
  · omega
theorem OKL.rd {w : World} {S : List Nat} {v : Value} {ls : List (List Int)} (h : OKL w S v ls) : RdLL w v ls := by
  obtain ⟨us, ⟨h1, _⟩, h3⟩ := h
  exact ⟨us, h1, fun i hi => (h3.2 i hi).1⟩
theorem OKL.one {w : World} {S : List Nat} {v : Value} {ls : List (List Int)} (h : OKL w S v ls) : v.oneCell' = true := by
  obtain ⟨us, ⟨⟨_, ad, cap, rfl, _⟩, _⟩, _⟩ := h; rfl
abbrev Wy := List Int × List (List Int)
/-- A slice of ways. -/
def RdWs (w : World) (v : Value) (ws : List Wy) : Prop := ∃ us : List (Value × Value), Reads w v 2 ws.length (us.flatMap fun u => [u.1, u.2]) ∧ us.length = ws.length ∧ ∀ i, i < ws.length → RdI w (us.getD i (.nilFunc, .nilFunc)).1 (ws.getD i ([], [])).1 ∧ RdLL w (us.getD i (.nilFunc, .nilFunc)).2 (ws.getD i ([], [])).2
theorem RdWs.nil (w : World) : RdWs w (.slice none 0 0) [] := ⟨[], ⟨rfl, none, 0, rfl, fun h => absurd rfl h⟩, rfl, fun i hi => absurd hi (Nat.not_lt_zero i)⟩
theorem RdLL.frF {w w' : World} {v : Value} {ls : List (List Int)} (h : RdLL w v ls) (f : Fr [] w w') : RdLL w' v ls := by
  obtain ⟨vs, h1, h2⟩ := h
  exact ⟨vs, Reads.frS h1 f (by simp), fun i hi => (h2 i hi).fr f⟩
theorem RdWs.fr {w w' : World} {v : Value} {ws : List Wy} (h : RdWs w v ws) (f : Fr [] w w') : RdWs w' v ws := by
  obtain ⟨us, h1, h2, h3⟩ := h
  exact ⟨us, Reads.frS h1 f (by simp), h2, fun i hi => ⟨(h3 i hi).1.fr f, (h3 i hi).2.frF f⟩⟩
theorem RdWs.open {w : World} {v : Value} {ws : List Wy} (h : RdWs w v ws) : ∃ ad cap b o, ∃ us : List (Value × Value), v = .slice ad ws.length cap ∧ (0 < ws.length → ad = some ⟨b, o, none⟩) ∧ (∀ w', Fr [] w w' → ∀ i, i < ws.length → w'.cell? ⟨b, o + i * 2, none⟩ = some (us.getD i (.nilFunc, .nilFunc)).1 ∧ w'.cell? ⟨b, o + i * 2 + 1, none⟩ = some (us.getD i (.nilFunc, .nilFunc)).2) ∧
    ∀ w', Fr [] w w' → ∀ i, i < ws.length → RdI w' (us.getD i (.nilFunc, .nilFunc)).1 (ws.getD i ([], [])).1 ∧ RdLL w' (us.getD i (.nilFunc, .nilFunc)).2 (ws.getD i ([], [])).2 := by
  obtain ⟨us, h1, h2, h3⟩ := h
  obtain ⟨hl, ad, cap, rfl, hr⟩ := h1
  by_cases hn : ws.length = 0
  · exact ⟨ad, cap, 0, 0, us, rfl, fun h => by omega, fun w' f i hi => by omega, fun w' f i hi => by omega⟩
  · obtain ⟨b, o, rfl, hc⟩ := hr hn
    have hg : ∀ (us : List (Value × Value)) (i : Nat), i < us.length → (us.flatMap fun u => [u.1, u.2])[i * 2]? = some (us.getD i (.nilFunc, .nilFunc)).1 ∧ (us.flatMap fun u => [u.1, u.2])[i * 2 + 1]? = some (us.getD i (.nilFunc, .nilFunc)).2 := fun us => by
      induction us with
      | nil => intro i hi; exact absurd hi (Nat.not_lt_zero i)
      | cons u us ih =>
        intro i hi
        cases i with
        | zero => exact ⟨rfl, rfl⟩
        | succ i =>
          have := ih i (by simpa using hi)
          rw [show (i + 1) * 2 = i * 2 + 2 from by omega]
          exact this
    refine ⟨_, cap, b, o, us, rfl, fun _ => rfl, fun w' f i hi => ?_, fun w' f i hi => ⟨(h3 i hi).1.fr f, (h3 i hi).2.frF f⟩⟩
    have g := hg us i (by omega)
    exact ⟨f.cell (by simp) (hc.get (i * 2) _ g.1), f.cell (by simp) (by have := hc.get (i * 2 + 1) _ g.2; rw [← Nat.add_assoc] at this; exact this)⟩
/-- Ways in the making. -/
def InW (w : World) (S : List Nat) (us : List (Value × Value)) (ws : List Wy) : Prop := us.length = ws.length ∧ ∀ j, j < ws.length → OKI w S (us.getD j (.nilFunc, .nilFunc)).1 (ws.getD j ([], [])).1 ∧ OKL w S (us.getD j (.nilFunc, .nilFunc)).2 (ws.getD j ([], [])).2
theorem InW.nil {w : World} {S : List Nat} : InW w S [] [] := ⟨rfl, fun j hj => absurd hj (Nat.not_lt_zero j)⟩
theorem InW.step {w w1 : World} {S S' : List Nat} {us : List (Value × Value)} {ws : List Wy} (h : InW w S us ws) (f : Fr S w w1) (hS : ∀ b ∈ S', b ∈ S ∨ w.heap.size ≤ b) : InW w1 S' us ws := ⟨h.1, fun j hj => ⟨(h.2 j hj).1.step f hS, (h.2 j hj).2.step f hS⟩⟩
theorem InW.snoc {w : World} {S : List Nat} {us : List (Value × Value)} {ws : List Wy} {ev wv : Value} {x : Wy} (h : InW w S us ws) (h1 : OKI w S ev x.1) (h2 : OKL w S wv x.2) : InW w S (us ++ [(ev, wv)]) (ws ++ [x]) := by
  refine ⟨by simp [h.1], fun j hj => ?_⟩
  rw [getD_snoc, getD_snoc, h.1]
  rw [List.length_append, List.length_singleton] at hj
  split
  · rename_i hj1; exact h.2 j hj1
  · rename_i hj1; rw [if_pos (by omega), if_pos (by omega)]; exact ⟨h1, h2⟩
def flatW (us : List (Value × Value)) : List Value := us.flatMap fun u => [u.1, u.2]
theorem flatW_append (a b : List (Value × Value)) : flatW (a ++ b) = flatW a ++ flatW b := by simp [flatW]
theorem flatW_len (us : List (Value × Value)) : (flatW us).length = us.length * 2 := by
  induction us with
  | nil => rfl
  | cons u us ih => simp [flatW] at ih ⊢; omega
theorem InW.rd {wl : World} {S : List Nat} {us : List (Value × Value)} {ws : List Wy} (h : InW wl S us ws) {bs : List (World × List Nat)} {H : List (Nat × Obj)} {b cap : Nat} {junk : List Value} {e : TypeId} {f : Nat × Nat} {w' : World} (hw : HG bs H w') (hm : HM b (.cells (flatW us ++ junk).toArray e f) H) (fr : Fr S wl w') : RdWs w' (.slice (some ⟨b, 0, none⟩) ws.length cap) ws := by
  have hs := h.step fr (S' := S) (fun b hb => .inl hb)
  refine ⟨us, ⟨by show (flatW us).length = _; rw [flatW_len, h.1], some ⟨b, 0, none⟩, cap, rfl, fun _ => ⟨b, 0, rfl, ?_⟩⟩, h.1, fun i hi => ⟨(hs.2 i hi).1.1, (hs.2 i hi).2.rd⟩⟩
  have := CA_pre (flatW us) junk e f
  rw [flatW_len, h.1] at this
  exact this.cells (hw.heap _ hm.mem)
/-- The numbers of what is so, by bits. -/
def bitsW (p : Nat → Bool) : Nat → Nat
  | 0 => 0
  | n + 1 => if p n = true then bitsW p n ||| 2 ^ n else bitsW p n
theorem bitsW_lt (p : Nat → Bool) : ∀ n, bitsW p n < 2 ^ n
  | 0 => Nat.one_pos
  | n + 1 => by
    have h := bitsW_lt p n
    unfold bitsW
    have h1 : bitsW p n < 2 ^ (n + 1) := Nat.lt_of_lt_of_le h (Nat.pow_le_pow_right (by omega) (by omega))
    split
    · exact Nat.or_lt_two_pow h1 (Nat.pow_lt_pow_right (by omega) (by omega))
    · exact h1
theorem bitsW_bit (p : Nat → Bool) (i : Nat) : ∀ n, (bitsW p n).testBit i = (decide (i < n) && p i)
  | 0 => by simp [bitsW]
  | n + 1 => by
    unfold bitsW
    split
    · rename_i h
      rw [Nat.testBit_or, bitsW_bit p i n, Nat.testBit_two_pow]
      by_cases hin : i = n
      · subst hin; simp [h]
      · have : ¬ n = i := fun e => hin e.symm
        simp only [this, decide_false, Bool.or_false]
        congr 1
        exact decide_eq_decide.2 (by omega)
    · rename_i h
      rw [bitsW_bit p i n]
      by_cases hin : i = n
      · subst hin
        have : p i = false := by simpa using h
        simp [this]
      · congr 1
        exact decide_eq_decide.2 (by omega)
/-- Whether a test of a liquid is wrong in a density. -/
def wrongB (t : Tr) (e : E3) (i : Nat) (d : Int) (j : Nat) : Bool := decide ((t.tests.getD j (0, 0, 0)).1 = i) && !rightF t e (t.tests.getD j (0, 0, 0)) d
def wrongN (t : Tr) (e : E3) (i : Nat) (k : Nat) : List Int := (List.range k).map fun (q : Nat) => ((bitsW (wrongB t e i ((lqAt t i).1 + q)) t.tests.length : Nat) : Int)
theorem wrongN_succ (t : Tr) (e : E3) (i k : Nat) : wrongN t e i (k + 1) = wrongN t e i k ++ [((bitsW (wrongB t e i ((lqAt t i).1 + k)) t.tests.length : Nat) : Int)] := by simp [wrongN, List.range_succ]
theorem wrongN_len (t : Tr) (e : E3) (i k : Nat) : (wrongN t e i k).length = k := by simp [wrongN]
def wrongsN (t : Tr) (e : E3) (n : Nat) : List (List Int) := (List.range n).map fun i => wrongN t e i (lqC t i)
theorem wrongsN_succ (t : Tr) (e : E3) (n : Nat) : wrongsN t e (n + 1) = wrongsN t e n ++ [wrongN t e n (lqC t n)] := by simp [wrongsN, List.range_succ]
theorem wrongsN_len (t : Tr) (e : E3) (n : Nat) : (wrongsN t e n).length = n := by simp [wrongsN]
def wayF (t : Tr) (e : E3) : Wy := (errL t e, wrongsN t e t.liquids.length)
def waysN (t : Tr) (n : Nat) : List Wy := ((everyL t).take n).map (wayF t)
theorem waysN_succ {t : Tr} {n : Nat} (h : n < (everyL t).length) : waysN t (n + 1) = waysN t n ++ [wayF t ((everyL t).getD n (0, 0, 0))] := by
  unfold waysN
  rw [takeT_succ h, List.map_append]; rfl
theorem waysN_len {t : Tr} {n : Nat} (h : n ≤ (everyL t).length) : (waysN t n).length = n := by
  unfold waysN
  rw [List.length_map, List.length_take]; omega
/-- A way is right without some tests. -/
def okW' (x : Wy) (out : Nat) : Bool := x.2.all fun l => l.any fun b => decide (b.toNat &&& out = b.toNat)
theorem okW_den {t : Tr} (hv : VT t) {e : E3} {out : Nat} (ho : out < 2 ^ t.tests.length) : okW' (wayF t e) out = denOk t e (bitsL (out : Int)) := by
  have h6 := hv.t6
  rw [Bool.eq_iff_iff, denOk_iff]
  unfold okW' wayF wrongsN
  dsimp only
  rw [List.all_eq_true]
  constructor
  · intro h i hi
    obtain ⟨b, hb, h2⟩ := List.any_eq_true.1 (h (wrongN t e i (lqC t i)) (List.mem_map.2 ⟨i, List.mem_range.2 hi, rfl⟩))
    unfold wrongN at hb
    obtain ⟨q, hq, rfl⟩ := List.mem_map.1 hb
    rw [decide_eq_true_eq, Int.toNat_natCast] at h2
    rw [List.mem_range] at hq
    have hlq := hv.lqb hi
    unfold lqC at hq
    refine ⟨(lqAt t i).1 + q, dense_memT.2 ⟨by omega, pass_iffT.2 fun j hj => ?_⟩⟩
    by_cases hji : (t.tests.getD j (0, 0, 0)).1 = i
    · right
      by_cases hr : rightF t e (t.tests.getD j (0, 0, 0)) ((lqAt t i).1 + q) = true
      · exact .inr hr
      · left
        have hb : (bitsW (wrongB t e i ((lqAt t i).1 + q)) t.tests.length).testBit j = true := by
          rw [bitsW_bit, decide_eq_true hj, Bool.true_and]
          unfold wrongB
          rw [decide_eq_true hji, Bool.true_and, Bool.not_eq_true']
          simpa using hr
        rw [bitsL_iff (by omega)]
        rw [← h2, Nat.testBit_and, Bool.and_eq_true] at hb
        exact hb.2
    · exact .inl hji
  · intro h l hl
    obtain ⟨i, hi, rfl⟩ := List.mem_map.1 hl
    obtain ⟨d, hd⟩ := h i (List.mem_range.1 hi)
    rw [dense_memT, pass_iffT] at hd
    refine List.any_eq_true.2 ⟨((bitsW (wrongB t e i d) t.tests.length : Nat) : Int), ?_, ?_⟩
    · unfold wrongN
      refine List.mem_map.2 ⟨(d - (lqAt t i).1).toNat, List.mem_range.2 (by unfold lqC; omega), ?_⟩
      rw [show (lqAt t i).1 + ((d - (lqAt t i).1).toNat : Int) = d from by omega]
    · rw [decide_eq_true_eq, Int.toNat_natCast]
      apply Nat.eq_of_testBit_eq
      intro j
      rw [Nat.testBit_and, bitsW_bit]
      by_cases hj : j < t.tests.length
      · rw [decide_eq_true hj, Bool.true_and]
        cases hw : wrongB t e i d j
        · rfl
        · rw [Bool.true_and]
          unfold wrongB at hw
          rw [Bool.and_eq_true, decide_eq_true_eq, Bool.not_eq_true'] at hw
          rcases hd.2 j hj with g | g | g
          · exact absurd hw.1 g
          · exact (bitsL_iff (by omega)).1 g
          · rw [hw.2] at g; cases g
      · rw [decide_eq_false hj, Bool.false_and, Bool.false_and]
end Go.Sp
/-
  TrialShows: the law's function returns true.
-/
namespace Go.Sp
open Go Go.Proofs
theorem fault9_c (t : Tr) (hn : NT t) (sl pl ll tl : Value) (w : World) (hr : RdTr w t sl pl ll tl) : CnV Tryz.prog 20 #[trV t sl pl ll tl] w (vi (chkT t)) := by
  refine cnv (vs := [_]) Tryz.func20 rfl rfl ?_
  all_goals refine tc_seq fun K1 hK1 => ?_; refine tc_region ?_; refine tl_e (e_box rfl rfl rfl) rfl (fun _ _ => ?_); refine tl_q (y_assign rfl) rfl ?_; refine tl_nil ?_; ((refine hK1 ?_; try (clear hK1; clear K1)))
  all_goals refine tc_seq fun K2 hK2 => ?_; refine tc_region ?_; refine tl_q (y_loadW rfl (by repeat constructor) (by rfl)) rfl ?_; refine tl_e (e_callV rfl (.cons rfl .nil) (fun w' hw' => faultT_c t hn sl pl ll tl w' (hr.fr (hw'.fr (by simp))))) rfl (fun _ _ => ?_); refine tl_q (y_assign rfl) rfl ?_; refine tl_nil ?_; ((refine hK2 ?_; try (clear hK2; clear K2)))
  all_goals refine tc_ret ?_; (repeat (first | refine tk_then_ret ?_))
  all_goals (refine tk_ret rfl rfl (.cons (.tmp rfl) .nil) ?_)
  all_goals (
   exact fun w' hw' => ⟨rfl, hw'.fr (by simp)⟩)
theorem areErrors_c (t : Tr) (hv : VT t) (l : List Int) (hl : (l.length : Int) ≤ 9000000000000000000) (sl pl ll tl lv : Value) (w : World) (hp : RdI w pl t.parts) (hL : RdI w lv l) : CnV Tryz.prog 22 #[trV t sl pl ll tl, lv] w (.bool (errB t l)) := by
  have hw0 := hv.w
  obtain ⟨ap, cp, _, _, rfl, _, _⟩ := hp.open
  obtain ⟨ad, cap, b0, o, rfl, had, hcell⟩ := hL.open
  refine cnv (vs := [_, _]) Tryz.func22 rfl rfl ?_
  all_goals refine tc_seq fun K1 hK1 => ?_; refine tc_region ?_; refine tl_e (e_box rfl rfl rfl) rfl (fun b2 _ => ?_); refine tl_q (y_assign rfl) rfl ?_; refine tl_nil ?_; ((refine hK1 ?_; try (clear hK1; clear K1)))
  all_goals refine tc_seq fun K2 hK2 => ?_; refine tc_seq fun K3 hK3 => ?_; refine tc_region ?_; refine tl_q (y_assign rfl) rfl ?_; refine tl_nil ?_; ((refine hK3 ?_; try (clear hK3; clear K3)))
  all_goals refine tc_block ?_
  all_goals (
   refine tc_loop (fun n : Nat => n ≤ l.length ∧ ∀ j : Nat, j < n → -t.worst ≤ l.getD j 0 ∧ l.getD j 0 ≤ t.worst) (fun n => [(1, .slice ad l.length cap), (2, ptr b2), (5, vi n)]) (fun _ => [(w, [])]) (fun _ => [(b2, .cells (trV t sl (.slice ap t.parts.length cp) ll tl).cells 28 (0, 0))]) (fun n => l.length - n) ?_ ?_
   · exact tk_start 0 ⟨Nat.zero_le _, fun j hj => absurd hj (Nat.not_lt_zero j)⟩ (.cons rfl (.cons rfl (.cons rfl .nil))) (fun _ h => h)
   · rintro n ⟨hn, hI⟩
     all_goals refine tc_seq fun K4 hK4 => ?_; refine tc_seq fun K5 hK5 => ?_; refine tc_region ?_; refine tl_q (y_move rfl) rfl ?_; refine tl_q (y_move rfl) rfl ?_; refine tl_q (y_len rfl) rfl ?_; refine tl_q (y_lss rfl rfl) rfl ?_; refine tl_nil ?_; ((refine hK5 ?_; try (clear hK5; clear K5)))
     all_goals (
      refine tc_cond rfl (fun hc => ?_) (fun hc => ?_)
      · try simp only [qn1, qn2, qn3, qn4, qn5, qn6, qn7, qn8] at hc
        all_goals refine tc_skip ?_; ((refine hK4 ?_; try (clear hK4; clear K4)))
        all_goals refine tc_seq fun K6 hK6 => ?_; refine tc_block ?_; refine tc_seq fun K7 hK7 => ?_; have had' := had (by omega)
        all_goals refine tc_draw (by kernel_rfl) ?_; refine tx_p 0 rfl (by kernel_rfl) (y_move rfl) rfl (fun _ _ _ h => h) (fun _ h => h) ?_; refine tx_p 1 rfl (by kernel_rfl) (y_move rfl) rfl (fun _ _ _ h => h) (fun _ h => h) ?_; refine tx_p 2 rfl (by kernel_rfl) (y_index rfl rfl (by omega) had') rfl (fun _ _ _ h => h) (fun _ h => h) ?_; ((refine tx_q 3 rfl (by kernel_rfl) (y_load1o (v := vi (l.getD n 0)) rfl (fun w' hw' => by rw [show Int.toNat (n : Int) * 1 = n from by omega]; exact hcell w' (hw'.fr (w0 := w) (S := []) MI.m) n (by omega))) rfl (fun _ _ _ h => h) (fun _ h => h) ?_))
        all_goals refine tx_p 4 rfl (by kernel_rfl) (y_field rfl) rfl (fun _ _ _ h => h) (fun _ h => h) ?_; refine tx_q 5 rfl (by kernel_rfl) (y_load1 rfl (by repeat constructor) (by rfl)) rfl (fun _ _ _ h => h) (fun _ h => h) ?_; refine tx_p 6 rfl (by kernel_rfl) (y_neg rfl (by omega)) rfl (fun _ _ _ h => h) (fun _ h => h) ?_; refine tx_p 7 rfl (by kernel_rfl) (y_field rfl) rfl (fun _ _ _ h => h) (fun _ h => h) ?_; refine tx_q 8 rfl (by kernel_rfl) (y_load1 rfl (by repeat constructor) (by rfl)) rfl (fun _ _ _ h => h) (fun _ h => h) ?_; refine tx_e 9 rfl (by kernel_rfl) rfl (e_callV rfl (.cons rfl (.cons rfl (.cons rfl .nil))) (fun w' _ => in_c _ _ _ w')) (.inr fun _ _ h => h) (fun _ _ => ?_); refine tx_p 10 rfl (by kernel_rfl) (y_not_dec rfl) rfl (fun _ _ _ h => h) (fun _ h => h) ?_; refine tx_done (by kernel_rfl) ?_; ((refine hK7 ?_; try (clear hK7; clear K7)))
        all_goals (
         refine tc_cond rfl (fun hc => ?_) (fun hc => ?_)
         · try simp only [qn1, qn2, qn3, qn4, qn5, qn6, qn7, qn8] at hc
           all_goals refine tc_seq fun K8 hK8 => ?_; refine tc_region ?_; refine tl_q (y_assign rfl) rfl ?_; refine tl_nil ?_; ((refine hK8 ?_; try (clear hK8; clear K8)))
           all_goals refine tc_ret ?_; (repeat (first | refine tk_then_ret ?_ | refine tk_block_ret ?_))
           all_goals (refine tk_ret rfl rfl (.cons (.tmp rfl) .nil) ?_)
           all_goals (
            refine fun w' hw' => ⟨congrArg (fun b => Ending.returned (Value.bool b)) ?_, hw'.fr (by simp)⟩
            unfold errB
            first
            | (have hf : (l.all fun n => decide (-t.worst ≤ n ∧ n ≤ t.worst)) = false := List.all_eq_false.2 ⟨l.getD n 0, by rw [List.getD_eq_getElem?_getD, List.getElem?_eq_getElem (by omega)]; exact List.getElem_mem _, by rw [decide_eq_true_eq]; exact hc⟩
               rw [hf, Bool.and_false])
            | (have hf : (l.all fun n => decide (-t.worst ≤ n ∧ n ≤ t.worst)) = true := List.all_eq_true.2 (fun x hx => by
                 obtain ⟨j, hj, rfl⟩ := List.getElem_of_mem hx
                 have := hI j (by omega)
                 rw [List.getD_eq_getElem?_getD, List.getElem?_eq_getElem hj] at this
                 exact decide_eq_true this)
               rw [hf, Bool.and_true]
               exact decide_eq_decide.2 (by omega)))
         · try simp only [qn1, qn2, qn3, qn4, qn5, qn6, qn7, qn8] at hc
           all_goals refine tc_skip ?_; ((refine hK6 ?_; try (clear hK6; clear K6)))
           all_goals refine tc_region ?_; refine tl_q (y_move rfl) rfl ?_; refine tl_q (y_add rfl rfl (by omega)) rfl ?_; refine tl_q (y_assign rfl) rfl ?_; refine tl_nil ?_
           all_goals (
            exact tk_round (n + 1) ⟨by omega, fun j hj => by
              rcases Nat.lt_succ_iff_lt_or_eq.1 hj with g | rfl
              · exact hI j g
              · exact hc⟩ (by omega) (.cons rfl (.cons rfl (.cons rfl .nil))) (fun _ h => h.subl SB.s SB.s)))
      · try simp only [qn1, qn2, qn3, qn4, qn5, qn6, qn7, qn8] at hc
        all_goals refine tc_exit ?_; ((refine hK2 ?_; try (clear hK2; clear K2)))
        all_goals refine tc_seq fun K9 hK9 => ?_; refine tc_region ?_; refine tl_q (y_move rfl) rfl ?_; refine tl_q (y_len rfl) rfl ?_; refine tl_q (y_field rfl) rfl ?_; refine tl_q (y_load1 rfl (by repeat constructor) (by rfl)) rfl ?_; refine tl_q (y_len rfl) rfl ?_; refine tl_q (y_eql rfl rfl) rfl ?_; refine tl_q (y_assign rfl) rfl ?_; refine tl_nil ?_; ((refine hK9 ?_; try (clear hK9; clear K9)))
        all_goals refine tc_ret ?_; (repeat (first | refine tk_then_ret ?_))
        all_goals (refine tk_ret rfl rfl (.cons (.tmp rfl) .nil) ?_)
        all_goals (
         refine fun w' hw' => ⟨congrArg (fun b => Ending.returned (Value.bool b)) ?_, hw'.fr (by simp)⟩
         unfold errB
         first
         | (have hf : (l.all fun n => decide (-t.worst ≤ n ∧ n ≤ t.worst)) = false := List.all_eq_false.2 ⟨l.getD n 0, by rw [List.getD_eq_getElem?_getD, List.getElem?_eq_getElem (by omega)]; exact List.getElem_mem _, by rw [decide_eq_true_eq]; exact hc⟩
            rw [hf, Bool.and_false])
         | (have hf : (l.all fun n => decide (-t.worst ≤ n ∧ n ≤ t.worst)) = true := List.all_eq_true.2 (fun x hx => by
              obtain ⟨j, hj, rfl⟩ := List.getElem_of_mem hx
              have := hI j (by omega)
              rw [List.getD_eq_getElem?_getD, List.getElem?_eq_getElem hj] at this
              exact decide_eq_true this)
            rw [hf, Bool.and_true]
            exact decide_eq_decide.2 (by omega)))))
end Go.Sp
/-
  The reference of trials: how many lists of errors; the one with a number; which trials are few.
-/
namespace Go.Sp
open Go Go.Proofs
def powI (W : Int) (n : Nat) : Int := (2 * W + 1) ^ n
theorem powI_bd : ∀ W : Fin 4, ∀ n : Fin 4, 1 ≤ powI W.1 n.1 ∧ powI W.1 n.1 ≤ 343 := by decide +kernel
theorem powI_succ (W : Int) (n : Nat) : powI W (n + 1) = powI W n * (2 * W + 1) := Int.pow_succ _ _
theorem many_e {t : Tr} (hv : VT t) : powI t.worst t.parts.length = ((everyL t).length : Int) := by
  have hw := hv.w
  unfold everyL cntE powI
  rw [List.length_map, List.length_range, Int.natCast_pow]
  congr 1
  omega
theorem many_c (t : Tr) (hv : VT t) (sl pl ll tl : Value) (w : World) (hr : RdTr w t sl pl ll tl) : CnV Tryz.prog 75 #[trV t sl pl ll tl] w (vi ((everyL t).length : Int)) := by
  have hp1 := hv.p1
  have hp3 := hv.p3
  have hwo := hv.w
  have hme := many_e hv
  have hbd : ∀ n : Nat, n ≤ t.parts.length → 1 ≤ powI t.worst n ∧ powI t.worst n ≤ 343 := fun n hn => by
    have := powI_bd ⟨t.worst.toNat, by omega⟩ ⟨n, by omega⟩
    rw [show ((t.worst.toNat : Nat) : Int) = t.worst from by omega] at this
    exact this
  obtain ⟨ap, cp, _, _, rfl, _, _⟩ := hr.ps.open
  refine cnv (vs := [_]) Tryz.func75 rfl rfl ?_
  all_goals refine tc_seq fun K1 hK1 => ?_; refine tc_region ?_; refine tl_e (e_box rfl rfl rfl) rfl (fun b1 _ => ?_); refine tl_q (y_assign rfl) rfl ?_; refine tl_nil ?_; ((refine hK1 ?_; try (clear hK1; clear K1)))
  all_goals refine tc_seq fun K2 hK2 => ?_; refine tc_region ?_; refine tl_q (y_assign rfl) rfl ?_; refine tl_nil ?_; ((refine hK2 ?_; try (clear hK2; clear K2)))
  all_goals refine tc_seq fun K3 hK3 => ?_; refine tc_seq fun K4 hK4 => ?_; refine tc_region ?_; refine tl_q (y_assign rfl) rfl ?_; refine tl_nil ?_; ((refine hK4 ?_; try (clear hK4; clear K4)))
  all_goals refine tc_block ?_
  all_goals (
   refine tc_loop (fun n : Nat => n ≤ t.parts.length) (fun n => [(1, ptr b1), (3, vi (powI t.worst n)), (4, vi n)]) (fun _ => [(w, [])]) (fun _ => [(b1, .cells (trV t sl (.slice ap t.parts.length cp) ll tl).cells 28 (0, 0))]) (fun n => t.parts.length - n) ?_ ?_
   · exact tk_start 0 (Nat.zero_le _) (.cons rfl (.cons (by rw [show powI t.worst 0 = 1 from Int.pow_zero _]; rfl) (.cons rfl .nil))) (fun _ h => h.subl SB.s SB.s)
   · rintro n hn
     have hb := hbd n hn
     all_goals refine tc_seq fun K5 hK5 => ?_; refine tc_seq fun K6 hK6 => ?_; refine tc_region ?_; refine tl_q (y_move rfl) rfl ?_; refine tl_q (y_field rfl) rfl ?_; refine tl_q (y_load1 rfl (by repeat constructor) (by rfl)) rfl ?_; refine tl_q (y_len rfl) rfl ?_; refine tl_q (y_lss rfl rfl) rfl ?_; refine tl_nil ?_; ((refine hK6 ?_; try (clear hK6; clear K6)))
     all_goals (
      refine tc_cond rfl (fun hc => ?_) (fun hc => ?_)
      · try simp only [qn1, qn2, qn3, qn4, qn5, qn6, qn7, qn8] at hc
        all_goals refine tc_skip ?_; ((refine hK5 ?_; try (clear hK5; clear K5)))
        all_goals refine tc_seq fun K7 hK7 => ?_; refine tc_block ?_; ((have hb2 := hbd (n + 1) (by omega); have hsu := powI_succ t.worst n; rw [hsu] at hb2))
        all_goals refine tc_region ?_; refine tl_q (y_move rfl) rfl ?_; refine tl_q (y_field rfl) rfl ?_; refine tl_q (y_load1 rfl (by repeat constructor) (by rfl)) rfl ?_; refine tl_q (y_mul rfl rfl (by omega)) rfl ?_; refine tl_q (y_add rfl rfl (by omega)) rfl ?_; refine tl_q (y_mul rfl rfl (by omega)) rfl ?_; refine tl_q (y_assign rfl) rfl ?_; refine tl_nil ?_; ((refine hK7 ?_; try (clear hK7; clear K7)))
        all_goals refine tc_region ?_; refine tl_q (y_move rfl) rfl ?_; refine tl_q (y_add rfl rfl (by omega)) rfl ?_; refine tl_q (y_assign rfl) rfl ?_; refine tl_nil ?_
        all_goals (
         exact tk_round (n + 1) (by omega) (by omega) (.cons rfl (.cons (by rw [hsu]; rfl) (.cons rfl .nil))) (fun _ h => h.subl SB.s SB.s))
      · try simp only [qn1, qn2, qn3, qn4, qn5, qn6, qn7, qn8] at hc
        all_goals refine tc_exit ?_; ((refine hK3 ?_; try (clear hK3; clear K3)))
        all_goals refine tc_seq fun K8 hK8 => ?_; refine tc_region ?_; refine tl_q (y_move rfl) rfl ?_; refine tl_q (y_assign rfl) rfl ?_; refine tl_nil ?_; ((refine hK8 ?_; try (clear hK8; clear K8)))
        all_goals refine tc_ret ?_; (repeat (first | refine tk_then_ret ?_))
        all_goals (refine tk_ret rfl rfl (.cons (.tmp rfl) .nil) ?_)
        all_goals (
         refine fun w' hw' => ⟨?_, hw'.fr (w0 := w) (S := []) MI.m⟩
         have hnn : n = t.parts.length := by omega
         subst hnn
         rw [hme]; rfl)))
def qdI (W : Int) (k : Int) : Nat → Int
  | 0 => k
  | n + 1 => qdI W k n / (2 * W + 1)
theorem qdI_bd {W k : Int} (hW : 0 ≤ W) (hk : 0 ≤ k) : ∀ n, 0 ≤ qdI W k n ∧ qdI W k n ≤ k
  | 0 => ⟨hk, Int.le_refl _⟩
  | n + 1 => by
    have h := qdI_bd hW hk n
    unfold qdI
    exact ⟨Int.ediv_nonneg h.1 (by omega), Int.le_trans (Int.ediv_le_self _ h.1) h.2⟩
def nthI (W : Int) (k : Int) (n : Nat) : List Int := (List.range n).map fun i => qdI W k i % (2 * W + 1) - W
theorem nthI_succ (W k : Int) (n : Nat) : nthI W k (n + 1) = nthI W k n ++ [qdI W k n % (2 * W + 1) - W] := by simp [nthI, List.range_succ]
theorem nthI_len (W k : Int) (n : Nat) : (nthI W k n).length = n := by simp [nthI]
theorem nthI_e {t : Tr} (hv : VT t) {k : Nat} (hk : k < (everyL t).length) : nthI t.worst k t.parts.length = errL t ((everyL t).getD k (0, 0, 0)) := by
  have hw := hv.w
  have hp1 := hv.p1
  have hp3 := hv.p3
  obtain ⟨W, hW⟩ : ∃ W : Nat, t.worst = W := ⟨t.worst.toNat, by omega⟩
  have hg : (everyL t).getD k (0, 0, 0) = nth3 W t.parts.length k := by
    unfold everyL at hk ⊢
    rw [List.length_map, List.length_range] at hk
    rw [List.getD_eq_getElem?_getD, List.getElem?_map, List.getElem?_range hk, hW]
    simp
  rw [hg]
  unfold errL nthI
  refine List.map_congr_left fun i hi => ?_
  rw [List.mem_range] at hi
  rw [hW]
  have e : ∀ x : Nat, ((x % (2 * W + 1) : Nat) : Int) = (x : Int) % (2 * (W : Int) + 1) := fun x => by rw [Int.natCast_emod]; rfl
  have e2 : ∀ x : Nat, ((x / (2 * W + 1) : Nat) : Int) = (x : Int) / (2 * (W : Int) + 1) := fun x => by rw [Int.natCast_ediv]; rfl
  rcases (by omega : i = 0 ∨ i = 1 ∨ i = 2) with rfl | rfl | rfl
  · unfold get3 nth3
    rw [if_pos rfl]
    dsimp only
    rw [e]; rfl
  · unfold get3 nth3
    rw [if_neg (by omega), if_pos rfl]
    dsimp only
    rw [if_pos (by omega), e, e2]; rfl
  · unfold get3 nth3
    rw [if_neg (by omega), if_neg (by omega)]
    dsimp only
    rw [if_pos (by omega), e, e2, e2]; rfl
theorem nth_c (t : Tr) (hv : VT t) (k : Nat) (hk : k < (everyL t).length) (sl pl ll tl : Value) (w : World) (hr : RdTr w t sl pl ll tl) :
    CnX Tryz.prog 133 #[trV t sl pl ll tl, vi k] w [] (slV t.parts.length) (fun y w' => RdI w' (slV t.parts.length y) (errL t ((everyL t).getD k (0, 0, 0))) ∧ NewS w (slV t.parts.length y)) := by
  have hp1 := hv.p1
  have hp3 := hv.p3
  have hwo := hv.w
  have hel := every_len hv
  have hne := nthI_e hv hk
  obtain ⟨ap, cp, _, _, rfl, _, _⟩ := hr.ps.open
  refine cnx0 (vs := [_, _]) Tryz.func133 rfl rfl ?_
  all_goals refine tc_seq fun K1 hK1 => ?_; refine tc_region ?_; refine tl_e (e_box rfl rfl rfl) rfl (fun b2 _ => ?_); refine tl_q (y_assign rfl) rfl ?_; refine tl_nil ?_; ((refine hK1 ?_; try (clear hK1; clear K1)))
  all_goals refine tc_seq fun K2 hK2 => ?_; refine tc_region ?_; refine tl_q (y_assign rfl) rfl ?_; refine tl_nil ?_; ((refine hK2 ?_; try (clear hK2; clear K2)))
  all_goals refine tc_seq fun K3 hK3 => ?_; refine tc_seq fun K4 hK4 => ?_; refine tc_region ?_; refine tl_q (y_assign rfl) rfl ?_; refine tl_nil ?_; ((refine hK4 ?_; try (clear hK4; clear K4)))
  all_goals refine tc_block ?_
  all_goals (
   refine tc_loop (fun p : Nat × Option (Nat × Nat × List Value) => p.1 ≤ t.parts.length ∧ outOk (p.1, p.2)) (fun p => [(1, vi (qdI t.worst k p.1)), (2, ptr b2), (5, outV' (p.1, p.2)), (6, vi p.1)]) (fun _ => [(w, [])]) (fun p => slH 3 ((nthI t.worst k p.1).map vi) p.2 ++ [(b2, .cells (trV t sl (.slice ap t.parts.length cp) ll tl).cells 28 (0, 0))]) (fun p => t.parts.length - p.1) ?_ ?_
   · exact tk_start (0, none) ⟨Nat.zero_le _, rfl⟩ (.cons rfl (.cons rfl (.cons rfl (.cons rfl .nil)))) (fun _ h => h.subl SB.s SB.s)
   · rintro ⟨n, oo⟩ ⟨hn, hok⟩
     have hqb := qdI_bd hwo.1 (show 0 ≤ (k : Int) by omega) n
     have hm1 := Int.emod_nonneg (qdI t.worst k n) (show 2 * t.worst + 1 ≠ 0 by omega)
     have hm2 := Int.emod_lt_of_pos (qdI t.worst k n) (show 0 < 2 * t.worst + 1 by omega)
     rcases oo with _ | ⟨bo, cap, junk⟩
     all_goals ((dsimp only [outOk] at hn hok ⊢; dsimp only [slH_none, slH_some, List.cons_append, List.nil_append, outV']))
     all_goals refine tc_seq fun K5 hK5 => ?_; refine tc_seq fun K6 hK6 => ?_; refine tc_region ?_; refine tl_q (y_move rfl) rfl ?_; refine tl_q (y_field rfl) rfl ?_; refine tl_q (y_load1 rfl (by repeat constructor) (by rfl)) rfl ?_; refine tl_q (y_len rfl) rfl ?_; refine tl_q (y_lss rfl rfl) rfl ?_; refine tl_nil ?_; ((refine hK6 ?_; try (clear hK6; clear K6)))
     all_goals (
      refine tc_cond rfl (fun hc => ?_) (fun hc => ?_)
      · try simp only [qn1, qn2, qn3, qn4, qn5, qn6, qn7, qn8] at hc
        all_goals refine tc_skip ?_; ((refine hK5 ?_; try (clear hK5; clear K5)))
        all_goals refine tc_seq fun K7 hK7 => ?_; refine tc_block ?_; refine tc_seq fun K8 hK8 => ?_; refine tc_drawS ([(b2, .cells (trV t sl (.slice ap t.parts.length cp) ll tl).cells 28 (0, 0))]) (by kernel_rfl) ?_; refine tx_p 0 rfl (by kernel_rfl) (y_move rfl) rfl (fun _ _ _ h => h) (fun _ h => h.subl SB.s SB.s) ?_; refine tx_p 1 rfl (by kernel_rfl) (y_move rfl) rfl (fun _ _ _ h => h) (fun _ h => h.subl SB.s SB.s) ?_; refine tx_p 2 rfl (by kernel_rfl) (y_field rfl) rfl (fun _ _ _ h => h) (fun _ h => h.subl SB.s SB.s) ?_; refine tx_qS 3 rfl (by kernel_rfl) (y_load1 rfl (by repeat constructor) (by rfl)) rfl (fun _ _ _ h => h) (fun _ h => h.subl SB.s SB.s) ?_; refine tx_p 4 rfl (by kernel_rfl) (y_mul rfl rfl (by omega)) rfl (fun _ _ _ h => h) (fun _ h => h.subl SB.s SB.s) ?_; refine tx_p 5 rfl (by kernel_rfl) (y_add rfl rfl (by omega)) rfl (fun _ _ _ h => h) (fun _ h => h.subl SB.s SB.s) ?_; refine tx_p 6 rfl (by kernel_rfl) (y_rem rfl rfl (by omega) (by omega)) rfl (fun _ _ _ h => h) (fun _ h => h.subl SB.s SB.s) ?_; refine tx_p 7 rfl (by kernel_rfl) (y_field rfl) rfl (fun _ _ _ h => h) (fun _ h => h.subl SB.s SB.s) ?_; refine tx_qS 8 rfl (by kernel_rfl) (y_load1 rfl (by repeat constructor) (by rfl)) rfl (fun _ _ _ h => h) (fun _ h => h.subl SB.s SB.s) ?_; refine tx_p 9 rfl (by kernel_rfl) (y_sub rfl rfl (by omega)) rfl (fun _ _ _ h => h) (fun _ h => h.subl SB.s SB.s) ?_; (refine tx_single 10 (by kernel_rfl) (to_e rfl rfl (e_bslice rfl (by (repeat (first | exact .nil | apply PV.one rfl rfl)); done) rfl rfl) (.inr ⟨fun _ _ h => h.subl SB.s SB.s, fun _ h => h⟩) (fun _ _ => ?_)))
        all_goals ((first | refine tx_single 11 (by kernel_rfl) (to_e rfl rfl (e_append_own (old := (nthI t.worst k n).map vi) (junk := junk) rfl rfl rfl (by repeat constructor) (by rw [List.length_map, nthI_len]; omega) (by omega) hok.1 (fun w' hw' => RdI.own0 (xs := [qdI t.worst k n % (2 * t.worst + 1) - t.worst]) hw' (by repeat constructor)) (fun u hu => by obtain ⟨_, _, rfl⟩ := List.mem_map.1 hu; rfl) (by simp only [List.length_cons, List.length_nil]; omega) rfl) (.inr ⟨fun _ _ h => h.subl SB.s SB.s, fun _ h => h⟩) (fun y hy => ?_)) | refine tx_single 11 (by kernel_rfl) (to_e rfl rfl (e_append_nil rfl rfl rfl (fun w' hw' => RdI.own0 (xs := [qdI t.worst k n % (2 * t.worst + 1) - t.worst]) hw' (by repeat constructor)) (fun u hu => by obtain ⟨_, _, rfl⟩ := List.mem_map.1 hu; rfl) Nat.zero_lt_one (Nat.le_of_ble_eq_true rfl) rfl) (.inr ⟨fun _ _ h => h.subl SB.s SB.s, fun _ h => h⟩) (fun y hy => ?_))))
        all_goals refine tx_p 12 rfl (by kernel_rfl) (y_assign rfl) rfl (fun _ _ _ h => h) (fun _ h => h.subl SB.s SB.s) ?_; refine tx_done (by kernel_rfl) ?_; ((refine hK8 ?_; try (clear hK8; clear K8)))
        all_goals refine tc_region ?_; refine tl_q (y_move rfl) rfl ?_; refine tl_q (y_field rfl) rfl ?_; refine tl_q (y_load1 rfl (by repeat constructor) (by rfl)) rfl ?_; refine tl_q (y_mul rfl rfl (by omega)) rfl ?_; refine tl_q (y_add rfl rfl (by omega)) rfl ?_; refine tl_q (y_quo rfl rfl (by omega) (by omega)) rfl ?_; refine tl_q (y_assign rfl) rfl ?_; refine tl_nil ?_; ((refine hK7 ?_; try (clear hK7; clear K7)))
        all_goals refine tc_region ?_; refine tl_q (y_move rfl) rfl ?_; refine tl_q (y_add rfl rfl (by omega)) rfl ?_; refine tl_q (y_assign rfl) rfl ?_; refine tl_nil ?_
        all_goals (
         have hs2 := nthI_succ t.worst k n
         refine tk_round (n + 1, some (y.1, y.2.1, y.2.2)) ⟨by dsimp only; omega, ?_⟩ (by dsimp only; omega) (.cons rfl (.cons rfl (.cons ?_ (.cons rfl .nil)))) (fun _ h => ?_)
         · dsimp only [outOk]; simp only [List.length_cons, List.length_nil] at hy ⊢; omega
         · dsimp only [outV']; first | rfl | (rw [show n = 0 from hok]; rfl)
         · dsimp only [slH_some, List.cons_append, List.nil_append]; rw [hs2, List.map_append]
           try rw [show nthI t.worst k n = [] from List.eq_nil_of_length_eq_zero (by rw [nthI_len]; exact hok), List.map_nil, List.nil_append]
           exact h.subl SB.s SB.s)
      · try simp only [qn1, qn2, qn3, qn4, qn5, qn6, qn7, qn8] at hc
        all_goals ((first | (exfalso; omega) | skip))
        all_goals refine tc_exit ?_; ((refine hK3 ?_; try (clear hK3; clear K3)))
        all_goals refine tc_seq fun K9 hK9 => ?_; (have hnl : n = t.parts.length := by omega)
        all_goals subst hnl
        all_goals refine tc_region ?_; refine tl_q (y_move rfl) rfl ?_; refine tl_q (y_assign rfl) rfl ?_; refine tl_nil ?_; ((refine hK9 ?_; try (clear hK9; clear K9)))
        all_goals refine tc_ret ?_; (repeat (first | refine tk_then_ret ?_))
        all_goals (refine tk_ret rfl rfl (.cons (.tmp rfl) .nil) ?_)
        all_goals (
         refine fun w' hw' => ⟨(some ⟨bo, 0, none⟩, cap), rfl, hw'.fr (w0 := w) (S := []) MI.m, ?_, NewS.own hw' (b := bo) (by repeat constructor) (by simp)⟩
         have := RdI.own (xs := nthI t.worst k t.parts.length) (cap := cap) (junk := junk) hw' (b := bo) (by repeat constructor)
         rw [nthI_len, hne] at this
         exact this)))
/-- Few lists of errors, and narrow liquids; or invalid. -/
def lqsB (t : Tr) : Bool := (List.range t.liquids.length).all fun i => decide ((lqAt t i).2 - (lqAt t i).1 ≤ 14)
def fewV (t : Tr) (m : Int) : Bool := decide (thin9P t) && (decide (¬ chkT t = 0) || (lqsB t && decide (((everyL t).length : Int) ≤ m)))
theorem few_ok {t : Tr} {m : Int} (h : fewV t m = true) : thin9P t ∧ (chkT t = 0 → (∀ i : Nat, i < t.liquids.length → (lqAt t i).2 - (lqAt t i).1 ≤ 14) ∧ ((everyL t).length : Int) ≤ m) := by
  unfold fewV lqsB at h
  rw [Bool.and_eq_true, decide_eq_true_eq, Bool.or_eq_true, decide_eq_true_eq, Bool.and_eq_true, decide_eq_true_eq, List.all_eq_true] at h
  refine ⟨h.1, fun hc => ?_⟩
  have := h.2.resolve_left (fun g => g hc)
  exact ⟨fun i hi => of_decide_eq_true (this.1 i (List.mem_range.2 hi)), this.2⟩
theorem few_c (t : Tr) (m : Int) (sl pl ll tl : Value) (w : World) (hr : RdTr w t sl pl ll tl) : CnV Tryz.prog 26 #[trV t sl pl ll tl, vi m] w (.bool (fewV t m)) := by
  have hr0 := hr
  obtain ⟨aw, cw, _, _, rfl, _, _⟩ := hr.ws.open
  obtain ⟨ap, cp, _, _, rfl, _, _⟩ := hr.ps.open
  obtain ⟨aL, cL, bL, oL, rfl, hadL, hcL⟩ := hr.ls.open
  obtain ⟨at', ct, _, _, rfl, _, _⟩ := hr.ts.open
  refine cnv (vs := [_, _]) Tryz.func26 rfl rfl ?_
  all_goals refine tc_seq fun K1 hK1 => ?_; refine tc_region ?_; refine tl_e (e_box rfl rfl rfl) rfl (fun b2 _ => ?_); refine tl_q (y_assign rfl) rfl ?_; refine tl_nil ?_; ((refine hK1 ?_; try (clear hK1; clear K1)))
  all_goals refine tc_seq fun K2 hK2 => ?_; refine tc_seq fun K3 hK3 => ?_; refine tc_region ?_; refine tl_q (y_loadW rfl (by repeat constructor) (by rfl)) rfl ?_; refine tl_e (e_callV rfl (.cons rfl .nil) (fun w' hw' => thin9_c t _ _ _ _ w' (hr0.fr (hw'.fr (w0 := w) (S := []) MI.m)))) rfl (fun _ _ => ?_); refine tl_q (y_not_dec rfl) rfl ?_; refine tl_nil ?_; ((refine hK3 ?_; try (clear hK3; clear K3)))
  all_goals (
   refine tc_cond rfl (fun hc => ?_) (fun hc => ?_)
   · try simp only [qn1, qn2, qn3, qn4, qn5, qn6, qn7, qn8] at hc
     all_goals refine tc_seq fun K4 hK4 => ?_; refine tc_region ?_; refine tl_q (y_assign rfl) rfl ?_; refine tl_nil ?_; ((refine hK4 ?_; try (clear hK4; clear K4)))
     all_goals refine tc_ret ?_; (repeat (refine tk_then_ret ?_))
     all_goals (refine tk_ret rfl rfl (.cons (.tmp rfl) .nil) ?_)
     all_goals (
      refine fun w' hw' => ⟨congrArg (fun b => Ending.returned (Value.bool b)) ?_, hw'.fr (w0 := w) (S := []) MI.m⟩
      symm
      unfold fewV
      first
      | (rw [decide_eq_false (by assumption : ¬ thin9P t)]; rfl)
      | (rw [decide_eq_true (by assumption : thin9P t), decide_eq_true (show ¬ chkT t = 0 by omega)]; rfl)
      | (have hlf : lqsB t = false := List.all_eq_false.2 ⟨n, List.mem_range.2 (by omega), by rw [decide_eq_true_eq]; omega⟩
         rw [decide_eq_true (by assumption : thin9P t), decide_eq_false (show ¬ ¬ chkT t = 0 by omega), hlf]; rfl)
      | (have hlt : lqsB t = true := List.all_eq_true.2 (fun i hi => decide_eq_true (hI i (by have := List.mem_range.1 hi; omega)))
         rw [decide_eq_true (by assumption : thin9P t), decide_eq_false (show ¬ ¬ chkT t = 0 by omega), hlt]; rfl))
   · try simp only [qn1, qn2, qn3, qn4, qn5, qn6, qn7, qn8] at hc
     all_goals refine tc_skip ?_; ((refine hK2 ?_; try (clear hK2; clear K2)))
     all_goals refine tc_seq fun K5 hK5 => ?_; refine tc_seq fun K6 hK6 => ?_; refine tc_region ?_; refine tl_q (y_loadW rfl (by repeat constructor) (by rfl)) rfl ?_; refine tl_e (e_callV rfl (.cons rfl .nil) (fun w' hw' => faultT_c t (thin9P.nt (by assumption : thin9P t)) _ _ _ _ w' (hr0.fr (hw'.fr (w0 := w) (S := []) MI.m)))) rfl (fun _ _ => ?_); refine tl_q (y_neq rfl rfl) rfl ?_; refine tl_nil ?_; ((refine hK6 ?_; try (clear hK6; clear K6)))
     all_goals (
      refine tc_cond rfl (fun hc => ?_) (fun hc => ?_)
      · try simp only [qn1, qn2, qn3, qn4, qn5, qn6, qn7, qn8] at hc
        all_goals refine tc_seq fun K7 hK7 => ?_; refine tc_region ?_; refine tl_q (y_assign rfl) rfl ?_; refine tl_nil ?_; ((refine hK7 ?_; try (clear hK7; clear K7)))
        all_goals refine tc_ret ?_; (repeat (refine tk_then_ret ?_))
        all_goals (refine tk_ret rfl rfl (.cons (.tmp rfl) .nil) ?_)
        all_goals (
         refine fun w' hw' => ⟨congrArg (fun b => Ending.returned (Value.bool b)) ?_, hw'.fr (w0 := w) (S := []) MI.m⟩
         symm
         unfold fewV
         first
         | (rw [decide_eq_false (by assumption : ¬ thin9P t)]; rfl)
         | (rw [decide_eq_true (by assumption : thin9P t), decide_eq_true (show ¬ chkT t = 0 by omega)]; rfl)
         | (have hlf : lqsB t = false := List.all_eq_false.2 ⟨n, List.mem_range.2 (by omega), by rw [decide_eq_true_eq]; omega⟩
            rw [decide_eq_true (by assumption : thin9P t), decide_eq_false (show ¬ ¬ chkT t = 0 by omega), hlf]; rfl)
         | (have hlt : lqsB t = true := List.all_eq_true.2 (fun i hi => decide_eq_true (hI i (by have := List.mem_range.1 hi; omega)))
            rw [decide_eq_true (by assumption : thin9P t), decide_eq_false (show ¬ ¬ chkT t = 0 by omega), hlt]; rfl))
      · try simp only [qn1, qn2, qn3, qn4, qn5, qn6, qn7, qn8] at hc
        all_goals refine tc_skip ?_; ((refine hK5 ?_; try (clear hK5; clear K5)))
        all_goals refine tc_seq fun K8 hK8 => ?_; refine tc_seq fun K9 hK9 => ?_; (have hth : thin9P t := by assumption)
        all_goals ((have hv := chkT_0.1 (show chkT t = 0 by omega); have hl3 := hv.l3))
        all_goals refine tc_region ?_; refine tl_q (y_assign rfl) rfl ?_; refine tl_nil ?_; ((refine hK9 ?_; try (clear hK9; clear K9)))
        all_goals refine tc_block ?_
        all_goals (
         refine tc_loop (fun n : Nat => n ≤ t.liquids.length ∧ ∀ i : Nat, i < n → (lqAt t i).2 - (lqAt t i).1 ≤ 14) (fun n => [(1, vi m), (2, ptr b2), (5, vi n)]) (fun _ => [(w, [])]) (fun _ => [(b2, .cells (trV t (.slice aw t.s.weights.length cw) (.slice ap t.parts.length cp) (.slice aL t.liquids.length cL) (.slice at' t.tests.length ct)).cells 28 (0, 0))]) (fun n => t.liquids.length - n) ?_ ?_
         · exact tk_start 0 ⟨Nat.zero_le _, fun i hi => absurd hi (Nat.not_lt_zero i)⟩ (.cons rfl (.cons rfl (.cons rfl .nil))) (fun _ h => h.subl SB.s SB.s)
         · rintro n ⟨hn, hI⟩
           all_goals refine tc_seq fun K10 hK10 => ?_; refine tc_seq fun K11 hK11 => ?_; refine tc_region ?_; refine tl_q (y_move rfl) rfl ?_; refine tl_q (y_field rfl) rfl ?_; refine tl_q (y_load1 rfl (by repeat constructor) (by rfl)) rfl ?_; refine tl_q (y_len rfl) rfl ?_; refine tl_q (y_lss rfl rfl) rfl ?_; refine tl_nil ?_; ((refine hK11 ?_; try (clear hK11; clear K11)))
           all_goals (
            refine tc_cond rfl (fun hc => ?_) (fun hc => ?_)
            · try simp only [qn1, qn2, qn3, qn4, qn5, qn6, qn7, qn8] at hc
              all_goals refine tc_skip ?_; ((refine hK10 ?_; try (clear hK10; clear K10)))
              all_goals refine tc_seq fun K12 hK12 => ?_; refine tc_block ?_; refine tc_seq fun K13 hK13 => ?_; ((have hadL' := hadL (by omega); have hlq := hv.lqb (show n < t.liquids.length by omega)))
              all_goals refine tc_draw (by kernel_rfl) ?_; refine tx_p 0 rfl (by kernel_rfl) (y_field rfl) rfl (fun _ _ _ h => h) (fun _ h => h) ?_; refine tx_q 1 rfl (by kernel_rfl) (y_load1 rfl (by repeat constructor) (by rfl)) rfl (fun _ _ _ h => h) (fun _ h => h) ?_; refine tx_p 2 rfl (by kernel_rfl) (y_move rfl) rfl (fun _ _ _ h => h) (fun _ h => h) ?_; refine tx_p 3 rfl (by kernel_rfl) (y_index rfl rfl (by omega) hadL') rfl (fun _ _ _ h => h) (fun _ h => h) ?_; refine tx_p 4 rfl (by kernel_rfl) (y_field rfl) rfl (fun _ _ _ h => h) (fun _ h => h) ?_; ((refine tx_q 5 rfl (by kernel_rfl) (y_load1o (v := vi (lqAt t n).2) rfl (fun w' hw' => by rw [show Int.toNat (n : Int) * 2 = n * 2 from by omega]; exact (hcL w' [] (hw'.fr (w0 := w) (S := []) MI.m) (by simp) n (by omega)).get 1 _ rfl)) rfl (fun _ _ _ h => h) (fun _ h => h) ?_))
              all_goals refine tx_p 6 rfl (by kernel_rfl) (y_field rfl) rfl (fun _ _ _ h => h) (fun _ h => h) ?_; refine tx_q 7 rfl (by kernel_rfl) (y_load1 rfl (by repeat constructor) (by rfl)) rfl (fun _ _ _ h => h) (fun _ h => h) ?_; refine tx_p 8 rfl (by kernel_rfl) (y_move rfl) rfl (fun _ _ _ h => h) (fun _ h => h) ?_; refine tx_p 9 rfl (by kernel_rfl) (y_index rfl rfl (by omega) hadL') rfl (fun _ _ _ h => h) (fun _ h => h) ?_; refine tx_p 10 rfl (by kernel_rfl) (y_field rfl) rfl (fun _ _ _ h => h) (fun _ h => h) ?_; ((refine tx_q 11 rfl (by kernel_rfl) (y_load1o (v := vi (lqAt t n).1) rfl (fun w' hw' => by rw [show Int.toNat (n : Int) * 2 = n * 2 from by omega]; exact (hcL w' [] (hw'.fr (w0 := w) (S := []) MI.m) (by simp) n (by omega)).get 0 _ rfl)) rfl (fun _ _ _ h => h) (fun _ h => h) ?_))
              all_goals refine tx_p 12 rfl (by kernel_rfl) (y_sub rfl rfl (by omega)) rfl (fun _ _ _ h => h) (fun _ h => h) ?_; refine tx_p 13 rfl (by kernel_rfl) (y_gtr rfl rfl) rfl (fun _ _ _ h => h) (fun _ h => h) ?_; refine tx_done (by kernel_rfl) ?_; ((refine hK13 ?_; try (clear hK13; clear K13)))
              all_goals (
               refine tc_cond rfl (fun hc => ?_) (fun hc => ?_)
               · try simp only [qn1, qn2, qn3, qn4, qn5, qn6, qn7, qn8] at hc
                 all_goals refine tc_seq fun K14 hK14 => ?_; refine tc_region ?_; refine tl_q (y_assign rfl) rfl ?_; refine tl_nil ?_; ((refine hK14 ?_; try (clear hK14; clear K14)))
                 all_goals refine tc_ret ?_; (repeat (first | refine tk_then_ret ?_ | refine tk_block_ret ?_))
                 all_goals (refine tk_ret rfl rfl (.cons (.tmp rfl) .nil) ?_)
                 all_goals (
                  refine fun w' hw' => ⟨congrArg (fun b => Ending.returned (Value.bool b)) ?_, hw'.fr (w0 := w) (S := []) MI.m⟩
                  symm
                  unfold fewV
                  first
                  | (rw [decide_eq_false (by assumption : ¬ thin9P t)]; rfl)
                  | (rw [decide_eq_true (by assumption : thin9P t), decide_eq_true (show ¬ chkT t = 0 by omega)]; rfl)
                  | (have hlf : lqsB t = false := List.all_eq_false.2 ⟨n, List.mem_range.2 (by omega), by rw [decide_eq_true_eq]; omega⟩
                     rw [decide_eq_true (by assumption : thin9P t), decide_eq_false (show ¬ ¬ chkT t = 0 by omega), hlf]; rfl)
                  | (have hlt : lqsB t = true := List.all_eq_true.2 (fun i hi => decide_eq_true (hI i (by have := List.mem_range.1 hi; omega)))
                     rw [decide_eq_true (by assumption : thin9P t), decide_eq_false (show ¬ ¬ chkT t = 0 by omega), hlt]; rfl))
               · try simp only [qn1, qn2, qn3, qn4, qn5, qn6, qn7, qn8] at hc
                 all_goals refine tc_skip ?_; ((refine hK12 ?_; try (clear hK12; clear K12)))
                 all_goals refine tc_region ?_; refine tl_q (y_move rfl) rfl ?_; refine tl_q (y_add rfl rfl (by omega)) rfl ?_; refine tl_q (y_assign rfl) rfl ?_; refine tl_nil ?_
                 all_goals (
                  exact tk_round (n + 1) ⟨by omega, fun i hi => by
                    rcases Nat.lt_succ_iff_lt_or_eq.1 hi with g | rfl
                    · exact hI i g
                    · omega⟩ (by omega) (.cons rfl (.cons rfl (.cons rfl .nil))) (fun _ h => h.subl SB.s SB.s)))
            · try simp only [qn1, qn2, qn3, qn4, qn5, qn6, qn7, qn8] at hc
              all_goals refine tc_exit ?_; ((refine hK8 ?_; try (clear hK8; clear K8)))
              all_goals refine tc_seq fun K15 hK15 => ?_; refine tc_region ?_; refine tl_q (y_loadW rfl (by repeat constructor) (by rfl)) rfl ?_; refine tl_e (e_callV rfl (.cons rfl .nil) (fun w' hw' => many_c t hv _ _ _ _ w' (hr0.fr (hw'.fr (w0 := w) (S := []) MI.m)))) rfl (fun _ _ => ?_); refine tl_q (y_move rfl) rfl ?_; refine tl_q (y_leq rfl rfl) rfl ?_; refine tl_q (y_assign rfl) rfl ?_; refine tl_nil ?_; ((refine hK15 ?_; try (clear hK15; clear K15)))
              all_goals refine tc_ret ?_; (repeat (first | refine tk_then_ret ?_))
              all_goals (refine tk_ret rfl rfl (.cons (.tmp rfl) .nil) ?_)
              all_goals (
               refine fun w' hw' => ⟨congrArg (fun b => Ending.returned (Value.bool b)) ?_, hw'.fr (w0 := w) (S := []) MI.m⟩
               symm
               unfold fewV
               first
               | (rw [decide_eq_false (by assumption : ¬ thin9P t)]; rfl)
               | (rw [decide_eq_true (by assumption : thin9P t), decide_eq_true (show ¬ chkT t = 0 by omega)]; rfl)
               | (have hlf : lqsB t = false := List.all_eq_false.2 ⟨n, List.mem_range.2 (by omega), by rw [decide_eq_true_eq]; omega⟩
                  rw [decide_eq_true (by assumption : thin9P t), decide_eq_false (show ¬ ¬ chkT t = 0 by omega), hlf]; rfl)
               | (have hlt : lqsB t = true := List.all_eq_true.2 (fun i hi => decide_eq_true (hI i (by have := List.mem_range.1 hi; omega)))
                  rw [decide_eq_true (by assumption : thin9P t), decide_eq_false (show ¬ ¬ chkT t = 0 by omega), hlt]; rfl))))))
end Go.Sp
