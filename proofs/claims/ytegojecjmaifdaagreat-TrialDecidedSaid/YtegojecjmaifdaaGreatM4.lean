
/-
  Package trial: offers; whether two lists of errors are alike.
-/
import Derived.Test.YtegojecjmaifdaaGreatM3
import Derived.Laws.AppendOwn
set_option linter.unusedVariables false
set_option linter.unusedSimpArgs false
set_option linter.deprecated false
namespace Go.Sp
open Go Go.Proofs
theorem indexFuncO_c (g : FuncId) [GoFn Tryz.prog g] (first cap : Array Value) (p : Int × Int → Bool) (xs : List (Int × Int)) (hx : (xs.length : Int) ≤ 9000000000000000000) (sl : Value) (w : World) (hr : RdR w sl xs) (ht : TestsR Tryz.prog g first cap p w) :
    CnV Tryz.prog 162 #[sl, .func (.func g) first cap] w (vi (idxR xs p)) := by
  obtain ⟨ad, cp, b0, o, rfl, had, hcell⟩ := hr.open
  refine cnv (vs := [_, _]) Tryz.func162 rfl rfl ?_
  all_goals refine tc_seq fun K1 hK1 => ?_; refine tc_region ?_; refine tl_q (y_assign rfl) rfl ?_; refine tl_nil ?_; ((refine hK1 ?_; try (clear hK1; clear K1)))
  all_goals refine tc_seq fun K2 hK2 => ?_; refine tc_seq fun K3 hK3 => ?_; refine tc_region ?_; refine tl_q (y_move rfl) rfl ?_; refine tl_q (y_len rfl) rfl ?_; refine tl_q (y_move rfl) rfl ?_; refine tl_nil ?_; ((refine hK3 ?_; try (clear hK3; clear K3)))
  all_goals refine tc_block ?_
  all_goals (
   refine tc_loop (fun k : Nat => k ≤ xs.length ∧ ∀ j, j < k → p (xs.getD j (0, 0)) = false) (fun k => [(0, .slice ad xs.length cp), (1, .func (.func g) first cap), (7, vi xs.length), (8, vi k)]) (fun _ => [(w, [])]) (fun _ => []) (fun k => xs.length - k) ?_ ?_
   · exact tk_start 0 ⟨Nat.zero_le _, fun j hj => absurd hj (Nat.not_lt_zero j)⟩ (.cons rfl (.cons rfl (.cons rfl (.cons rfl .nil)))) (fun _ h => h)
   · rintro k ⟨hk, hj⟩
     all_goals refine tc_seq fun K4 hK4 => ?_; refine tc_region ?_; refine tl_q (y_lss rfl rfl) rfl ?_; refine tl_nil ?_; ((refine hK4 ?_; try (clear hK4; clear K4)))
     all_goals refine tc_seq fun K5 hK5 => ?_
     all_goals (
      refine tc_cond rfl (fun hc => ?_) (fun hc => ?_)
      · try simp only [decide_eq_true_eq, decide_eq_false_iff_not, Int.not_lt, Int.not_le, Bool.not_eq_true', Bool.not_eq_false', Decidable.not_not, not_true_eq_false] at hc
        all_goals refine tc_skip ?_; ((refine hK5 ?_; try (clear hK5; clear K5)))
        all_goals refine tc_seq fun K6 hK6 => ?_; refine tc_block ?_; refine tc_seq fun K7 hK7 => ?_; refine tc_region ?_; refine tl_q (y_move rfl) rfl ?_; refine tl_q (y_assign rfl) rfl ?_; refine tl_nil ?_; ((refine hK7 ?_; try (clear hK7; clear K7)))
        all_goals refine tc_seq fun K8 hK8 => ?_
        have had' := had (by omega)
        all_goals refine tc_region ?_; refine tl_q (y_move rfl) rfl ?_; refine tl_q (y_move rfl) rfl ?_; refine tl_q (y_move rfl) rfl ?_; refine tl_q (y_index rfl rfl (by omega) had') rfl ?_; refine tl_q (y_loadNo rfl (fun w' hw' => hcell w' [] (hw'.fr (by simp)) (by simp) (Int.toNat k) (by omega))) rfl ?_; refine tl_e (e_callVf rfl rfl (.cons rfl .nil) (fun w' hw' => ht (xs.getD (Int.toNat k) (0, 0)) w' (hw'.fr (by simp)))) rfl (fun _ _ => ?_); refine tl_nil ?_; ((refine hK8 ?_; try (clear hK8; clear K8)))
        all_goals (
         refine tc_cond rfl (fun hc => ?_) (fun hc => ?_)
         · all_goals (skip)
           all_goals refine tc_seq fun K9 hK9 => ?_; refine tc_region ?_; refine tl_q (y_move rfl) rfl ?_; refine tl_q (y_assign rfl) rfl ?_; refine tl_nil ?_; ((refine hK9 ?_; try (clear hK9; clear K9)))
           all_goals refine tc_ret ?_; (repeat (first | refine tk_then_ret ?_ | refine tk_block_ret ?_))
           all_goals (refine tk_ret rfl rfl (.cons (.tmp rfl) .nil) ?_)
           all_goals (
            first | exact fun w' hw' => ⟨by rw [idxR_hit (k := k) (by omega) (by simpa using hc) hj]; rfl, hw'.fr (by simp)⟩ | exact fun w' hw' => ⟨by rw [idxR_miss (fun j hjj => hj j (by omega))]; rfl, hw'.fr (by simp)⟩)
         · all_goals (skip)
           all_goals refine tc_skip ?_; ((refine hK6 ?_; try (clear hK6; clear K6)))
           all_goals refine tc_region ?_; refine tl_q (y_add rfl rfl (by omega)) rfl ?_; refine tl_q (y_move rfl) rfl ?_; refine tl_nil ?_
           all_goals (
            exact tk_round (k + 1) ⟨by omega, fun j hj' => by rcases Nat.lt_succ_iff_lt_or_eq.1 hj' with h | rfl; exact hj j h; simpa using hc⟩ (by omega) (.cons rfl (.cons rfl (.cons rfl (.cons rfl .nil)))) (fun _ h => h)))
      · try simp only [decide_eq_true_eq, decide_eq_false_iff_not, Int.not_lt, Int.not_le, Bool.not_eq_true', Bool.not_eq_false', Decidable.not_not, not_true_eq_false] at hc
        all_goals refine tc_exit ?_; ((refine hK2 ?_; try (clear hK2; clear K2)))
        all_goals refine tc_seq fun K10 hK10 => ?_; refine tc_region ?_; refine tl_q (y_assign rfl) rfl ?_; refine tl_nil ?_; ((refine hK10 ?_; try (clear hK10; clear K10)))
        all_goals refine tc_ret ?_; (repeat (first | refine tk_then_ret ?_))
        all_goals (refine tk_ret rfl rfl (.cons (.tmp rfl) .nil) ?_)
        all_goals (
         first | exact fun w' hw' => ⟨by rw [idxR_hit (k := k) (by omega) (by simpa using hc) hj]; rfl, hw'.fr (by simp)⟩ | exact fun w' hw' => ⟨by rw [idxR_miss (fun j hjj => hj j (by omega))]; rfl, hw'.fr (by simp)⟩)))
theorem containsFuncO_c (g : FuncId) [GoFn Tryz.prog g] (first cap : Array Value) (p : Int × Int → Bool) (xs : List (Int × Int)) (hx : (xs.length : Int) ≤ 9000000000000000000) (sl : Value) (w : World) (hr : RdR w sl xs) (ht : TestsR Tryz.prog g first cap p w) :
    CnV Tryz.prog 134 #[sl, .func (.func g) first cap] w (.bool (xs.any p)) := by
  refine cnv (vs := [_, _]) Tryz.func134 rfl rfl ?_
  all_goals refine tc_seq fun K1 hK1 => ?_; refine tc_region ?_; refine tl_q (y_assign rfl) rfl ?_; refine tl_nil ?_; ((refine hK1 ?_; try (clear hK1; clear K1)))
  all_goals refine tc_seq fun K2 hK2 => ?_; refine tc_region ?_; refine tl_q (y_move rfl) rfl ?_; refine tl_q (y_move rfl) rfl ?_; refine tl_e (e_callV rfl (.cons rfl (.cons rfl .nil)) (fun w' hw' => indexFuncO_c g first cap p xs hx _ w' (hr.fr (hw'.fr (by simp))) (ht.fr (hw'.fr (by simp))))) rfl (fun _ _ => ?_); refine tl_q (y_geq rfl rfl) rfl ?_; refine tl_q (y_assign rfl) rfl ?_; refine tl_nil ?_; ((refine hK2 ?_; try (clear hK2; clear K2)))
  all_goals refine tc_ret ?_; (repeat (first | refine tk_then_ret ?_))
  all_goals (refine tk_ret rfl rfl (.cons (.tmp rfl) .nil) ?_)
  all_goals (
   exact fun w' hw' => ⟨by rw [← idxR_any]; rfl, hw'.fr (by simp)⟩)
theorem allO1_c (g : FuncId) [GoFn Tryz.prog g] (first cap : Array Value) (p : Int × Int → Bool) (x : Int × Int) (b : Nat) (w : World) (hb : w.cell? ⟨b, 0, none⟩ = some (.func (.func g) first cap)) (ht : TestsR Tryz.prog g first cap p w) :
    CnV Tryz.prog 135 #[rdV x, .pointer (some ⟨b, 0, none⟩)] w (.bool (!(p x))) := by
  refine cnv (vs := [_, _]) Tryz.func135 rfl rfl ?_
  all_goals refine tc_seq fun K1 hK1 => ?_; refine tc_region ?_; refine tl_e (e_box rfl rfl rfl) rfl (fun _ _ => ?_); refine tl_q (y_assign rfl) rfl ?_; refine tl_nil ?_; ((refine hK1 ?_; try (clear hK1; clear K1)))
  all_goals refine tc_seq fun K2 hK2 => ?_; refine tc_region ?_; refine tl_q (y_load1o rfl (fun w' hw' => (hw'.fr (S := []) (w0 := w) (by simp)).cell (by simp) hb)) rfl ?_; refine tl_q (y_loadW rfl (by repeat constructor) (by rfl)) rfl ?_; refine tl_e (e_callVf rfl rfl (.cons rfl .nil) (fun w' hw' => ht x w' (hw'.fr (by simp)))) rfl (fun _ _ => ?_); refine tl_q (y_not rfl) rfl ?_; refine tl_q (y_assign rfl) rfl ?_; refine tl_nil ?_; ((refine hK2 ?_; try (clear hK2; clear K2)))
  all_goals refine tc_ret ?_; (repeat (first | refine tk_then_ret ?_))
  all_goals (refine tk_ret rfl rfl (.cons (.tmp rfl) .nil) ?_)
  all_goals (
   exact fun w' hw' => ⟨rfl, hw'.fr (by simp)⟩)
theorem allO_c (g : FuncId) [GoFn Tryz.prog g] (first cap : Array Value) (p : Int × Int → Bool) (xs : List (Int × Int)) (hx : (xs.length : Int) ≤ 9000000000000000000) (sl : Value) (w : World) (hr : RdR w sl xs) (ht : TestsR Tryz.prog g first cap p w) :
    CnV Tryz.prog 85 #[sl, .func (.func g) first cap] w (.bool (xs.all p)) := by
  refine cnv (vs := [_, _]) Tryz.func85 rfl rfl ?_
  all_goals refine tc_seq fun K1 hK1 => ?_; refine tc_region ?_; refine tl_e (e_box rfl rfl rfl) rfl (fun b _ => ?_); refine tl_q (y_assign rfl) rfl ?_; refine tl_nil ?_; ((refine hK1 ?_; try (clear hK1; clear K1)))
  all_goals refine tc_seq fun K2 hK2 => ?_; refine tc_region ?_; refine tl_q (y_move rfl) rfl ?_; refine tl_q (y_fn .nil (.cons rfl .nil)) rfl ?_; refine tl_e (e_callV rfl (.cons rfl (.cons rfl .nil)) (fun w' hw' => containsFuncO_c 135 #[] #[.pointer (some ⟨b, 0, none⟩)] (fun x => !(p x)) xs hx _ w' (hr.fr (hw'.fr (by simp))) (fun x w2 f => by simpa using allO1_c g first cap p x b w2 (f.cell (by simp) (cellAt_cell? (hw'.heap _ (HM.mem (by repeat constructor))) rfl)) ((ht.fr (hw'.fr (by simp))).fr f)))) rfl (fun _ _ => ?_); refine tl_q (y_not rfl) rfl ?_; refine tl_q (y_assign rfl) rfl ?_; refine tl_nil ?_; ((refine hK2 ?_; try (clear hK2; clear K2)))
  all_goals refine tc_ret ?_; (repeat (first | refine tk_then_ret ?_))
  all_goals (refine tk_ret rfl rfl (.cons (.tmp rfl) .nil) ?_)
  all_goals (
   exact fun w' hw' => ⟨by simp [outV, List.all_eq_not_any_not], hw'.fr (by simp)⟩)
def offB (t : Tr) (x : Int × Int) : Bool := decide ((0 ≤ x.1 ∧ x.1 ≤ t.s.weights.length) ∧ (1 ≤ x.2 ∧ x.2 ≤ 2000))
theorem offer_c (t : Tr) (x : Int × Int) (sl pl ll tl : Value) (w : World) (hr : RdI w sl t.s.weights) : CnV Tryz.prog 84 #[trV t sl pl ll tl, rV x] w (.bool (offB t x)) := by
  refine cnv (vs := [_, _]) Tryz.func84 rfl rfl ?_
  all_goals refine tc_seq fun K1 hK1 => ?_; refine tc_region ?_; refine tl_e (e_box rfl rfl rfl) rfl (fun _ _ => ?_); refine tl_e (e_box rfl rfl rfl) rfl (fun _ _ => ?_); refine tl_q (y_assign rfl) rfl ?_; refine tl_nil ?_; ((refine hK1 ?_; try (clear hK1; clear K1)))
  all_goals refine tc_seq fun K2 hK2 => ?_; refine tc_region ?_; refine tl_q (y_loadW rfl (by repeat constructor) (by rfl)) rfl ?_; refine tl_q (y_field rfl) rfl ?_; refine tl_q (y_load1 rfl (by repeat constructor) (by rfl)) rfl ?_; refine tl_e (e_callV rfl (.cons rfl (.cons rfl .nil)) (fun w' hw' => tload_c t x.1 sl pl ll tl w' (hr.fr (hw'.fr (by simp))))) rfl (fun _ _ => ?_); refine tl_q (y_move rfl) rfl ?_; ((refine tl_gs rfl rfl (fun hc => ?_) (fun hc => ?_) <;> (try simp only [decide_eq_true_eq, decide_eq_false_iff_not, Int.not_lt, Int.not_le, Bool.not_eq_true', Bool.not_eq_false', Decidable.not_not, not_true_eq_false] at hc) <;> (first | refine tl_sk rfl rfl rfl rfl ?_ | refine tl_qg rfl rfl (y_field rfl) rfl ?_)))
  all_goals (first | refine tl_sk rfl rfl rfl rfl ?_ | refine tl_qg rfl rfl (y_load1 rfl (by repeat constructor) (by rfl)) rfl ?_); (first | refine tl_sk rfl rfl rfl rfl ?_ | refine tl_eg rfl rfl rfl (e_callV rfl (.cons rfl (.cons rfl (.cons rfl .nil))) (fun w' _ => twithin_c _ _ _ w')) (fun _ _ => ?_)); (first | refine tl_q (y_pick_t rfl rfl) rfl ?_ | refine tl_q (y_pick_f rfl rfl) rfl ?_); refine tl_q (y_assign rfl) rfl ?_; refine tl_nil ?_; ((refine hK2 ?_; try (clear hK2; clear K2)))
  all_goals refine tc_ret ?_; (repeat (first | refine tk_then_ret ?_))
  all_goals (refine tk_ret rfl rfl (.cons (.tmp rfl) .nil) ?_)
  all_goals (
   refine fun w' hw' => ⟨?_, hw'.fr (by simp)⟩
   refine congrArg (fun b => Ending.returned (Value.bool b)) ?_
   unfold offB
   first
   | exact decide_eq_decide.2 (by omega)
   | exact (decide_eq_false (by omega)).symm)
/-- All that was known is known still, but for one block. -/
inductive AB (H : List (Nat × Obj)) (bm : Nat) : List (Nat × Obj) → Prop
  | nil : AB H bm []
  | old {b : Nat} {o : Obj} {r : List (Nat × Obj)} : HM b o H → AB H bm r → AB H bm ((b, o) :: r)
  | but {o : Obj} {r : List (Nat × Obj)} : AB H bm r → AB H bm ((bm, o) :: r)
theorem AB.mem {H : List (Nat × Obj)} {bm : Nat} {r : List (Nat × Obj)} (h : AB H bm r) : ∀ p ∈ r, p ∈ H ∨ p.1 = bm := by
  induction h with
  | nil => intro p hp; cases hp
  | old hm _ ih =>
    intro p hp
    rcases List.mem_cons.1 hp with rfl | hp
    · exact .inl hm.mem
    · exact ih p hp
  | but _ ih =>
    intro p hp
    rcases List.mem_cons.1 hp with rfl | hp
    · exact .inr rfl
    · exact ih p hp
theorem HG.calmM {bs bs0 : List (World × List Nat)} {H H0 : List (Nat × Obj)} {w w1 : World} (hw : HG bs H w) (h1 : HG bs0 H0 w1) {bm : Nat} (hb : (w1, H0.map Prod.fst) ∈ bs) (hs : AB H bm H0) : Fr [bm] w1 w :=
  let f := hw.base _ hb
  ⟨f.os, f.tape, f.output, f.size, fun k hk hn => by
    by_cases hm : k ∈ H0.map Prod.fst
    · obtain ⟨p, hp, rfl⟩ := List.mem_map.1 hm
      rcases hs.mem p hp with g | g
      · rw [hw.heap p g, h1.heap p hp]
      · exact absurd (by rw [g]; simp) hn
    · exact f.block k hk hm⟩
def alikeF (t : Tr) (a b : Int × Int × Int) (k d : Int) : Bool := decide (a = b) || (shownL t a k d).any fun x => decide (x ∈ shownL t b k d)
theorem alike1_c (l : List Int) (hl : (l.length : Int) ≤ 9000000000000000000) (d : Int) (v : Value) (b9 : Nat) (w : World) (hb : w.heap[b9]? = some (.cells #[v] 22 (0, 0))) (hr : RdI w v l) :
    CnV Tryz.prog 137 #[vi d, ptr b9] w (.bool (decide (d ∈ l))) := by
  refine cnv (vs := [_, _]) Tryz.func137 rfl rfl ?_
  all_goals refine tc_seq fun K1 hK1 => ?_; refine tc_region ?_; refine tl_q (y_assign rfl) rfl ?_; refine tl_nil ?_; ((refine hK1 ?_; try (clear hK1; clear K1)))
  all_goals refine tc_seq fun K2 hK2 => ?_; refine tc_region ?_; refine tl_q (y_load1o (v := v) rfl (fun w' hw' => cell0 ((hw'.fr (w0 := w) (S := []) (by simp)).keep hb) rfl)) rfl ?_; refine tl_q (y_move rfl) rfl ?_; refine tl_e (e_callV rfl (.cons rfl (.cons rfl .nil)) (fun w' hw' => contains_c l hl d v w' (hr.fr (hw'.fr (by simp))))) rfl (fun _ _ => ?_); refine tl_q (y_assign rfl) rfl ?_; refine tl_nil ?_; ((refine hK2 ?_; try (clear hK2; clear K2)))
  all_goals refine tc_ret ?_; (repeat (first | refine tk_then_ret ?_))
  all_goals (refine tk_ret rfl rfl (.cons (.tmp rfl) .nil) ?_)
  all_goals (
   exact fun w' hw' => ⟨rfl, hw'.fr (by simp)⟩)
theorem shown_len (t : Tr) (hv : VT t) (e : Int × Int × Int) (k d : Int) : (shownL t e k d).length ≤ 101 := by
  have h1 := hv.s.d1
  have h2 := hv.s.d2
  unfold shownL
  split
  · simp
  · have := shownN_len t e k d (t.s.divisions + 1).toNat
    omega
theorem alike_c (t : Tr) (hv : VT t) (a b : Int × Int × Int) (ha : ErB a) (hb : ErB b) (k d : Int) (sl pl ll tl : Value) (w : World) (bw bm : Nat) (es : Array MapEntry) (ck : Nat) (hT : TW w t sl pl ll tl bw bm es ck) :
    CnX Tryz.prog 87 #[ptr bw, tsV a, tsV b, .agg #[vi k, vi d]] w [bm] (fun _ : Array MapEntry × Nat => .bool (alikeF t a b k d)) (fun y w' => Cache (readV t.s) y.1.toList ∧ w'.heap[bm]? = some (.map y.1 y.2)) := by
  have hne := hT.ne
  have hla := shown_len t hv a k d
  have hlb := shown_len t hv b k d
  refine cnxS (vs := [_, _, _, _]) (S := [bw, bm]) [(bw, wkT t sl pl ll tl bm), (bm, .map es ck)] Tryz.func87 rfl rfl ⟨by simp [hT.hw, hT.hm], by simp [hne], by simp⟩ ?_
  all_goals refine tc_seq fun K1 hK1 => ?_; refine tc_region ?_; refine tl_e (e_box rfl rfl rfl) rfl (fun b5 _ => ?_); refine tl_e (e_box rfl rfl rfl) rfl (fun b6 _ => ?_); refine tl_e (e_box rfl rfl rfl) rfl (fun b7 _ => ?_); refine tl_q (y_assign rfl) rfl ?_; refine tl_nil ?_; ((refine hK1 ?_; try (clear hK1; clear K1)))
  all_goals refine tc_seq fun K2 hK2 => ?_; refine tc_seq fun K3 hK3 => ?_; refine tc_region ?_; refine tl_q (y_loadW rfl (by repeat constructor) (by rfl)) rfl ?_; refine tl_q (y_loadW rfl (by repeat constructor) (by rfl)) rfl ?_; refine tl_q (y_eqlA3 rfl rfl) rfl ?_; refine tl_nil ?_; ((refine hK3 ?_; try (clear hK3; clear K3)))
  all_goals (
   refine tc_cond rfl (fun hc => ?_) (fun hc => ?_)
   · try simp only [decide_eq_true_eq, decide_eq_false_iff_not, Int.not_lt, Int.not_le, Bool.not_eq_true', Bool.not_eq_false', Decidable.not_not, not_true_eq_false] at hc
     all_goals refine tc_seq fun K4 hK4 => ?_; refine tc_region ?_; refine tl_q (y_assign rfl) rfl ?_; refine tl_nil ?_; ((refine hK4 ?_; try (clear hK4; clear K4)))
     all_goals refine tc_ret ?_; (repeat (refine tk_then_ret ?_))
     all_goals (refine tk_ret rfl rfl (.cons (.tmp rfl) .nil) ?_)
     all_goals (
      refine fun w' hw' => ?_
      have hb2 : Fr [bm] w w' := Fr.but (hw'.fr (w0 := w) (S := [bw, bm]) (by simp)) (by rw [hw'.heap (bw, wkT t sl pl ll tl bm) (HM.mem (by repeat constructor)), hT.hw])
      have hb1 := hw'.heap _ (HM.mem (b := bm) (by repeat constructor))
      first
      | (have hab : a = b := Prod.ext hc.1 (Prod.ext hc.2.1 hc.2.2)
         exact ⟨(es, ck), by unfold alikeF; rw [decide_eq_true hab, Bool.true_or]; rfl, hb2, hT.hc, hb1⟩)
      | (have hab : ¬ a = b := fun e => hc (by rw [e]; exact ⟨rfl, rfl, rfl⟩)
         exact ⟨(z.1.2.1, z.1.2.2), by unfold alikeF; rw [decide_eq_false hab, Bool.false_or]; rfl, hb2, hz.1.2, hb1⟩))
   · try simp only [decide_eq_true_eq, decide_eq_false_iff_not, Int.not_lt, Int.not_le, Bool.not_eq_true', Bool.not_eq_false', Decidable.not_not, not_true_eq_false] at hc
     all_goals refine tc_skip ?_; ((refine hK2 ?_; try (clear hK2; clear K2)))
     all_goals refine tc_seq fun K5 hK5 => ?_; refine tc_region ?_; refine tl_q (y_move rfl) rfl ?_; refine tl_q (y_loadW rfl (by repeat constructor) (by rfl)) rfl ?_; refine tl_q (y_loadW rfl (by repeat constructor) (by rfl)) rfl ?_; refine tl_e (e_callUX rfl (.cons rfl (.cons rfl (.cons rfl .nil))) (fun w' hw' => shown_c t hv b hb k d sl pl ll tl w' bw bm es ck (hT.fr2 (hw'.fr (by simp)) (hw'.heap _ (HM.mem (by repeat constructor))) (hw'.heap _ (HM.mem (b := bm) (by repeat constructor))) hT.hc)) (fun _ => (by repeat constructor))) rfl (fun y hy => ?_); refine tl_e (e_alloc1 rfl) rfl (fun b9 _ => ?_); refine tl_e (e_store1 rfl rfl (by repeat constructor) (by repeat constructor) (by rfl) (by rfl)) rfl (fun _ _ => ?_); refine tl_nil ?_; ((refine hK5 ?_; try (clear hK5; clear K5)))
     all_goals refine tc_seq fun K6 hK6 => ?_; refine tc_region ?_; refine tl_q (y_move rfl) rfl ?_; refine tl_q (y_loadW rfl (by repeat constructor) (by rfl)) rfl ?_; refine tl_q (y_loadW rfl (by repeat constructor) (by rfl)) rfl ?_; refine tl_e (e_callUX rfl (.cons rfl (.cons rfl (.cons rfl .nil))) (fun w' hw' => shown_c t hv a ha k d sl pl ll tl w' bw bm y.1.2.1 y.1.2.2 (hT.fr2 (hw'.fr (w0 := w) (S := [bw, bm]) (by simp)) (hw'.heap _ (HM.mem (by repeat constructor))) (hw'.heap _ (HM.mem (b := bm) (by repeat constructor))) hy.1.2)) (fun _ => (by repeat constructor))) rfl (fun z hz => ?_); refine tl_q (y_fn .nil (.cons rfl .nil)) rfl ?_; (refine tl_e (e_callV rfl (.cons rfl (.cons rfl .nil)) (fun w' hw' => containsFunc_c 137 #[] #[ptr b9] (fun x => decide (x ∈ shownL t b k d)) (shownL t a k d) (by omega) _ w' (hz.1.1.fr (hw'.calm hz.2 (by simp) (List.Sublist.refl _))) (fun x w2 f => by simpa using alike1_c (shownL t b k d) (by omega) x _ b9 w2 (f.keep (hw'.heap _ (HM.mem (b := b9) (by repeat constructor)))) (Reads.frM hy.1.1 ((hw'.calmM hy.2 (bm := bm) (MI.m (by repeat constructor)) (by (repeat (first | exact .nil | (refine AB.old ?_ ?_; (focus ((repeat constructor); done))) | refine AB.but ?_)); done)).trans f (by simp)) (fun q hq => by rw [List.mem_singleton.1 hq]; exact ⟨_, _, hy.2.heap _ (HM.mem (b := bm) (by repeat constructor))⟩))))) rfl (fun _ _ => ?_))
     all_goals refine tl_q (y_assign rfl) rfl ?_; refine tl_nil ?_; ((refine hK6 ?_; try (clear hK6; clear K6)))
     all_goals refine tc_ret ?_; (repeat (first | refine tk_then_ret ?_))
     all_goals (refine tk_ret rfl rfl (.cons (.tmp rfl) .nil) ?_)
     all_goals (
      refine fun w' hw' => ?_
      have hb2 : Fr [bm] w w' := Fr.but (hw'.fr (w0 := w) (S := [bw, bm]) (by simp)) (by rw [hw'.heap (bw, wkT t sl pl ll tl bm) (HM.mem (by repeat constructor)), hT.hw])
      have hb1 := hw'.heap _ (HM.mem (b := bm) (by repeat constructor))
      first
      | (have hab : a = b := Prod.ext hc.1 (Prod.ext hc.2.1 hc.2.2)
         exact ⟨(es, ck), by unfold alikeF; rw [decide_eq_true hab, Bool.true_or]; rfl, hb2, hT.hc, hb1⟩)
      | (have hab : ¬ a = b := fun e => hc (by rw [e]; exact ⟨rfl, rfl, rfl⟩)
         exact ⟨(z.1.2.1, z.1.2.2), by unfold alikeF; rw [decide_eq_false hab, Bool.false_or]; rfl, hb2, hz.1.2, hb1⟩)))
end Go.Sp
/-
  Package trial: the fewest offers that decide.
-/
namespace Go.Sp
open Go Go.Proofs
def fewP (ps : List (List Int)) (xs : List Int) : Bool := ps.all fun ap => ap.any fun i => decide (i ∈ xs)
theorem few1_c (l : List Int) (hl : (l.length : Int) ≤ 9000000000000000000) (d : Int) (v : Value) (b9 : Nat) (w : World) (hb : w.heap[b9]? = some (.cells #[v] 22 (0, 0))) (hr : RdI w v l) :
    CnV Tryz.prog 93 #[vi d, ptr b9] w (.bool (decide (d ∈ l))) := by
  refine cnv (vs := [_, _]) Tryz.func93 rfl rfl ?_
  all_goals refine tc_seq fun K1 hK1 => ?_; refine tc_region ?_; refine tl_q (y_assign rfl) rfl ?_; refine tl_nil ?_; ((refine hK1 ?_; try (clear hK1; clear K1)))
  all_goals refine tc_seq fun K2 hK2 => ?_; refine tc_region ?_; refine tl_q (y_load1o (v := v) rfl (fun w' hw' => cell0 ((hw'.fr (w0 := w) (S := []) (by simp)).keep hb) rfl)) rfl ?_; refine tl_q (y_move rfl) rfl ?_; refine tl_e (e_callV rfl (.cons rfl (.cons rfl .nil)) (fun w' hw' => contains_c l hl d v w' (hr.fr (hw'.fr (by simp))))) rfl (fun _ _ => ?_); refine tl_q (y_assign rfl) rfl ?_; refine tl_nil ?_; ((refine hK2 ?_; try (clear hK2; clear K2)))
  all_goals refine tc_ret ?_; (repeat (first | refine tk_then_ret ?_))
  all_goals (refine tk_ret rfl rfl (.cons (.tmp rfl) .nil) ?_)
  all_goals (
   exact fun w' hw' => ⟨rfl, hw'.fr (by simp)⟩)
theorem few2_c (l : List Int) (hl : (l.length : Int) ≤ 9000000000000000000) (ap : List Int) (ha : (ap.length : Int) ≤ 9000000000000000000) (v u : Value) (b9 : Nat) (w : World) (hb : w.heap[b9]? = some (.cells #[v] 22 (0, 0))) (hr : RdI w v l) (hu : RdI w u ap) :
    CnV Tryz.prog 91 #[u, ptr b9] w (.bool (ap.any fun i => decide (i ∈ l))) := by
  refine cnv (vs := [_, _]) Tryz.func91 rfl rfl ?_
  all_goals refine tc_seq fun K1 hK1 => ?_; refine tc_region ?_; refine tl_q (y_assign rfl) rfl ?_; refine tl_nil ?_; ((refine hK1 ?_; try (clear hK1; clear K1)))
  all_goals refine tc_seq fun K2 hK2 => ?_; refine tc_region ?_; refine tl_q (y_move rfl) rfl ?_; refine tl_q (y_fn .nil (.cons rfl .nil)) rfl ?_; refine tl_e (e_callV rfl (.cons rfl (.cons rfl .nil)) (fun w' hw' => containsFunc_c 93 #[] #[ptr b9] (fun i => decide (i ∈ l)) ap ha u w' (hu.fr (hw'.fr (by simp))) (fun x w2 f => by simpa using few1_c l hl x v b9 w2 (f.keep ((hw'.fr (w0 := w) (S := []) (by simp)).keep hb)) ((hr.fr (hw'.fr (by simp))).fr f)))) rfl (fun _ _ => ?_); refine tl_q (y_assign rfl) rfl ?_; refine tl_nil ?_; ((refine hK2 ?_; try (clear hK2; clear K2)))
  all_goals refine tc_ret ?_; (repeat (first | refine tk_then_ret ?_))
  all_goals (refine tk_ret rfl rfl (.cons (.tmp rfl) .nil) ?_)
  all_goals (
   exact fun w' hw' => ⟨rfl, hw'.fr (by simp)⟩)
theorem few3_c (l : List Int) (hl : (l.length : Int) ≤ 9000000000000000000) (ps : List (List Int)) (hp : (ps.length : Int) ≤ 9000000000000000000) (hpa : ∀ ap ∈ ps, (ap.length : Int) ≤ 9000000000000000000) (v u : Value) (hv1 : v.oneCell' = true) (b13 : Nat) (w : World) (hb : w.heap[b13]? = some (.cells #[u] 54 (0, 0))) (hr : RdI w v l) (hu : RdLL w u ps) :
    CnV Tryz.prog 89 #[v, ptr b13] w (.bool (fewP ps l)) := by
  obtain ⟨vad, vcp, _, _, rfl, _, _⟩ := hr.open
  refine cnv (vs := [_, _]) Tryz.func89 rfl rfl ?_
  all_goals refine tc_seq fun K1 hK1 => ?_; refine tc_region ?_; refine tl_e (e_box rfl rfl rfl) rfl (fun b2 _ => ?_); refine tl_q (y_assign rfl) rfl ?_; refine tl_nil ?_; ((refine hK1 ?_; try (clear hK1; clear K1)))
  all_goals refine tc_seq fun K2 hK2 => ?_; refine tc_region ?_; refine tl_q (y_load1o (v := u) rfl (fun w' hw' => cell0 ((hw'.fr (w0 := w) (S := []) (by simp)).keep hb) rfl)) rfl ?_; refine tl_q (y_fn .nil (.cons rfl .nil)) rfl ?_; refine tl_e (e_callV rfl (.cons rfl (.cons rfl .nil)) (fun w' hw' => allLL_c 91 #[] #[ptr b2] (fun ap => ap.any fun i => decide (i ∈ l)) ps hp u w' (hu.fr (hw'.fr (by simp))) (fun x ap w2 f hm hx => few2_c l hl ap (hpa ap hm) (.slice vad l.length vcp) x b2 w2 (f.keep (hw'.heap _ (HM.mem (b := b2) (by repeat constructor)))) ((hr.fr (hw'.fr (by simp))).fr f) hx))) rfl (fun _ _ => ?_); refine tl_q (y_assign rfl) rfl ?_; refine tl_nil ?_; ((refine hK2 ?_; try (clear hK2; clear K2)))
  all_goals refine tc_ret ?_; (repeat (first | refine tk_then_ret ?_))
  all_goals (refine tk_ret rfl rfl (.cons (.tmp rfl) .nil) ?_)
  all_goals (
   exact fun w' hw' => ⟨rfl, hw'.fr (by simp)⟩)
end Go.Sp
/-
  Package trial: the fewest offers that decide, walked.
-/
namespace Go.Sp
open Go Go.Proofs
abbrev E3 := Int × Int × Int
def apN (t : Tr) (l : List (Int × Int)) (a b : E3) (i : Nat) : List Int := ((List.range i).filter fun j => !alikeF t a b (l.getD j (0, 0)).1 (l.getD j (0, 0)).2).map fun (j : Nat) => (j : Int)
theorem apN_succ (t : Tr) (l : List (Int × Int)) (a b : E3) (i : Nat) : apN t l a b (i + 1) = if alikeF t a b (l.getD i (0, 0)).1 (l.getD i (0, 0)).2 = true then apN t l a b i else apN t l a b i ++ [(i : Int)] := by
  unfold apN
  rw [List.range_succ, List.filter_append, List.map_append]
  cases h : alikeF t a b (l.getD i (0, 0)).1 (l.getD i (0, 0)).2
  · rw [if_neg Bool.false_ne_true, List.filter_cons, if_pos (by rw [h]; rfl)]; rfl
  · rw [if_pos rfl, List.filter_cons, if_neg (by rw [h]; exact Bool.false_ne_true)]; simp
theorem apN_len (t : Tr) (l : List (Int × Int)) (a b : E3) (i : Nat) : (apN t l a b i).length ≤ i := by
  unfold apN
  rw [List.length_map]
  exact Nat.le_trans (List.length_filter_le _ _) (by simp)
def apL (t : Tr) (l : List (Int × Int)) (a b : E3) : List Int := apN t l a b l.length
/-- For each two truths that must be told apart: the offers that do. -/
def prs (t : Tr) (l : List (Int × Int)) (G B : List E3) (k m : Nat) : List (List Int) := ((G.take k).flatMap fun a => B.map fun b => apL t l a b) ++ (B.take m).map fun b => apL t l (G.getD k (0, 0, 0)) b
theorem prs_m {t : Tr} {l : List (Int × Int)} {G B : List E3} {k m : Nat} (h : m < B.length) : prs t l G B k (m + 1) = prs t l G B k m ++ [apL t l (G.getD k (0, 0, 0)) (B.getD m (0, 0, 0))] := by
  unfold prs
  rw [takeT_succ h, List.map_append, List.append_assoc]; rfl
theorem prs_k {t : Tr} {l : List (Int × Int)} {G B : List E3} {k : Nat} (h : k < G.length) : prs t l G B (k + 1) 0 = prs t l G B k B.length := by
  unfold prs
  rw [takeT_succ h, List.flatMap_append, List.take_length]; simp
theorem prs_len (t : Tr) (l : List (Int × Int)) (G B : List E3) {k m : Nat} (hk : k ≤ G.length) (hm : m ≤ B.length) : (prs t l G B k m).length = k * B.length + m := by
  have : ∀ (L : List E3), (L.flatMap fun a => B.map fun b => apL t l a b).length = L.length * B.length := fun L => by
    induction L with
    | nil => simp
    | cons a L ih => rw [List.flatMap_cons, List.length_append, ih, List.length_map, List.length_cons, Nat.add_mul]; omega
  unfold prs
  rw [List.length_append, this, List.length_map, List.length_take, List.length_take]
  rw [Nat.min_eq_left hk, Nat.min_eq_left hm]
theorem prod_bd : ∀ g : Fin 344, g.1 * (343 - g.1) ≤ 29412 := by decide +kernel
theorem prod_le {g b : Nat} (h : g + b ≤ 343) : g * b ≤ 29412 := Nat.le_trans (Nat.mul_le_mul_left _ (by omega : b ≤ 343 - g)) (prod_bd ⟨g, by omega⟩)
theorem two_len (p : E3 → Bool) (q : E3 → Bool) (hq : ∀ e, q e = !p e) : ∀ L : List E3, (L.filter p).length + (L.filter q).length = L.length := by
  intro L
  induction L with
  | nil => rfl
  | cons a L ih =>
    rw [List.filter_cons, List.filter_cons, hq a]
    cases h : p a
    · simp; omega
    · simp; omega
theorem prs_ap {t : Tr} {l : List (Int × Int)} {G B : List E3} {k m : Nat} {ap : List Int} (h : ap ∈ prs t l G B k m) : ap.length ≤ l.length := by
  unfold prs at h
  rcases List.mem_append.1 h with h | h
  · obtain ⟨a, _, h⟩ := List.mem_flatMap.1 h
    obtain ⟨b, _, rfl⟩ := List.mem_map.1 h
    exact apN_len t l a b l.length
  · obtain ⟨b, _, rfl⟩ := List.mem_map.1 h
    exact apN_len t l _ b l.length
def gdL (t : Tr) (tol : Int) : List E3 := (truthsL t []).filter (goodB t tol)
def bdL (t : Tr) (tol : Int) : List E3 := (truthsL t []).filter (badB t tol)
theorem gb_len {t : Tr} (hv : VT t) (tol : Int) : (gdL t tol).length + (bdL t tol).length ≤ 343 := by
  unfold gdL bdL
  rw [two_len (goodB t tol) (badB t tol) (fun _ => rfl)]
  exact Nat.le_trans (List.length_filter_le _ _) (every_len hv)
def pairsL (t : Tr) (tol : Int) (l : List (Int × Int)) : List (List Int) := prs t l (gdL t tol) (bdL t tol) (gdL t tol).length 0
def fewestE (t : Tr) (tol : Int) (l : List (Int × Int)) : List Int × Int :=
  if ¬ tolE t tol = 0 then ([], tolE t tol) else if 4 < l.length then ([], 3) else if l.all (offB t) = false then ([], 2) else if ¬ askedE t = 0 then ([], askedE t)
  else match searchT (fewP (pairsL t tol l)) l.length with
    | none => ([], 9)
    | some r => (r, 0)
theorem getD_memE {L : List E3} {k : Nat} (h : k < L.length) : L.getD k (0, 0, 0) ∈ L := by rw [List.getD_eq_getElem?_getD, List.getElem?_eq_getElem h]; exact List.getElem_mem h
theorem CnV.toX {P : Program} {f : FuncId} {args : Array Value} {w : World} {v : Value} {S : List Nat} {α : Type} {val : α → Value} {p : α → World → Prop} (h : CnV P f args w v) (x : α) (hv : val x = v) (hp : ∀ w', Fr [] w w' → p x w') : CnX P f args w S val p :=
  CnX.of ((CnV.out h).mono fun e w' he => ⟨x, by rw [he.1, hv], he.2.mono (fun y hy => by simp at hy), hp w' he.2⟩)
theorem few_pass (t : Tr) (ps : List (List Int)) (n : Nat) (hps : (ps.length : Int) ≤ 9000000000000000000) (hpa : ∀ ap ∈ ps, (ap.length : Int) ≤ 9000000000000000000) (b13 bm : Nat) (hne : b13 ≠ bm) (u : Value) (es : Array MapEntry) (ck : Nat) (w : World) (hb : w.heap[b13]? = some (.cells #[u] 54 (0, 0))) (hm : w.heap[bm]? = some (.map es ck)) (hu : RdLL w u ps) :
    Pass Tryz.prog 89 #[ptr b13] (fewP ps) n [bm] bm (fun o => o = .map es ck) w := by
  intro w1 o xs v f1 h1 hJ hx hsep hone hlen _
  have hc := few3_c xs (by omega) ps hps hpa v u hone b13 w1 (f1.keepS (by simpa using hne) hb) hx (hu.frM f1 ⟨_, _, hm⟩)
  exact CnV.toX (by simpa using hc) o rfl (fun w' f => ⟨hJ, f.keep h1⟩)
theorem ba_out {a b c d e : Nat} (h : ([a, b, c, d, e] : List Nat).Nodup) : b ∉ [a, c, d, e] := by
  simp only [List.nodup_cons, List.mem_cons, List.not_mem_nil, not_or, or_false] at h ⊢
  exact ⟨Ne.symm h.1.1, h.2.1.1, h.2.1.2.1, h.2.1.2.2⟩
set_option maxHeartbeats 4000000 in
theorem fewest_c (t : Tr) (hn : NT t) (tol : Int) (htol : tol ≤ 1000) (l : List (Int × Int)) (hl : (l.length : Int) ≤ 9000000000000000000) (sl pl ll tl lv : Value) (w : World) (hr : RdTr w t sl pl ll tl) (hL : RdR w lv l) :
    CnX Tryz.prog 31 #[trV t sl pl ll tl, vi tol, lv] w [] (fun y : Value => .tuple #[y, vi (fewestE t tol l).2]) (fun y w' => RdI w' y (fewestE t tol l).1) := by
  have hr0 := hr
  have hL0 := hL
  have hT : tolE t tol = 0 → VT t ∧ 0 ≤ tol := fun h => by
    unfold tolE at h
    split at h
    · omega
    · split at h
      · omega
      · exact ⟨chkT_0.1 (by omega), by omega⟩
  obtain ⟨adl, cpl, bl, ol, rfl, hadl, hcl⟩ := hL.open
  refine cnx0 (vs := [_, _, _]) Tryz.func31 rfl rfl ?_
  all_goals refine tc_seq fun K1 hK1 => ?_; refine tc_region ?_; refine tl_e (e_box rfl rfl rfl) rfl (fun b3 _ => ?_); refine tl_q (y_assign rfl) rfl ?_; refine tl_q (y_assign rfl) rfl ?_; refine tl_nil ?_; ((refine hK1 ?_; try (clear hK1; clear K1)))
  all_goals refine tc_seq fun K2 hK2 => ?_; refine tc_seq fun K3 hK3 => ?_; refine tc_lay ([]) (SB.s (by repeat constructor)) (fun wl1 hl1 => ?_); refine tc_region ?_; refine tl_q (y_loadWf rfl (hl1.at (by repeat constructor)) (MI.m (by repeat constructor)) (by simp) (by rfl)) rfl ?_; refine tl_q (y_move rfl) rfl ?_; refine tl_e (e_callV rfl (.cons rfl (.cons rfl .nil)) (fun w' hw' => tolerant_c t hn tol sl pl ll tl w' (hr0.fr (hw'.fr (w0 := w) (S := []) (MI.m (by repeat constructor)))))) rfl (fun _ _ => ?_); refine tl_q (y_assign rfl) rfl ?_; refine tl_nil ?_; ((refine hK3 ?_; try (clear hK3; clear K3)))
  all_goals refine tc_seq fun K4 hK4 => ?_; refine tc_region ?_; refine tl_q (y_move rfl) rfl ?_; refine tl_q (y_neq rfl rfl) rfl ?_; refine tl_nil ?_; ((refine hK4 ?_; try (clear hK4; clear K4)))
  all_goals (
   refine tc_cond rfl (fun hc => ?_) (fun hc => ?_)
   · try simp only [decide_eq_true_eq, decide_eq_false_iff_not, Int.not_lt, Int.not_le, Bool.not_eq_true', Bool.not_eq_false', Decidable.not_not, not_true_eq_false] at hc
     all_goals refine tc_seq fun K5 hK5 => ?_; refine tc_region ?_; refine tl_q (y_move rfl) rfl ?_; refine tl_q (y_assign rfl) rfl ?_; refine tl_q (y_assign rfl) rfl ?_; refine tl_nil ?_; ((refine hK5 ?_; try (clear hK5; clear K5)))
     all_goals refine tc_ret ?_; (repeat (refine tk_then_ret ?_))
     all_goals (refine tk_ret rfl rfl (.cons (.tmp rfl) (.cons (.tmp rfl) .nil)) ?_)
     all_goals (
      first
      | (have hE : fewestE t tol l = ([], tolE t tol) := if_pos (by assumption)
         rw [hE]; exact fun w' hw' => ⟨_, rfl, hw'.fr (w0 := w) (S := []) (MI.m (by repeat constructor)), RdI.nil _⟩)
      | (have hE : fewestE t tol l = ([], 3) := by unfold fewestE; rw [if_neg (by omega), if_pos (by omega)]
         rw [hE]; exact fun w' hw' => ⟨_, rfl, hw'.fr (w0 := w) (S := []) (MI.m (by repeat constructor)), RdI.nil _⟩)
      | (have hE : fewestE t tol l = ([], 2) := by unfold fewestE; rw [if_neg (by omega), if_neg (by omega), if_pos (by assumption)]
         rw [hE]; exact fun w' hw' => ⟨_, rfl, hw'.fr (w0 := w) (S := []) (MI.m (by repeat constructor)), RdI.nil _⟩)
      | (have hE : fewestE t tol l = ([], askedE t) := by unfold fewestE; rw [if_neg (by omega), if_neg (by omega), if_neg (by rw [hall]; exact Bool.noConfusion), if_pos hA]
         rw [hE]; exact fun w' hw' => ⟨_, rfl, hw'.fr (w0 := w) (S := []) (MI.m (by repeat constructor)), RdI.nil _⟩)
      | (have hE : fewestE t tol l = ([], 9) := by unfold fewestE; rw [if_neg (by omega), if_neg (by omega), if_neg (by rw [hall]; exact Bool.noConfusion), if_neg (by omega), hsr]
         rw [hE]; exact fun w' hw' => ⟨_, rfl, hw'.fr (w0 := w) (S := []) (MI.m (by repeat constructor)), RdI.nil _⟩)
      | (have hE : fewestE t tol l = (rs, 0) := by unfold fewestE; rw [if_neg (by omega), if_neg (by omega), if_neg (by rw [hall]; exact Bool.noConfusion), if_neg (by omega), hsr]
         rw [hE]; exact fun w' hw' => ⟨v.1.1, rfl, hw'.fr (w0 := w) (S := []) (MI.m (by repeat constructor)), hv3.2.2.fr (hw'.fr (w0 := v.2.2) (S := []) (MI.m (by repeat constructor)))⟩))
   · try simp only [decide_eq_true_eq, decide_eq_false_iff_not, Int.not_lt, Int.not_le, Bool.not_eq_true', Bool.not_eq_false', Decidable.not_not, not_true_eq_false] at hc
     all_goals refine tc_skip ?_; ((refine hK2 ?_; try (clear hK2; clear K2)))
     all_goals refine tc_seq fun K6 hK6 => ?_; (obtain ⟨hv, ht0⟩ := hT (by omega))
     all_goals refine tc_region ?_; refine tl_q (y_loadWf rfl (hl1.at (by repeat constructor)) (MI.m (by repeat constructor)) (by simp) (by rfl)) rfl ?_; refine tl_q (y_fn (.cons rfl .nil) .nil) rfl ?_; refine tl_q (y_assign rfl) rfl ?_; refine tl_nil ?_; ((refine hK6 ?_; try (clear hK6; clear K6)))
     all_goals refine tc_seq fun K7 hK7 => ?_; refine tc_block ?_; refine tc_seq fun K8 hK8 => ?_; refine tc_region ?_; refine tl_q (y_move rfl) rfl ?_; refine tl_q (y_len rfl) rfl ?_; refine tl_q (y_gtr rfl rfl) rfl ?_; refine tl_q (y_assign rfl) rfl ?_; refine tl_nil ?_; ((refine hK8 ?_; try (clear hK8; clear K8)))
     all_goals (
      refine tc_cond rfl (fun hc => ?_) (fun hc => ?_)
      · try simp only [decide_eq_true_eq, decide_eq_false_iff_not, Int.not_lt, Int.not_le, Bool.not_eq_true', Bool.not_eq_false', Decidable.not_not, not_true_eq_false] at hc
        all_goals refine tc_seq fun K9 hK9 => ?_; refine tc_region ?_; refine tl_q (y_assign rfl) rfl ?_; refine tl_q (y_assign rfl) rfl ?_; refine tl_nil ?_; ((refine hK9 ?_; try (clear hK9; clear K9)))
        all_goals refine tc_ret ?_; (repeat (first | refine tk_then_ret ?_ | refine tk_block_ret ?_))
        all_goals (refine tk_ret rfl rfl (.cons (.tmp rfl) (.cons (.tmp rfl) .nil)) ?_)
        all_goals (
         first
         | (have hE : fewestE t tol l = ([], tolE t tol) := if_pos (by assumption)
            rw [hE]; exact fun w' hw' => ⟨_, rfl, hw'.fr (w0 := w) (S := []) (MI.m (by repeat constructor)), RdI.nil _⟩)
         | (have hE : fewestE t tol l = ([], 3) := by unfold fewestE; rw [if_neg (by omega), if_pos (by omega)]
            rw [hE]; exact fun w' hw' => ⟨_, rfl, hw'.fr (w0 := w) (S := []) (MI.m (by repeat constructor)), RdI.nil _⟩)
         | (have hE : fewestE t tol l = ([], 2) := by unfold fewestE; rw [if_neg (by omega), if_neg (by omega), if_pos (by assumption)]
            rw [hE]; exact fun w' hw' => ⟨_, rfl, hw'.fr (w0 := w) (S := []) (MI.m (by repeat constructor)), RdI.nil _⟩)
         | (have hE : fewestE t tol l = ([], askedE t) := by unfold fewestE; rw [if_neg (by omega), if_neg (by omega), if_neg (by rw [hall]; exact Bool.noConfusion), if_pos hA]
            rw [hE]; exact fun w' hw' => ⟨_, rfl, hw'.fr (w0 := w) (S := []) (MI.m (by repeat constructor)), RdI.nil _⟩)
         | (have hE : fewestE t tol l = ([], 9) := by unfold fewestE; rw [if_neg (by omega), if_neg (by omega), if_neg (by rw [hall]; exact Bool.noConfusion), if_neg (by omega), hsr]
            rw [hE]; exact fun w' hw' => ⟨_, rfl, hw'.fr (w0 := w) (S := []) (MI.m (by repeat constructor)), RdI.nil _⟩)
         | (have hE : fewestE t tol l = (rs, 0) := by unfold fewestE; rw [if_neg (by omega), if_neg (by omega), if_neg (by rw [hall]; exact Bool.noConfusion), if_neg (by omega), hsr]
            rw [hE]; exact fun w' hw' => ⟨v.1.1, rfl, hw'.fr (w0 := w) (S := []) (MI.m (by repeat constructor)), hv3.2.2.fr (hw'.fr (w0 := v.2.2) (S := []) (MI.m (by repeat constructor)))⟩))
      · try simp only [decide_eq_true_eq, decide_eq_false_iff_not, Int.not_lt, Int.not_le, Bool.not_eq_true', Bool.not_eq_false', Decidable.not_not, not_true_eq_false] at hc
        all_goals refine tc_seq fun K10 hK10 => ?_; refine tc_region ?_; refine tl_q (y_move rfl) rfl ?_; refine tl_q (y_move rfl) rfl ?_; refine tl_e (e_callV rfl (.cons rfl (.cons rfl .nil)) (fun w' hw' => allO_c 84 #[trV t sl pl ll tl] #[] (offB t) l hl _ w' (hL0.fr (hw'.fr (w0 := w) (S := []) (MI.m (by repeat constructor)))) (fun x w2 f => offer_c t x sl pl ll tl w2 ((hr0.ws.fr (hw'.fr (w0 := w) (S := []) (MI.m (by repeat constructor)))).fr f)))) rfl (fun _ _ => ?_); refine tl_q (y_not rfl) rfl ?_; refine tl_q (y_assign rfl) rfl ?_; refine tl_nil ?_; ((refine hK10 ?_; try (clear hK10; clear K10)))
        all_goals (
         refine tc_cond rfl (fun hc => ?_) (fun hc => ?_)
         · try simp only [decide_eq_true_eq, decide_eq_false_iff_not, Int.not_lt, Int.not_le, Bool.not_eq_true', Bool.not_eq_false', Decidable.not_not, not_true_eq_false] at hc
           all_goals refine tc_seq fun K11 hK11 => ?_; refine tc_region ?_; refine tl_q (y_assign rfl) rfl ?_; refine tl_q (y_assign rfl) rfl ?_; refine tl_nil ?_; ((refine hK11 ?_; try (clear hK11; clear K11)))
           all_goals refine tc_ret ?_; (repeat (first | refine tk_then_ret ?_ | refine tk_block_ret ?_))
           all_goals (refine tk_ret rfl rfl (.cons (.tmp rfl) (.cons (.tmp rfl) .nil)) ?_)
           all_goals (
            first
            | (have hE : fewestE t tol l = ([], tolE t tol) := if_pos (by assumption)
               rw [hE]; exact fun w' hw' => ⟨_, rfl, hw'.fr (w0 := w) (S := []) (MI.m (by repeat constructor)), RdI.nil _⟩)
            | (have hE : fewestE t tol l = ([], 3) := by unfold fewestE; rw [if_neg (by omega), if_pos (by omega)]
               rw [hE]; exact fun w' hw' => ⟨_, rfl, hw'.fr (w0 := w) (S := []) (MI.m (by repeat constructor)), RdI.nil _⟩)
            | (have hE : fewestE t tol l = ([], 2) := by unfold fewestE; rw [if_neg (by omega), if_neg (by omega), if_pos (by assumption)]
               rw [hE]; exact fun w' hw' => ⟨_, rfl, hw'.fr (w0 := w) (S := []) (MI.m (by repeat constructor)), RdI.nil _⟩)
            | (have hE : fewestE t tol l = ([], askedE t) := by unfold fewestE; rw [if_neg (by omega), if_neg (by omega), if_neg (by rw [hall]; exact Bool.noConfusion), if_pos hA]
               rw [hE]; exact fun w' hw' => ⟨_, rfl, hw'.fr (w0 := w) (S := []) (MI.m (by repeat constructor)), RdI.nil _⟩)
            | (have hE : fewestE t tol l = ([], 9) := by unfold fewestE; rw [if_neg (by omega), if_neg (by omega), if_neg (by rw [hall]; exact Bool.noConfusion), if_neg (by omega), hsr]
               rw [hE]; exact fun w' hw' => ⟨_, rfl, hw'.fr (w0 := w) (S := []) (MI.m (by repeat constructor)), RdI.nil _⟩)
            | (have hE : fewestE t tol l = (rs, 0) := by unfold fewestE; rw [if_neg (by omega), if_neg (by omega), if_neg (by rw [hall]; exact Bool.noConfusion), if_neg (by omega), hsr]
               rw [hE]; exact fun w' hw' => ⟨v.1.1, rfl, hw'.fr (w0 := w) (S := []) (MI.m (by repeat constructor)), hv3.2.2.fr (hw'.fr (w0 := v.2.2) (S := []) (MI.m (by repeat constructor)))⟩))
         · try simp only [decide_eq_true_eq, decide_eq_false_iff_not, Int.not_lt, Int.not_le, Bool.not_eq_true', Bool.not_eq_false', Decidable.not_not, not_true_eq_false] at hc
           all_goals refine tc_skip ?_; ((refine hK7 ?_; try (clear hK7; clear K7)))
           all_goals refine tc_seq fun K12 hK12 => ?_; (have hall : l.all (offB t) = true := by assumption)
           all_goals (have hgbl := gb_len hv tol)
           all_goals rcases Decidable.em (askedE t = 0) with hA | hA
           all_goals refine tc_region ?_; refine tl_q (y_loadWf rfl (hl1.at (by repeat constructor)) (MI.m (by repeat constructor)) (by simp) (by rfl)) rfl ?_; (first | refine tl_e (e_callBX (bk := fun y : (Nat × Nat) × (Option Addr × Nat) × Array MapEntry × Nat => y.1.2) (ob := fun y => .map y.2.2.1 y.2.2.2) rfl (.cons rfl .nil) (fun w' hw' => asked_ok t hn hA sl pl ll tl w' (hr0.fr (hw'.fr (w0 := w) (S := []) (MI.m (by repeat constructor)))))) rfl (fun y hy => ?_) | refine tl_e (e_callV rfl (.cons rfl .nil) (fun w' hw' => asked_no t hn hA sl pl ll tl w' (hr0.fr (hw'.fr (w0 := w) (S := []) (MI.m (by repeat constructor)))))) rfl (fun y hy => ?_)); refine tl_q (y_move rfl) rfl ?_; refine tl_q (y_extract rfl rfl) rfl ?_; refine tl_q (y_extract rfl rfl) rfl ?_; refine tl_q (y_extract rfl rfl) rfl ?_; refine tl_q (y_assign rfl) rfl ?_; refine tl_q (y_assign rfl) rfl ?_; refine tl_q (y_assign rfl) rfl ?_; refine tl_nil ?_; ((refine hK12 ?_; try (clear hK12; clear K12)))
           all_goals refine tc_seq fun K13 hK13 => ?_; refine tc_seq fun K14 hK14 => ?_; refine tc_region ?_; refine tl_q (y_move rfl) rfl ?_; refine tl_q (y_neq rfl rfl) rfl ?_; refine tl_nil ?_; ((refine hK14 ?_; try (clear hK14; clear K14)))
           all_goals (
            refine tc_cond rfl (fun hc => ?_) (fun hc => ?_)
            · try simp only [decide_eq_true_eq, decide_eq_false_iff_not, Int.not_lt, Int.not_le, Bool.not_eq_true', Bool.not_eq_false', Decidable.not_not, not_true_eq_false] at hc
              all_goals refine tc_seq fun K15 hK15 => ?_; refine tc_region ?_; refine tl_q (y_move rfl) rfl ?_; refine tl_q (y_assign rfl) rfl ?_; refine tl_q (y_assign rfl) rfl ?_; refine tl_nil ?_; ((refine hK15 ?_; try (clear hK15; clear K15)))
              all_goals refine tc_ret ?_; (repeat (refine tk_then_ret ?_))
              all_goals (refine tk_ret rfl rfl (.cons (.tmp rfl) (.cons (.tmp rfl) .nil)) ?_)
              all_goals (
               first
               | (have hE : fewestE t tol l = ([], tolE t tol) := if_pos (by assumption)
                  rw [hE]; exact fun w' hw' => ⟨_, rfl, hw'.fr (w0 := w) (S := []) (MI.m (by repeat constructor)), RdI.nil _⟩)
               | (have hE : fewestE t tol l = ([], 3) := by unfold fewestE; rw [if_neg (by omega), if_pos (by omega)]
                  rw [hE]; exact fun w' hw' => ⟨_, rfl, hw'.fr (w0 := w) (S := []) (MI.m (by repeat constructor)), RdI.nil _⟩)
               | (have hE : fewestE t tol l = ([], 2) := by unfold fewestE; rw [if_neg (by omega), if_neg (by omega), if_pos (by assumption)]
                  rw [hE]; exact fun w' hw' => ⟨_, rfl, hw'.fr (w0 := w) (S := []) (MI.m (by repeat constructor)), RdI.nil _⟩)
               | (have hE : fewestE t tol l = ([], askedE t) := by unfold fewestE; rw [if_neg (by omega), if_neg (by omega), if_neg (by rw [hall]; exact Bool.noConfusion), if_pos hA]
                  rw [hE]; exact fun w' hw' => ⟨_, rfl, hw'.fr (w0 := w) (S := []) (MI.m (by repeat constructor)), RdI.nil _⟩)
               | (have hE : fewestE t tol l = ([], 9) := by unfold fewestE; rw [if_neg (by omega), if_neg (by omega), if_neg (by rw [hall]; exact Bool.noConfusion), if_neg (by omega), hsr]
                  rw [hE]; exact fun w' hw' => ⟨_, rfl, hw'.fr (w0 := w) (S := []) (MI.m (by repeat constructor)), RdI.nil _⟩)
               | (have hE : fewestE t tol l = (rs, 0) := by unfold fewestE; rw [if_neg (by omega), if_neg (by omega), if_neg (by rw [hall]; exact Bool.noConfusion), if_neg (by omega), hsr]
                  rw [hE]; exact fun w' hw' => ⟨v.1.1, rfl, hw'.fr (w0 := w) (S := []) (MI.m (by repeat constructor)), hv3.2.2.fr (hw'.fr (w0 := v.2.2) (S := []) (MI.m (by repeat constructor)))⟩))
            · try simp only [decide_eq_true_eq, decide_eq_false_iff_not, Int.not_lt, Int.not_le, Bool.not_eq_true', Bool.not_eq_false', Decidable.not_not, not_true_eq_false] at hc
              all_goals ((first | (exfalso; omega) | skip))
              all_goals refine tc_skip ?_; ((refine hK13 ?_; try (clear hK13; clear K13)))
              all_goals refine tc_seq fun K16 hK16 => ?_; (have hTW : TW y.2 t sl pl ll tl y.1.1.1 y.1.1.2 y.1.2.2.1 y.1.2.2.2 := ⟨hr0.fr (hy.2.fr (w0 := w) (S := []) (MI.m (by repeat constructor))), hy.1.2.2.1, hy.2.heap _ (HM.mem (by repeat constructor)), hy.1.2.1, hr0.ws.one, hr0.ps.one, hr0.ls.one, hr0.ts.one⟩)
              all_goals ((have hrdT : ∀ w', Fr [y.1.1.2] y.2 w' → RdT w' (slV (truthsL t []).length y.1.2.1) (truthsL t []) := fun w' f => Reads.frM hy.1.1 f (fun z hz => by obtain rfl := List.mem_singleton.1 hz; exact ⟨_, _, hy.2.heap _ (HM.mem .head)⟩)))
              all_goals (have htl : (truthsL t []).length ≤ 343 := Nat.le_trans (List.length_filter_le _ _) (every_len hv))
              all_goals refine tc_region ?_; refine tl_e (e_alloc1 rfl) rfl (fun b13 _ => ?_); refine tl_nil ?_; ((refine hK16 ?_; try (clear hK16; clear K16)))
              all_goals refine tc_seq fun K17 hK17 => ?_; refine tc_region ?_; refine tl_q (y_loadWf rfl (hl1.at (by repeat constructor)) (MI.m (by repeat constructor)) (by simp) (by rfl)) rfl ?_; refine tl_q (y_move rfl) rfl ?_; refine tl_q (y_move rfl) rfl ?_; (refine tl_e (e_callX rfl (.cons rfl (.cons rfl (.cons rfl .nil))) (fun w' hw' => ((split_c t hv (truthsL t []) htl (fun e he => truths_bd hv he) tol ⟨ht0, htol⟩ sl pl ll tl _ w' (hr0.fr (hw'.fr (w0 := w) (S := []) (MI.m (by repeat constructor)))) (hrdT w' (hw'.fr (w0 := y.2) (S := [y.1.1.2]) (MI.m (by repeat constructor))))).weak (p' := fun (z : (Option Addr × Nat) × (Option Addr × Nat)) (w2 : World) => (RdT w2 (slV (gdL t tol).length z.1) (gdL t tol) ∧ RdT w2 (slV (bdL t tol).length z.2) (bdL t tol)) ∧ sepS (slV (gdL t tol).length z.1) [b13, y.1.1.2] ∧ sepS (slV (bdL t tol).length z.2) [b13, y.1.1.2]) (fun z w2 _ h => ⟨h.1, (fun p m c e hb => by have h1 := h.2.1 p m c e; have h2 := hw'.lt (HM.mem (b := b13) (by repeat constructor)); have h3 := hw'.lt (HM.mem (b := y.1.1.2) (by repeat constructor)); simp only [List.mem_cons, List.not_mem_nil, or_false] at hb; omega), (fun p m c e hb => by have h1 := h.2.2 p m c e; have h2 := hw'.lt (HM.mem (b := b13) (by repeat constructor)); have h3 := hw'.lt (HM.mem (b := y.1.1.2) (by repeat constructor)); simp only [List.mem_cons, List.not_mem_nil, or_false] at hb; omega)⟩)))) rfl (fun z hz => ?_))
              all_goals refine tl_q (y_move rfl) rfl ?_; refine tl_q (y_extract rfl rfl) rfl ?_; refine tl_q (y_extract rfl rfl) rfl ?_; refine tl_q (y_assign rfl) rfl ?_; refine tl_q (y_assign rfl) rfl ?_; refine tl_nil ?_; ((refine hK17 ?_; try (clear hK17; clear K17)))
              all_goals refine tc_seq fun K18 hK18 => ?_; refine tc_seq fun K19 hK19 => ?_; refine tc_region ?_; refine tl_q (y_move rfl) rfl ?_; refine tl_q (y_len rfl) rfl ?_; refine tl_q (y_move rfl) rfl ?_; refine tl_nil ?_; ((refine hK19 ?_; try (clear hK19; clear K19)))
              all_goals refine tc_block ?_
              all_goals (
               refine tc_loop (fun p : Nat × Option (Nat × Nat × List Value) × List Value × (World × List Nat) × (Array MapEntry × Nat) => p.1 ≤ (gdL t tol).length ∧ outOk ((prs t l (gdL t tol) (bdL t tol) p.1 0).length, p.2.1) ∧ InV p.2.2.2.1.1 p.2.2.2.1.2 p.2.2.1 (prs t l (gdL t tol) (bdL t tol) p.1 0) ∧ Cache (readV t.s) p.2.2.2.2.1.toList) (fun p => [(2, .slice adl l.length cpl), (10, ptr y.1.1.1), (13, ptr b13), (15, slV (bdL t tol).length z.1.2), (58, slV (gdL t tol).length z.1.1), (59, vi (gdL t tol).length), (60, vi p.1)]) (fun p => [(p.2.2.2.1.1, p.2.2.2.1.2), (z.2, [b13, y.1.1.2]), (y.2, [y.1.1.2]), (w, [])]) (fun p => (b13, .cells #[outV' ((prs t l (gdL t tol) (bdL t tol) p.1 0).length, p.2.1)] 54 (0, 0)) :: (y.1.1.2, .map p.2.2.2.2.1 p.2.2.2.2.2) :: slH 22 p.2.2.1 p.2.1) (fun p => (gdL t tol).length - p.1) ?_ ?_
               · exact tk_start (0, none, [], (z.2, [b13, y.1.1.2]), (y.1.2.2.1, y.1.2.2.2)) ⟨Nat.zero_le _, rfl, InV.nil, hy.1.2.1⟩ (.cons rfl (.cons rfl (.cons rfl (.cons rfl (.cons rfl (.cons rfl (.cons rfl .nil))))))) (fun _ h => h.sub (fun β hβ => by simp only [List.mem_cons, List.not_mem_nil, or_false] at hβ; rcases hβ with rfl | rfl | rfl | rfl <;> simp) (SB.s (by repeat constructor)))
               · rintro ⟨k, oo, vs, ⟨wl, S⟩, ⟨es2, ck2⟩⟩ ⟨hk, hok, hin, hca⟩
                 dsimp only at hk hok hin hca ⊢
                 all_goals refine tc_seq fun K20 hK20 => ?_; refine tc_region ?_; refine tl_q (y_lss rfl rfl) rfl ?_; refine tl_nil ?_; ((refine hK20 ?_; try (clear hK20; clear K20)))
                 all_goals refine tc_seq fun K21 hK21 => ?_
                 all_goals (
                  refine tc_cond rfl (fun hc => ?_) (fun hc => ?_)
                  · try simp only [decide_eq_true_eq, decide_eq_false_iff_not, Int.not_lt, Int.not_le, Bool.not_eq_true', Bool.not_eq_false', Decidable.not_not, not_true_eq_false] at hc
                    all_goals refine tc_skip ?_; ((refine hK21 ?_; try (clear hK21; clear K21)))
                    all_goals refine tc_seq fun K22 hK22 => ?_; refine tc_block ?_; refine tc_seq fun K23 hK23 => ?_; (have hGr : ∀ w', Fr [b13, y.1.1.2] z.2 w' → RdT w' (slV (gdL t tol).length z.1.1) (gdL t tol) := fun w' f => Reads.frS hz.1.1.1 f hz.1.2.1)
                    all_goals (obtain ⟨bG, oG, hadG⟩ := hz.1.1.1.opens1)
                    all_goals (have hadG' := hadG (by omega))
                    all_goals (have hae : ErB ((gdL t tol).getD k (0, 0, 0)) := truths_bd hv (List.mem_filter.1 (getD_memE (L := (gdL t tol)) (k := k) (by omega))).1)
                    all_goals refine tc_region ?_; refine tl_q (y_index rfl rfl (by omega) hadG') rfl ?_; ((refine tl_q (y_loadNo (n := 3) (vs := [vi ((gdL t tol).getD k (0, 0, 0)).1, vi ((gdL t tol).getD k (0, 0, 0)).2.1, vi ((gdL t tol).getD k (0, 0, 0)).2.2]) rfl (fun w' hw' => by rw [show Int.toNat (k : Int) * 3 = k * 3 from by omega]; exact (hGr w' (hw'.fr (w0 := z.2) (S := [b13, y.1.1.2]) (MI.m (by repeat constructor)))).at1 hadG' (by omega))) rfl ?_))
                    all_goals refine tl_e (e_allocN rfl) rfl (fun b17 _ => ?_); refine tl_e (e_storeW rfl rfl (by repeat constructor) (by rfl) (by rfl) (by simp [Value.oneCell'])) rfl (fun _ _ => ?_); refine tl_nil ?_; ((refine hK23 ?_; try (clear hK23; clear K23)))
                    all_goals refine tc_seq fun K24 hK24 => ?_; refine tc_region ?_; refine tl_q (y_move rfl) rfl ?_; refine tl_q (y_len rfl) rfl ?_; refine tl_q (y_move rfl) rfl ?_; refine tl_nil ?_; ((refine hK24 ?_; try (clear hK24; clear K24)))
                    all_goals refine tc_block ?_
                    all_goals (
                     refine tc_loop (fun p : Nat × Option (Nat × Nat × List Value) × List Value × (World × List Nat) × (Array MapEntry × Nat) => p.1 ≤ (bdL t tol).length ∧ outOk ((prs t l (gdL t tol) (bdL t tol) k p.1).length, p.2.1) ∧ InV p.2.2.2.1.1 p.2.2.2.1.2 p.2.2.1 (prs t l (gdL t tol) (bdL t tol) k p.1) ∧ Cache (readV t.s) p.2.2.2.2.1.toList) (fun p => [(2, .slice adl l.length cpl), (10, ptr y.1.1.1), (13, ptr b13), (15, slV (bdL t tol).length z.1.2), (58, slV (gdL t tol).length z.1.1), (59, vi (gdL t tol).length), (60, vi k), (17, ptr b17), (64, slV (bdL t tol).length z.1.2), (65, vi (bdL t tol).length), (66, vi p.1)]) (fun p => [(p.2.2.2.1.1, p.2.2.2.1.2), (z.2, [b13, y.1.1.2]), (y.2, [y.1.1.2]), (w, [])]) (fun p => (b17, Obj.cells #[vi ((gdL t tol).getD k (0, 0, 0)).1, vi ((gdL t tol).getD k (0, 0, 0)).2.1, vi ((gdL t tol).getD k (0, 0, 0)).2.2] 126 (0, 0)) :: (b13, .cells #[outV' ((prs t l (gdL t tol) (bdL t tol) k p.1).length, p.2.1)] 54 (0, 0)) :: (y.1.1.2, .map p.2.2.2.2.1 p.2.2.2.2.2) :: slH 22 p.2.2.1 p.2.1) (fun p => (bdL t tol).length - p.1) ?_ ?_
                     · exact tk_start (0, oo, vs, (wl, S), (es2, ck2)) ⟨Nat.zero_le _, hok, hin, hca⟩ (.cons rfl (.cons rfl (.cons rfl (.cons rfl (.cons rfl (.cons rfl (.cons rfl (.cons rfl (.cons rfl (.cons rfl (.cons rfl .nil))))))))))) (fun _ h => h.subl (SB.s (by repeat constructor)) (SB.s (by repeat constructor)))
                     · rintro ⟨m, oo1, vs1, ⟨wl1, S1⟩, ⟨es3, ck3⟩⟩ ⟨hm, hok1, hin1, hca1⟩
                       dsimp only at hm hok1 hin1 hca1 ⊢
                       all_goals refine tc_seq fun K25 hK25 => ?_; refine tc_region ?_; refine tl_q (y_lss rfl rfl) rfl ?_; refine tl_nil ?_; ((refine hK25 ?_; try (clear hK25; clear K25)))
                       all_goals refine tc_seq fun K26 hK26 => ?_
                       all_goals (
                        refine tc_cond rfl (fun hc => ?_) (fun hc => ?_)
                        · try simp only [decide_eq_true_eq, decide_eq_false_iff_not, Int.not_lt, Int.not_le, Bool.not_eq_true', Bool.not_eq_false', Decidable.not_not, not_true_eq_false] at hc
                          all_goals refine tc_skip ?_; ((refine hK26 ?_; try (clear hK26; clear K26)))
                          all_goals refine tc_seq fun K27 hK27 => ?_; refine tc_block ?_; refine tc_seq fun K28 hK28 => ?_; (have hBr : ∀ w', Fr [b13, y.1.1.2] z.2 w' → RdT w' (slV (bdL t tol).length z.1.2) (bdL t tol) := fun w' f => Reads.frS hz.1.1.2 f hz.1.2.2)
                          all_goals (obtain ⟨bB, oB, hadB⟩ := hz.1.1.2.opens1)
                          all_goals (have hadB' := hadB (by omega))
                          all_goals (have hbe : ErB ((bdL t tol).getD m (0, 0, 0)) := truths_bd hv (List.mem_filter.1 (getD_memE (L := (bdL t tol)) (k := m) (by omega))).1)
                          all_goals refine tc_region ?_; refine tl_q (y_index rfl rfl (by omega) hadB') rfl ?_; ((refine tl_q (y_loadNo (n := 3) (vs := [vi ((bdL t tol).getD m (0, 0, 0)).1, vi ((bdL t tol).getD m (0, 0, 0)).2.1, vi ((bdL t tol).getD m (0, 0, 0)).2.2]) rfl (fun w' hw' => by rw [show Int.toNat (m : Int) * 3 = m * 3 from by omega]; exact (hBr w' (hw'.fr (w0 := z.2) (S := [b13, y.1.1.2]) (MI.m (by repeat constructor)))).at1 hadB' (by omega))) rfl ?_))
                          all_goals refine tl_e (e_allocN rfl) rfl (fun b19 _ => ?_); refine tl_e (e_storeW rfl rfl (by repeat constructor) (by rfl) (by rfl) (by simp [Value.oneCell'])) rfl (fun _ _ => ?_); refine tl_nil ?_; ((refine hK28 ?_; try (clear hK28; clear K28)))
                          all_goals refine tc_seq fun K29 hK29 => ?_; refine tc_region ?_; refine tl_q (y_assign rfl) rfl ?_; refine tl_nil ?_; ((refine hK29 ?_; try (clear hK29; clear K29)))
                          all_goals refine tc_seq fun K30 hK30 => ?_; refine tc_seq fun K31 hK31 => ?_; refine tc_region ?_; refine tl_q (y_move rfl) rfl ?_; refine tl_q (y_len rfl) rfl ?_; refine tl_q (y_move rfl) rfl ?_; refine tl_nil ?_; ((refine hK31 ?_; try (clear hK31; clear K31)))
                          all_goals refine tc_block ?_
                          all_goals (
                           refine tc_loop (fun p : Nat × Option (Nat × Nat × List Value) × (Array MapEntry × Nat) => p.1 ≤ l.length ∧ outOk ((apN t l ((gdL t tol).getD k (0, 0, 0)) ((bdL t tol).getD m (0, 0, 0)) p.1).length, p.2.1) ∧ Cache (readV t.s) p.2.2.1.toList) (fun p => [(2, .slice adl l.length cpl), (10, ptr y.1.1.1), (13, ptr b13), (15, slV (bdL t tol).length z.1.2), (58, slV (gdL t tol).length z.1.1), (59, vi (gdL t tol).length), (60, vi k), (17, ptr b17), (64, slV (bdL t tol).length z.1.2), (65, vi (bdL t tol).length), (66, vi m), (19, ptr b19), (20, outV' ((apN t l ((gdL t tol).getD k (0, 0, 0)) ((bdL t tol).getD m (0, 0, 0)) p.1).length, p.2.1)), (70, .slice adl l.length cpl), (71, vi l.length), (72, vi p.1)]) (fun p => [(wl1, S1), (z.2, [b13, y.1.1.2]), (y.2, [y.1.1.2]), (w, [])]) (fun p => slH 3 ((apN t l ((gdL t tol).getD k (0, 0, 0)) ((bdL t tol).getD m (0, 0, 0)) p.1).map vi) p.2.1 ++ ((b19, Obj.cells #[vi ((bdL t tol).getD m (0, 0, 0)).1, vi ((bdL t tol).getD m (0, 0, 0)).2.1, vi ((bdL t tol).getD m (0, 0, 0)).2.2] 126 (0, 0)) :: (b17, Obj.cells #[vi ((gdL t tol).getD k (0, 0, 0)).1, vi ((gdL t tol).getD k (0, 0, 0)).2.1, vi ((gdL t tol).getD k (0, 0, 0)).2.2] 126 (0, 0)) :: (b13, .cells #[outV' ((prs t l (gdL t tol) (bdL t tol) k m).length, oo1)] 54 (0, 0)) :: (y.1.1.2, .map p.2.2.1 p.2.2.2) :: slH 22 vs1 oo1)) (fun p => l.length - p.1) ?_ ?_
                           · exact tk_start (0, none, (es3, ck3)) ⟨Nat.zero_le _, rfl, hca1⟩ (.cons rfl (.cons rfl (.cons rfl (.cons rfl (.cons rfl (.cons rfl (.cons rfl (.cons rfl (.cons rfl (.cons rfl (.cons rfl (.cons rfl (.cons rfl (.cons rfl (.cons rfl (.cons rfl .nil)))))))))))))))) (fun _ h => h.subl (SB.s (by repeat constructor)) (SB.s (by repeat constructor)))
                           · rintro ⟨i, oa, ⟨es4, ck4⟩⟩ ⟨hi, hoa, hca4⟩
                             have hal := apN_len t l ((gdL t tol).getD k (0, 0, 0)) ((bdL t tol).getD m (0, 0, 0)) i
                             rcases oa with _ | ⟨ba, capa, junka⟩
                             all_goals ((dsimp only [outOk] at hi hoa hca4; dsimp only [slH_none, slH_some, List.cons_append, List.nil_append]; dsimp only [outV']))
                             all_goals refine tc_seq fun K32 hK32 => ?_; refine tc_region ?_; refine tl_q (y_lss rfl rfl) rfl ?_; refine tl_nil ?_; ((refine hK32 ?_; try (clear hK32; clear K32)))
                             all_goals refine tc_seq fun K33 hK33 => ?_
                             all_goals (
                              refine tc_cond rfl (fun hc => ?_) (fun hc => ?_)
                              · try simp only [decide_eq_true_eq, decide_eq_false_iff_not, Int.not_lt, Int.not_le, Bool.not_eq_true', Bool.not_eq_false', Decidable.not_not, not_true_eq_false] at hc
                                all_goals refine tc_skip ?_; ((refine hK33 ?_; try (clear hK33; clear K33)))
                                all_goals refine tc_seq fun K34 hK34 => ?_; refine tc_block ?_; refine tc_seq fun K35 hK35 => ?_; have hadl' := hadl (by omega)
                                all_goals refine tc_region ?_; refine tl_q (y_move rfl) rfl ?_; refine tl_q (y_index rfl rfl (by omega) hadl') rfl ?_; ((refine tl_q (y_loadNo (n := 2) (vs := [vi (l.getD i (0, 0)).1, vi (l.getD i (0, 0)).2]) rfl (fun w' hw' => by rw [show Int.toNat (i : Int) * 2 = i * 2 from by omega]; exact hcl w' [] (hw'.fr (w0 := w) (S := []) (MI.m (by repeat constructor))) (by simp) i (by omega))) rfl ?_))
                                all_goals refine tl_e (e_allocN rfl) rfl (fun b22 _ => ?_); refine tl_q (y_assign rfl) rfl ?_; refine tl_e (e_storeW rfl rfl (by repeat constructor) (by rfl) (by rfl) (by simp [Value.oneCell'])) rfl (fun _ _ => ?_); refine tl_nil ?_; ((refine hK35 ?_; try (clear hK35; clear K35)))
                                all_goals refine tc_seq fun K36 hK36 => ?_; refine tc_region ?_; refine tl_q (y_move rfl) rfl ?_; refine tl_q (y_loadW rfl (by repeat constructor) (by rfl)) rfl ?_; refine tl_q (y_loadW rfl (by repeat constructor) (by rfl)) rfl ?_; refine tl_q (y_loadW rfl (by repeat constructor) (by rfl)) rfl ?_; refine tl_e (e_callU rfl (.cons rfl (.cons rfl (.cons rfl (.cons rfl .nil)))) (fun w' hw' => alike_c t hv ((gdL t tol).getD k (0, 0, 0)) ((bdL t tol).getD m (0, 0, 0)) hae hbe (l.getD i (0, 0)).1 (l.getD i (0, 0)).2 sl pl ll tl w' y.1.1.1 y.1.1.2 es4 ck4 (hTW.fr (hw'.fr (w0 := y.2) (S := [y.1.1.2]) (MI.m (by repeat constructor))) (hw'.heap _ (HM.mem (by repeat constructor))) hca4)) (fun _ => (by repeat constructor))) rfl (fun q hq => ?_); refine tl_q (y_not rfl) rfl ?_; refine tl_nil ?_; ((refine hK36 ?_; try (clear hK36; clear K36)))
                                all_goals (
                                 refine tc_cond rfl (fun hc => ?_) (fun hc => ?_)
                                 · try simp only [decide_eq_true_eq, decide_eq_false_iff_not, Int.not_lt, Int.not_le, Bool.not_eq_true', Bool.not_eq_false', Decidable.not_not, not_true_eq_false] at hc
                                   all_goals refine tc_region ?_; refine tl_q (y_move rfl) rfl ?_; refine tl_q (y_move rfl) rfl ?_; (refine tl_e (e_bslice rfl (by (repeat (first | exact .nil | apply PV.one rfl rfl)); done) rfl rfl) rfl (fun _ _ => ?_))
                                   all_goals ((first | refine tl_e (e_append_own (old := (apN t l ((gdL t tol).getD k (0, 0, 0)) ((bdL t tol).getD m (0, 0, 0)) i).map vi) (junk := junka) rfl rfl rfl (by repeat constructor) (by simp) (by omega) hoa.1 (fun w' hw' => RdI.own0 (xs := [(i : Int)]) hw' (by repeat constructor)) (fun u hu => by obtain ⟨_, _, rfl⟩ := List.mem_map.1 hu; rfl) (by simp only [List.length_cons, List.length_nil]; omega) rfl) rfl (fun u hu => ?_) | refine tl_e (e_append_nil rfl rfl rfl (fun w' hw' => RdI.own0 (xs := [(i : Int)]) hw' (by repeat constructor)) (fun u hu => by obtain ⟨_, _, rfl⟩ := List.mem_map.1 hu; rfl) Nat.zero_lt_one (Nat.le_of_ble_eq_true rfl) rfl) rfl (fun u hu => ?_)))
                                   all_goals refine tl_q (y_assign rfl) rfl ?_; refine tl_nil ?_; ((refine hK34 ?_; try (clear hK34; clear K34)))
                                   all_goals refine tc_region ?_; refine tl_q (y_add rfl rfl (by omega)) rfl ?_; refine tl_q (y_move rfl) rfl ?_; refine tl_nil ?_
                                   all_goals (
                                    first
                                    | (have hs2 : apN t l ((gdL t tol).getD k (0, 0, 0)) ((bdL t tol).getD m (0, 0, 0)) (i + 1) = apN t l ((gdL t tol).getD k (0, 0, 0)) ((bdL t tol).getD m (0, 0, 0)) i ++ [(i : Int)] := by rw [apN_succ, if_neg (by rw [hc]; exact Bool.false_ne_true)]
                                       refine tk_round (i + 1, some (u.1, u.2.1, u.2.2), (q.1, q.2)) ⟨by dsimp only; omega, ?_, hq⟩ (by dsimp only; omega) (.cons rfl (.cons rfl (.cons rfl (.cons rfl (.cons rfl (.cons rfl (.cons rfl (.cons rfl (.cons rfl (.cons rfl (.cons rfl (.cons rfl (.cons ?_ (.cons rfl (.cons rfl (.cons rfl .nil)))))))))))))))) (fun _ h => ?_)
                                       · dsimp only [outOk]; rw [hs2, List.length_append]; simp only [List.length_cons, List.length_nil] at hu ⊢; omega
                                       · dsimp only [outV']; rw [hs2, List.length_append]; first | rfl | (rw [hoa]; rfl)
                                       · dsimp only [slH_some, List.cons_append, List.nil_append]; rw [hs2, List.map_append]
                                         try rw [show apN t l ((gdL t tol).getD k (0, 0, 0)) ((bdL t tol).getD m (0, 0, 0)) i = [] from List.eq_nil_of_length_eq_zero hoa, List.map_nil, List.nil_append]
                                         exact h.subl (SB.s (by repeat constructor)) (SB.s (by repeat constructor)))
                                    | (have hs2 : apN t l ((gdL t tol).getD k (0, 0, 0)) ((bdL t tol).getD m (0, 0, 0)) (i + 1) = apN t l ((gdL t tol).getD k (0, 0, 0)) ((bdL t tol).getD m (0, 0, 0)) i := by rw [apN_succ, if_pos hc]
                                       first
                                       | (refine tk_round (i + 1, none, (q.1, q.2)) ⟨by dsimp only; omega, by dsimp only [outOk]; rw [hs2]; exact hoa, hq⟩ (by dsimp only; omega) (.cons rfl (.cons rfl (.cons rfl (.cons rfl (.cons rfl (.cons rfl (.cons rfl (.cons rfl (.cons rfl (.cons rfl (.cons rfl (.cons rfl (.cons rfl (.cons rfl (.cons rfl (.cons rfl .nil)))))))))))))))) (fun _ h => ?_)
                                          dsimp only [slH_none, List.cons_append, List.nil_append]; exact h.subl (SB.s (by repeat constructor)) (SB.s (by repeat constructor)))
                                       | (refine tk_round (i + 1, some (ba, capa, junka), (q.1, q.2)) ⟨by dsimp only; omega, by dsimp only [outOk]; rw [hs2]; exact hoa, hq⟩ (by dsimp only; omega) (.cons rfl (.cons rfl (.cons rfl (.cons rfl (.cons rfl (.cons rfl (.cons rfl (.cons rfl (.cons rfl (.cons rfl (.cons rfl (.cons rfl (.cons ?_ (.cons rfl (.cons rfl (.cons rfl .nil)))))))))))))))) (fun _ h => ?_)
                                          · dsimp only [outV']; rw [hs2]; rfl
                                          · dsimp only [slH_some, List.cons_append, List.nil_append]; rw [hs2]; exact h.subl (SB.s (by repeat constructor)) (SB.s (by repeat constructor)))))
                                 · try simp only [decide_eq_true_eq, decide_eq_false_iff_not, Int.not_lt, Int.not_le, Bool.not_eq_true', Bool.not_eq_false', Decidable.not_not, not_true_eq_false] at hc
                                   all_goals refine tc_skip ?_; ((refine hK34 ?_; try (clear hK34; clear K34)))
                                   all_goals refine tc_region ?_; refine tl_q (y_add rfl rfl (by omega)) rfl ?_; refine tl_q (y_move rfl) rfl ?_; refine tl_nil ?_
                                   all_goals (
                                    first
                                    | (have hs2 : apN t l ((gdL t tol).getD k (0, 0, 0)) ((bdL t tol).getD m (0, 0, 0)) (i + 1) = apN t l ((gdL t tol).getD k (0, 0, 0)) ((bdL t tol).getD m (0, 0, 0)) i ++ [(i : Int)] := by rw [apN_succ, if_neg (by rw [hc]; exact Bool.false_ne_true)]
                                       refine tk_round (i + 1, some (u.1, u.2.1, u.2.2), (q.1, q.2)) ⟨by dsimp only; omega, ?_, hq⟩ (by dsimp only; omega) (.cons rfl (.cons rfl (.cons rfl (.cons rfl (.cons rfl (.cons rfl (.cons rfl (.cons rfl (.cons rfl (.cons rfl (.cons rfl (.cons rfl (.cons ?_ (.cons rfl (.cons rfl (.cons rfl .nil)))))))))))))))) (fun _ h => ?_)
                                       · dsimp only [outOk]; rw [hs2, List.length_append]; simp only [List.length_cons, List.length_nil] at hu ⊢; omega
                                       · dsimp only [outV']; rw [hs2, List.length_append]; first | rfl | (rw [hoa]; rfl)
                                       · dsimp only [slH_some, List.cons_append, List.nil_append]; rw [hs2, List.map_append]
                                         try rw [show apN t l ((gdL t tol).getD k (0, 0, 0)) ((bdL t tol).getD m (0, 0, 0)) i = [] from List.eq_nil_of_length_eq_zero hoa, List.map_nil, List.nil_append]
                                         exact h.subl (SB.s (by repeat constructor)) (SB.s (by repeat constructor)))
                                    | (have hs2 : apN t l ((gdL t tol).getD k (0, 0, 0)) ((bdL t tol).getD m (0, 0, 0)) (i + 1) = apN t l ((gdL t tol).getD k (0, 0, 0)) ((bdL t tol).getD m (0, 0, 0)) i := by rw [apN_succ, if_pos hc]
                                       first
                                       | (refine tk_round (i + 1, none, (q.1, q.2)) ⟨by dsimp only; omega, by dsimp only [outOk]; rw [hs2]; exact hoa, hq⟩ (by dsimp only; omega) (.cons rfl (.cons rfl (.cons rfl (.cons rfl (.cons rfl (.cons rfl (.cons rfl (.cons rfl (.cons rfl (.cons rfl (.cons rfl (.cons rfl (.cons rfl (.cons rfl (.cons rfl (.cons rfl .nil)))))))))))))))) (fun _ h => ?_)
                                          dsimp only [slH_none, List.cons_append, List.nil_append]; exact h.subl (SB.s (by repeat constructor)) (SB.s (by repeat constructor)))
                                       | (refine tk_round (i + 1, some (ba, capa, junka), (q.1, q.2)) ⟨by dsimp only; omega, by dsimp only [outOk]; rw [hs2]; exact hoa, hq⟩ (by dsimp only; omega) (.cons rfl (.cons rfl (.cons rfl (.cons rfl (.cons rfl (.cons rfl (.cons rfl (.cons rfl (.cons rfl (.cons rfl (.cons rfl (.cons rfl (.cons ?_ (.cons rfl (.cons rfl (.cons rfl .nil)))))))))))))))) (fun _ h => ?_)
                                          · dsimp only [outV']; rw [hs2]; rfl
                                          · dsimp only [slH_some, List.cons_append, List.nil_append]; rw [hs2]; exact h.subl (SB.s (by repeat constructor)) (SB.s (by repeat constructor))))))
                              · try simp only [decide_eq_true_eq, decide_eq_false_iff_not, Int.not_lt, Int.not_le, Bool.not_eq_true', Bool.not_eq_false', Decidable.not_not, not_true_eq_false] at hc
                                all_goals refine tc_exit ?_; ((refine hK30 ?_; try (clear hK30; clear K30)))
                                all_goals (have hil : i = l.length := by omega)
                                all_goals subst hil
                                all_goals rcases oo1 with _ | ⟨bo, cap, junk1⟩
                                all_goals ((dsimp only [outOk] at hok1; dsimp only [slH_none, slH_some, outV']))
                                all_goals ((have hpl := prs_len t l (gdL t tol) (bdL t tol) (k := k) (m := m) (by omega) (by omega); have hgb := prod_le (gb_len hv tol); have hkb := Nat.mul_le_mul_right (bdL t tol).length (show k ≤ (gdL t tol).length by omega); have hgl := gb_len hv tol))
                                all_goals (have hpm := prs_m (t := t) (l := l) (G := (gdL t tol)) (B := (bdL t tol)) (k := k) (m := m) (by omega))
                                all_goals refine tc_region ?_; refine tl_q (y_load1 rfl (by repeat constructor) (by rfl)) rfl ?_; refine tl_q (y_move rfl) rfl ?_; (refine tl_e (e_bslice rfl (by (repeat (first | exact .nil | apply PV.one rfl rfl)); done) rfl rfl) rfl (fun _ _ => ?_))
                                all_goals ((first | refine tl_e (e_append_own (old := vs1) (junk := junk1) rfl rfl rfl (by repeat constructor) (by rw [hin1.1, Nat.mul_one]) (by omega) hok1.1 (fun w' hw' => Reads.own1 hw' (by repeat constructor)) (fun u hu => by obtain rfl := List.mem_singleton.1 hu; rfl) (by omega) rfl) rfl (fun zp hzp => ?_) | refine tl_e (e_append_nil rfl rfl rfl (fun w' hw' => Reads.own1 hw' (by repeat constructor)) (fun u hu => by obtain rfl := List.mem_singleton.1 hu; rfl) Nat.zero_lt_one (Nat.le_of_ble_eq_true rfl) rfl) rfl (fun zp hzp => ?_)))
                                all_goals refine tl_e (e_store1 rfl rfl (by repeat constructor) (by repeat constructor) (by rfl) (by rfl)) rfl (fun _ _ => ?_); refine tl_nil ?_; ((refine hK27 ?_; try (clear hK27; clear K27)))
                                all_goals refine tc_region ?_; refine tl_q (y_add rfl rfl (by omega)) rfl ?_; refine tl_q (y_move rfl) rfl ?_; refine tl_nil ?_
                                all_goals (
                                 refine tk_lay [(zp.1, _), (b17, _), (b13, _), (y.1.1.2, _)] (SB.s (by repeat constructor)) (fun w2 h2 => ?_)
                                 have hnd := h2.nodup
                                 have hown : ∀ x ∈ [zp.1, b17, b13, y.1.1.2], x ∈ S1 ∨ wl1.heap.size ≤ x := fun x hx => by
                                   simp only [List.mem_cons, List.not_mem_nil, or_false] at hx
                                   rcases hx with e | e | e | e
                                   · rw [e]; exact h2.own (zp.1, _) (HM.mem (by repeat constructor)) (wl1, S1) (MI.m (by repeat constructor))
                                   · rw [e]; exact h2.own (b17, _) (HM.mem (by repeat constructor)) (wl1, S1) (MI.m (by repeat constructor))
                                   · rw [e]; exact h2.own (b13, _) (HM.mem (by repeat constructor)) (wl1, S1) (MI.m (by repeat constructor))
                                   · rw [e]; exact h2.own (y.1.1.2, _) (HM.mem (by repeat constructor)) (wl1, S1) (MI.m (by repeat constructor))
                                 have hst := hin1.step (h2.fr (w0 := wl1) (S := S1) (MI.m (by repeat constructor))) hown
                                 first
                                 | (have hv2 : RdI w2 (.slice none 0 0) (apL t l ((gdL t tol).getD k (0, 0, 0)) ((bdL t tol).getD m (0, 0, 0))) := by
                                      have e : apL t l ((gdL t tol).getD k (0, 0, 0)) ((bdL t tol).getD m (0, 0, 0)) = [] := List.eq_nil_of_length_eq_zero hoa
                                      rw [e]; exact RdI.nil _
                                    have hin2 := hst.snoc hv2 (fun p m c e => by cases e)
                                    rw [← hpm] at hin2
                                    refine tk_round (m + 1, some (zp.1, zp.2.1, zp.2.2), vs1 ++ [Value.slice none 0 0], (w2, [zp.1, b17, b13, y.1.1.2]), (es4, ck4)) ⟨by dsimp only; omega, ?_, hin2, hca4⟩ (by dsimp only; omega) (.cons rfl (.cons rfl (.cons rfl (.cons rfl (.cons rfl (.cons rfl (.cons rfl (.cons rfl (.cons rfl (.cons rfl (.cons rfl .nil))))))))))) (fun _ h => ?_)
                                    · dsimp only [outOk]; rw [hpm, List.length_append]; simp only [List.length_cons, List.length_nil]; omega
                                    · dsimp only [slH_some, outV']
                                      rw [hpm, List.length_append]
                                      try rw [show (prs t l (gdL t tol) (bdL t tol) k m) = [] from List.eq_nil_of_length_eq_zero hok1]
                                      try rw [show vs1 = [] from List.eq_nil_of_length_eq_zero (hin1.1.trans hok1), List.nil_append]
                                      exact (h.subl (SB.s (by repeat constructor)) (List.Sublist.refl _)).perm (List.perm_append_comm (l₁ := [_]) (l₂ := [_, _, _])))
                                 | (have hv2 : RdI w2 (.slice (some ⟨ba, 0, none⟩) (apN t l ((gdL t tol).getD k (0, 0, 0)) ((bdL t tol).getD m (0, 0, 0)) l.length).length capa) (apL t l ((gdL t tol).getD k (0, 0, 0)) ((bdL t tol).getD m (0, 0, 0))) := RdI.own (xs := apN t l ((gdL t tol).getD k (0, 0, 0)) ((bdL t tol).getD m (0, 0, 0)) l.length) h2 (b := ba) (by repeat constructor)
                                    have h5 : ([zp.1, ba, b17, b13, y.1.1.2] : List Nat).Nodup := hnd.sublist (List.Sublist.map (Prod.fst : Nat × Obj → Nat) (l₁ := [(zp.1, _), (ba, _), (b17, _), (b13, _), (y.1.1.2, _)]) (SB.s (by repeat constructor)))
                                    have hba : ba < w2.heap.size ∧ ba ∉ [zp.1, b17, b13, y.1.1.2] := ⟨h2.lt (HM.mem (b := ba) (by repeat constructor)), ba_out h5⟩
                                    have hin2 := hst.snoc hv2 (fun p m c e => by cases e; exact hba)
                                    rw [← hpm] at hin2
                                    refine tk_round (m + 1, some (zp.1, zp.2.1, zp.2.2), vs1 ++ [Value.slice (some ⟨ba, 0, none⟩) (apN t l ((gdL t tol).getD k (0, 0, 0)) ((bdL t tol).getD m (0, 0, 0)) l.length).length capa], (w2, [zp.1, b17, b13, y.1.1.2]), (es4, ck4)) ⟨by dsimp only; omega, ?_, hin2, hca4⟩ (by dsimp only; omega) (.cons rfl (.cons rfl (.cons rfl (.cons rfl (.cons rfl (.cons rfl (.cons rfl (.cons rfl (.cons rfl (.cons rfl (.cons rfl .nil))))))))))) (fun _ h => ?_)
                                    · dsimp only [outOk]; rw [hpm, List.length_append]; simp only [List.length_cons, List.length_nil]; omega
                                    · dsimp only [slH_some, outV']
                                      rw [hpm, List.length_append]
                                      try rw [show (prs t l (gdL t tol) (bdL t tol) k m) = [] from List.eq_nil_of_length_eq_zero hok1]
                                      try rw [show vs1 = [] from List.eq_nil_of_length_eq_zero (hin1.1.trans hok1), List.nil_append]
                                      exact (h.subl (SB.s (by repeat constructor)) (List.Sublist.refl _)).perm (List.perm_append_comm (l₁ := [_]) (l₂ := [_, _, _]))))))
                        · try simp only [decide_eq_true_eq, decide_eq_false_iff_not, Int.not_lt, Int.not_le, Bool.not_eq_true', Bool.not_eq_false', Decidable.not_not, not_true_eq_false] at hc
                          all_goals refine tc_exit ?_; ((refine hK22 ?_; try (clear hK22; clear K22)))
                          all_goals (have hmB : m = (bdL t tol).length := by omega)
                          all_goals subst hmB
                          all_goals refine tc_region ?_; refine tl_q (y_add rfl rfl (by omega)) rfl ?_; refine tl_q (y_move rfl) rfl ?_; refine tl_nil ?_
                          all_goals (
                           refine tk_round (k + 1, oo1, vs1, (wl1, S1), (es3, ck3)) ⟨by dsimp only; omega, ?_, ?_, hca1⟩ (by dsimp only; omega) (.cons rfl (.cons rfl (.cons rfl (.cons rfl (.cons rfl (.cons rfl (.cons rfl .nil))))))) (fun _ h => ?_)
                           · dsimp only; rw [prs_k (by omega)]; exact hok1
                           · dsimp only; rw [prs_k (by omega)]; exact hin1
                           · dsimp only; rw [prs_k (by omega)]; exact h.subl (SB.s (by repeat constructor)) (SB.s (by repeat constructor)))))
                  · try simp only [decide_eq_true_eq, decide_eq_false_iff_not, Int.not_lt, Int.not_le, Bool.not_eq_true', Bool.not_eq_false', Decidable.not_not, not_true_eq_false] at hc
                    all_goals refine tc_exit ?_; ((refine hK18 ?_; try (clear hK18; clear K18)))
                    all_goals refine tc_seq fun K37 hK37 => ?_; (have hkG : k = (gdL t tol).length := by omega)
                    all_goals subst hkG
                    all_goals ((have hpl := prs_len t l (gdL t tol) (bdL t tol) (k := (gdL t tol).length) (m := 0) (by omega) (by omega); have hgb := prod_le (gb_len hv tol)))
                    all_goals rcases oo with _ | ⟨bo, cap, junk⟩
                    all_goals ((dsimp only [outOk] at hok; dsimp only [slH_none, slH_some, outV']))
                    all_goals first | (have hRd0 : ∀ w', RdLL w' (.slice none 0 0) (pairsL t tol l) := fun w' => by
                                         rw [show pairsL t tol l = [] from List.eq_nil_of_length_eq_zero hok]; exact RdLL.nil w') | skip
                    all_goals (have hpq : (pairsL t tol l).length = (gdL t tol).length * (bdL t tol).length + 0 := hpl)
                    all_goals rcases hsr : searchT (fewP (pairsL t tol l)) l.length with _ | rs
                    all_goals refine tc_region ?_; refine tl_q (y_move rfl) rfl ?_; refine tl_q (y_len rfl) rfl ?_; refine tl_q (y_fn .nil (.cons rfl .nil)) rfl ?_; ((first | refine tl_e (e_callEndF (val := fun x : Value × Obj => .tuple #[x.1, .bool false]) (p := fun x w' => True) (S := [y.1.1.2]) rfl (.cons rfl (.cons rfl .nil)) (fun w' hw' => CnX.imp (val' := fun x : Value × Obj => .tuple #[x.1, .bool false]) (tlists_c 89 #[ptr b13] (fewP (pairsL t tol l)) l.length (by omega) y.1.1.2 (.map es2 ck2) (fun o => o = .map es2 ck2) w' (hw'.heap _ (HM.mem (by repeat constructor))) rfl (few_pass t (pairsL t tol l) l.length (by omega) (fun ap h => by have := prs_ap h; omega) b13 y.1.1.2 (fun e => by have := hw'.nodup; rw [e] at this; simp at this) _ es2 ck2 w' (hw'.heap (b13, _) (HM.mem (by repeat constructor))) (hw'.heap _ (HM.mem (by repeat constructor))) (hRd0 w'))) id (fun x => by rw [hsr]; rfl) (fun _ h => h) (fun _ _ _ _ => trivial)) (fun w' hw' β hβ q hq => by obtain rfl := List.mem_singleton.1 hq; exact hw'.own (y.1.1.2, _) (HM.mem (by repeat constructor)) β hβ)) rfl (fun v hv3 => ?_) | refine tl_e (e_callEndF (val := fun x : Value × Obj => .tuple #[x.1, .bool true]) (p := fun x w' => RdI w' x.1 rs) (S := [y.1.1.2]) rfl (.cons rfl (.cons rfl .nil)) (fun w' hw' => CnX.imp (val' := fun x : Value × Obj => .tuple #[x.1, .bool true]) (tlists_c 89 #[ptr b13] (fewP (pairsL t tol l)) l.length (by omega) y.1.1.2 (.map es2 ck2) (fun o => o = .map es2 ck2) w' (hw'.heap _ (HM.mem (by repeat constructor))) rfl (few_pass t (pairsL t tol l) l.length (by omega) (fun ap h => by have := prs_ap h; omega) b13 y.1.1.2 (fun e => by have := hw'.nodup; rw [e] at this; simp at this) _ es2 ck2 w' (hw'.heap (b13, _) (HM.mem (by repeat constructor))) (hw'.heap _ (HM.mem (by repeat constructor))) (hRd0 w'))) id (fun x => by rw [hsr]; rfl) (fun _ h => h) (fun x w2 _ hx => hx.2.2.2 _ hsr)) (fun w' hw' β hβ q hq => by obtain rfl := List.mem_singleton.1 hq; exact hw'.own (y.1.1.2, _) (HM.mem (by repeat constructor)) β hβ)) rfl (fun v hv3 => ?_) | refine tl_e (e_callEndF (val := fun x : Value × Obj => .tuple #[x.1, .bool false]) (p := fun x w' => True) (S := [y.1.1.2]) rfl (.cons rfl (.cons rfl .nil)) (fun w' hw' => CnX.imp (val' := fun x : Value × Obj => .tuple #[x.1, .bool false]) (tlists_c 89 #[ptr b13] (fewP (pairsL t tol l)) l.length (by omega) y.1.1.2 (.map es2 ck2) (fun o => o = .map es2 ck2) w' (hw'.heap _ (HM.mem (by repeat constructor))) rfl (few_pass t (pairsL t tol l) l.length (by omega) (fun ap h => by have := prs_ap h; omega) b13 y.1.1.2 (fun e => by have := hw'.nodup; rw [e] at this; simp at this) _ es2 ck2 w' (hw'.heap (b13, _) (HM.mem (by repeat constructor))) (hw'.heap _ (HM.mem (by repeat constructor))) (hin.rd hw' (b := bo) (cap := cap) (by repeat constructor) (hw'.fr (w0 := wl) (S := S) (MI.m (by repeat constructor)))))) id (fun x => by rw [hsr]; rfl) (fun _ h => h) (fun _ _ _ _ => trivial)) (fun w' hw' β hβ q hq => by obtain rfl := List.mem_singleton.1 hq; exact hw'.own (y.1.1.2, _) (HM.mem (by repeat constructor)) β hβ)) rfl (fun v hv3 => ?_) | refine tl_e (e_callEndF (val := fun x : Value × Obj => .tuple #[x.1, .bool true]) (p := fun x w' => RdI w' x.1 rs) (S := [y.1.1.2]) rfl (.cons rfl (.cons rfl .nil)) (fun w' hw' => CnX.imp (val' := fun x : Value × Obj => .tuple #[x.1, .bool true]) (tlists_c 89 #[ptr b13] (fewP (pairsL t tol l)) l.length (by omega) y.1.1.2 (.map es2 ck2) (fun o => o = .map es2 ck2) w' (hw'.heap _ (HM.mem (by repeat constructor))) rfl (few_pass t (pairsL t tol l) l.length (by omega) (fun ap h => by have := prs_ap h; omega) b13 y.1.1.2 (fun e => by have := hw'.nodup; rw [e] at this; simp at this) _ es2 ck2 w' (hw'.heap (b13, _) (HM.mem (by repeat constructor))) (hw'.heap _ (HM.mem (by repeat constructor))) (hin.rd hw' (b := bo) (cap := cap) (by repeat constructor) (hw'.fr (w0 := wl) (S := S) (MI.m (by repeat constructor)))))) id (fun x => by rw [hsr]; rfl) (fun _ h => h) (fun x w2 _ hx => hx.2.2.2 _ hsr)) (fun w' hw' β hβ q hq => by obtain rfl := List.mem_singleton.1 hq; exact hw'.own (y.1.1.2, _) (HM.mem (by repeat constructor)) β hβ)) rfl (fun v hv3 => ?_)))
                    all_goals refine tl_q (y_move rfl) rfl ?_; refine tl_q (y_extract rfl rfl) rfl ?_; refine tl_q (y_extract rfl rfl) rfl ?_; refine tl_q (y_assign rfl) rfl ?_; refine tl_q (y_assign rfl) rfl ?_; refine tl_nil ?_; ((refine hK37 ?_; try (clear hK37; clear K37)))
                    all_goals refine tc_seq fun K38 hK38 => ?_; refine tc_seq fun K39 hK39 => ?_; refine tc_region ?_; refine tl_q (y_move rfl) rfl ?_; refine tl_q (y_not rfl) rfl ?_; refine tl_nil ?_; ((refine hK39 ?_; try (clear hK39; clear K39)))
                    all_goals (
                     refine tc_cond rfl (fun hc => ?_) (fun hc => ?_)
                     · try simp only [decide_eq_true_eq, decide_eq_false_iff_not, Int.not_lt, Int.not_le, Bool.not_eq_true', Bool.not_eq_false', Decidable.not_not, not_true_eq_false] at hc
                       all_goals ((first | (exfalso; with_reducible exact btf hc) | skip))
                       all_goals refine tc_seq fun K40 hK40 => ?_; refine tc_region ?_; refine tl_q (y_assign rfl) rfl ?_; refine tl_q (y_assign rfl) rfl ?_; refine tl_nil ?_; ((refine hK40 ?_; try (clear hK40; clear K40)))
                       all_goals refine tc_ret ?_; (repeat (refine tk_then_ret ?_))
                       all_goals (refine tk_ret rfl rfl (.cons (.tmp rfl) (.cons (.tmp rfl) .nil)) ?_)
                       all_goals (
                        first
                        | (have hE : fewestE t tol l = ([], tolE t tol) := if_pos (by assumption)
                           rw [hE]; exact fun w' hw' => ⟨_, rfl, hw'.fr (w0 := w) (S := []) (MI.m (by repeat constructor)), RdI.nil _⟩)
                        | (have hE : fewestE t tol l = ([], 3) := by unfold fewestE; rw [if_neg (by omega), if_pos (by omega)]
                           rw [hE]; exact fun w' hw' => ⟨_, rfl, hw'.fr (w0 := w) (S := []) (MI.m (by repeat constructor)), RdI.nil _⟩)
                        | (have hE : fewestE t tol l = ([], 2) := by unfold fewestE; rw [if_neg (by omega), if_neg (by omega), if_pos (by assumption)]
                           rw [hE]; exact fun w' hw' => ⟨_, rfl, hw'.fr (w0 := w) (S := []) (MI.m (by repeat constructor)), RdI.nil _⟩)
                        | (have hE : fewestE t tol l = ([], askedE t) := by unfold fewestE; rw [if_neg (by omega), if_neg (by omega), if_neg (by rw [hall]; exact Bool.noConfusion), if_pos hA]
                           rw [hE]; exact fun w' hw' => ⟨_, rfl, hw'.fr (w0 := w) (S := []) (MI.m (by repeat constructor)), RdI.nil _⟩)
                        | (have hE : fewestE t tol l = ([], 9) := by unfold fewestE; rw [if_neg (by omega), if_neg (by omega), if_neg (by rw [hall]; exact Bool.noConfusion), if_neg (by omega), hsr]
                           rw [hE]; exact fun w' hw' => ⟨_, rfl, hw'.fr (w0 := w) (S := []) (MI.m (by repeat constructor)), RdI.nil _⟩)
                        | (have hE : fewestE t tol l = (rs, 0) := by unfold fewestE; rw [if_neg (by omega), if_neg (by omega), if_neg (by rw [hall]; exact Bool.noConfusion), if_neg (by omega), hsr]
                           rw [hE]; exact fun w' hw' => ⟨v.1.1, rfl, hw'.fr (w0 := w) (S := []) (MI.m (by repeat constructor)), hv3.2.2.fr (hw'.fr (w0 := v.2.2) (S := []) (MI.m (by repeat constructor)))⟩))
                     · try simp only [decide_eq_true_eq, decide_eq_false_iff_not, Int.not_lt, Int.not_le, Bool.not_eq_true', Bool.not_eq_false', Decidable.not_not, not_true_eq_false] at hc
                       all_goals ((first | (exfalso; with_reducible exact bft hc) | skip))
                       all_goals refine tc_skip ?_; ((refine hK38 ?_; try (clear hK38; clear K38)))
                       all_goals refine tc_seq fun K41 hK41 => ?_; refine tc_region ?_; refine tl_q (y_move rfl) rfl ?_; refine tl_q (y_assign rfl) rfl ?_; refine tl_q (y_assign rfl) rfl ?_; refine tl_nil ?_; ((refine hK41 ?_; try (clear hK41; clear K41)))
                       all_goals refine tc_ret ?_; (repeat (first | refine tk_then_ret ?_))
                       all_goals (refine tk_ret rfl rfl (.cons (.tmp rfl) (.cons (.tmp rfl) .nil)) ?_)
                       all_goals (
                        first
                        | (have hE : fewestE t tol l = ([], tolE t tol) := if_pos (by assumption)
                           rw [hE]; exact fun w' hw' => ⟨_, rfl, hw'.fr (w0 := w) (S := []) (MI.m (by repeat constructor)), RdI.nil _⟩)
                        | (have hE : fewestE t tol l = ([], 3) := by unfold fewestE; rw [if_neg (by omega), if_pos (by omega)]
                           rw [hE]; exact fun w' hw' => ⟨_, rfl, hw'.fr (w0 := w) (S := []) (MI.m (by repeat constructor)), RdI.nil _⟩)
                        | (have hE : fewestE t tol l = ([], 2) := by unfold fewestE; rw [if_neg (by omega), if_neg (by omega), if_pos (by assumption)]
                           rw [hE]; exact fun w' hw' => ⟨_, rfl, hw'.fr (w0 := w) (S := []) (MI.m (by repeat constructor)), RdI.nil _⟩)
                        | (have hE : fewestE t tol l = ([], askedE t) := by unfold fewestE; rw [if_neg (by omega), if_neg (by omega), if_neg (by rw [hall]; exact Bool.noConfusion), if_pos hA]
                           rw [hE]; exact fun w' hw' => ⟨_, rfl, hw'.fr (w0 := w) (S := []) (MI.m (by repeat constructor)), RdI.nil _⟩)
                        | (have hE : fewestE t tol l = ([], 9) := by unfold fewestE; rw [if_neg (by omega), if_neg (by omega), if_neg (by rw [hall]; exact Bool.noConfusion), if_neg (by omega), hsr]
                           rw [hE]; exact fun w' hw' => ⟨_, rfl, hw'.fr (w0 := w) (S := []) (MI.m (by repeat constructor)), RdI.nil _⟩)
                        | (have hE : fewestE t tol l = (rs, 0) := by unfold fewestE; rw [if_neg (by omega), if_neg (by omega), if_neg (by rw [hall]; exact Bool.noConfusion), if_neg (by omega), hsr]
                           rw [hE]; exact fun w' hw' => ⟨v.1.1, rfl, hw'.fr (w0 := w) (S := []) (MI.m (by repeat constructor)), hv3.2.2.fr (hw'.fr (w0 := v.2.2) (S := []) (MI.m (by repeat constructor)))⟩)))))))))
end Go.Sp
/-
  The chapter's trial: what is asked of it, computed.
-/
namespace Go.Sp
open Go Go.Proofs
abbrev twoS : Sn := ⟨900, 800, 20, 10, 10, [100, 200]⟩
abbrev twoT (m : List E3) : Tr := ⟨twoS, [0, 6], 2, [(1000, 1000), (915, 925)], [(0, 0, 6), (1, 0, 10)] ++ m⟩
set_option maxRecDepth 100000
theorem ta1 : shownE (twoT []) [0, 1] 0 1000 = ([5, 6], 0) := by kernel_rfl
theorem ta2 : askedE (twoT []) = 0 := by kernel_rfl
theorem ta3 : possLL (twoT []) 2 = [[-2, -1, 0, 1, 2], [1]] := by kernel_rfl
theorem ta4 : judgeE (twoT []) 1 = (3, 0) := by kernel_rfl
theorem ta5 : certL (twoT []) 2 = [(0, 2), (1, 0)] := by kernel_rfl
theorem ta6 : correctE (twoT []) 0 7 = ((968, 989), 0) := by kernel_rfl
theorem ta7 : fewestE (twoT []) 1 [(0, 1000), (0, 1100)] = ([1], 0) := by kernel_rfl
theorem ta8 : leaveTL (twoT [(0, 0, 8)]) = [2] := by kernel_rfl
theorem ta9 : chkT (twoT [(0, 0, 8)]) = 0 := by kernel_rfl
theorem twoT_nt (m : List E3) (h : m.length ≤ 1000) : NT (twoT m) := ⟨by show (2 : Int) ≤ 9000000000000000000; decide, by show (2 : Int) ≤ 9000000000000000000; decide, by show (2 : Int) ≤ 9000000000000000000; decide, by show ((([(0, 0, 6), (1, 0, 10)] ++ m : List E3).length : Nat) : Int) ≤ 9000000000000000000; rw [List.length_append]; simp only [List.length_cons, List.length_nil]; omega⟩
end Go.Sp
/-
  What all statements about trials end with: the chapter's example.
-/
namespace Go.Sp
open Go Go.Proofs
theorem ints9_c (a b : List Int) (ha : (a.length : Int) ≤ 9000000000000000000) (hb : (b.length : Int) ≤ 9000000000000000000) (av bv : Value) (w : World) (hA : RdI w av a) (hB : RdI w bv b) :
    CnV Tryz.prog 24 #[av, bv] w (.bool (decide (a = b))) := by
  obtain ⟨ad, cap, b0, o, rfl, had, hcell⟩ := hA.open
  obtain ⟨ad2, cap2, b02, o2, rfl, had2, hcell2⟩ := hB.open
  refine cnv (vs := [_, _]) Tryz.func24 rfl rfl ?_
  all_goals refine tc_seq fun K1 hK1 => ?_; refine tc_region ?_; refine tl_q (y_assign rfl) rfl ?_; refine tl_nil ?_; ((refine hK1 ?_; try (clear hK1; clear K1)))
  all_goals refine tc_seq fun K2 hK2 => ?_; refine tc_seq fun K3 hK3 => ?_; refine tc_region ?_; refine tl_q (y_move rfl) rfl ?_; refine tl_q (y_len rfl) rfl ?_; refine tl_q (y_move rfl) rfl ?_; refine tl_q (y_len rfl) rfl ?_; refine tl_q (y_neq rfl rfl) rfl ?_; refine tl_nil ?_; ((refine hK3 ?_; try (clear hK3; clear K3)))
  all_goals (
   refine tc_cond rfl (fun hc => ?_) (fun hc => ?_)
   · try simp only [decide_eq_true_eq, decide_eq_false_iff_not, Int.not_lt, Int.not_le, Bool.not_eq_true', Bool.not_eq_false', Decidable.not_not, not_true_eq_false] at hc
     all_goals refine tc_seq fun K4 hK4 => ?_; refine tc_region ?_; refine tl_q (y_assign rfl) rfl ?_; refine tl_nil ?_; ((refine hK4 ?_; try (clear hK4; clear K4)))
     all_goals refine tc_ret ?_; (repeat (refine tk_then_ret ?_))
     all_goals (refine tk_ret rfl rfl (.cons (.tmp rfl) .nil) ?_)
     all_goals (
      refine fun w' hw' => ⟨congrArg (fun n => Ending.returned (Value.bool n)) ?_, hw'.fr (by simp)⟩
      symm
      first
      | exact decide_eq_false (fun h => absurd (congrArg List.length h) (by omega))
      | exact decide_eq_false (fun h => absurd (congrArg (fun l => List.getD l n 0) h) (by omega))
      | exact decide_eq_true (List.ext_getElem (by omega) (fun i h1 h2 => by
          have := hI i (by omega)
          rw [List.getD_eq_getElem?_getD, List.getD_eq_getElem?_getD, List.getElem?_eq_getElem h1, List.getElem?_eq_getElem h2] at this
          exact this)))
   · try simp only [decide_eq_true_eq, decide_eq_false_iff_not, Int.not_lt, Int.not_le, Bool.not_eq_true', Bool.not_eq_false', Decidable.not_not, not_true_eq_false] at hc
     all_goals refine tc_skip ?_; ((refine hK2 ?_; try (clear hK2; clear K2)))
     all_goals refine tc_seq fun K5 hK5 => ?_; refine tc_seq fun K6 hK6 => ?_; refine tc_region ?_; refine tl_q (y_assign rfl) rfl ?_; refine tl_nil ?_; ((refine hK6 ?_; try (clear hK6; clear K6)))
     all_goals refine tc_block ?_
     all_goals (
      refine tc_loop (fun n : Nat => n ≤ a.length ∧ ∀ j : Nat, j < n → a.getD j 0 = b.getD j 0) (fun n => [(0, .slice ad a.length cap), (1, .slice ad2 b.length cap2), (5, vi n)]) (fun _ => [(w, [])]) (fun _ => []) (fun n => a.length - n) ?_ ?_
      · exact tk_start 0 ⟨Nat.zero_le _, fun i hi => absurd hi (Nat.not_lt_zero i)⟩ (.cons rfl (.cons rfl (.cons rfl .nil))) (fun _ h => h)
      · rintro n ⟨hn, hI⟩
        all_goals refine tc_seq fun K7 hK7 => ?_; refine tc_seq fun K8 hK8 => ?_; refine tc_region ?_; refine tl_q (y_move rfl) rfl ?_; refine tl_q (y_move rfl) rfl ?_; refine tl_q (y_len rfl) rfl ?_; refine tl_q (y_lss rfl rfl) rfl ?_; refine tl_nil ?_; ((refine hK8 ?_; try (clear hK8; clear K8)))
        all_goals (
         refine tc_cond rfl (fun hc => ?_) (fun hc => ?_)
         · try simp only [decide_eq_true_eq, decide_eq_false_iff_not, Int.not_lt, Int.not_le, Bool.not_eq_true', Bool.not_eq_false', Decidable.not_not, not_true_eq_false] at hc
           all_goals refine tc_skip ?_; ((refine hK7 ?_; try (clear hK7; clear K7)))
           all_goals refine tc_seq fun K9 hK9 => ?_; refine tc_block ?_; refine tc_seq fun K10 hK10 => ?_
           have had' := had (by omega)
           have had2' := had2 (by omega)
           all_goals refine tc_draw (by kernel_rfl) ?_; refine tx_p 0 rfl (by kernel_rfl) (y_move rfl) rfl (fun _ _ _ h => h) (fun _ h => h) ?_; refine tx_p 1 rfl (by kernel_rfl) (y_move rfl) rfl (fun _ _ _ h => h) (fun _ h => h) ?_; refine tx_p 2 rfl (by kernel_rfl) (y_index rfl rfl (by omega) had') rfl (fun _ _ _ h => h) (fun _ h => h) ?_; ((refine tx_q 3 rfl (by kernel_rfl) (y_load1o (v := vi (a.getD n 0)) rfl (fun w' hw' => by rw [show Int.toNat (n : Int) * 1 = n from by omega]; exact hcell w' (hw'.fr (by simp)) n (by omega))) rfl (fun _ _ _ h => h) (fun _ h => h) ?_))
           all_goals refine tx_p 4 rfl (by kernel_rfl) (y_move rfl) rfl (fun _ _ _ h => h) (fun _ h => h) ?_; refine tx_p 5 rfl (by kernel_rfl) (y_move rfl) rfl (fun _ _ _ h => h) (fun _ h => h) ?_; refine tx_p 6 rfl (by kernel_rfl) (y_index rfl rfl (by omega) had2') rfl (fun _ _ _ h => h) (fun _ h => h) ?_; ((refine tx_q 7 rfl (by kernel_rfl) (y_load1o (v := vi (b.getD n 0)) rfl (fun w' hw' => by rw [show Int.toNat (n : Int) * 1 = n from by omega]; exact hcell2 w' (hw'.fr (by simp)) n (by omega))) rfl (fun _ _ _ h => h) (fun _ h => h) ?_))
           all_goals refine tx_p 8 rfl (by kernel_rfl) (y_neq rfl rfl) rfl (fun _ _ _ h => h) (fun _ h => h) ?_; refine tx_done (by kernel_rfl) ?_; ((refine hK10 ?_; try (clear hK10; clear K10)))
           all_goals (
            refine tc_cond rfl (fun hc => ?_) (fun hc => ?_)
            · try simp only [decide_eq_true_eq, decide_eq_false_iff_not, Int.not_lt, Int.not_le, Bool.not_eq_true', Bool.not_eq_false', Decidable.not_not, not_true_eq_false] at hc
              all_goals refine tc_seq fun K11 hK11 => ?_; refine tc_region ?_; refine tl_q (y_assign rfl) rfl ?_; refine tl_nil ?_; ((refine hK11 ?_; try (clear hK11; clear K11)))
              all_goals refine tc_ret ?_; (repeat (first | refine tk_then_ret ?_ | refine tk_block_ret ?_))
              all_goals (refine tk_ret rfl rfl (.cons (.tmp rfl) .nil) ?_)
              all_goals (
               refine fun w' hw' => ⟨congrArg (fun n => Ending.returned (Value.bool n)) ?_, hw'.fr (by simp)⟩
               symm
               first
               | exact decide_eq_false (fun h => absurd (congrArg List.length h) (by omega))
               | exact decide_eq_false (fun h => absurd (congrArg (fun l => List.getD l n 0) h) (by omega))
               | exact decide_eq_true (List.ext_getElem (by omega) (fun i h1 h2 => by
                   have := hI i (by omega)
                   rw [List.getD_eq_getElem?_getD, List.getD_eq_getElem?_getD, List.getElem?_eq_getElem h1, List.getElem?_eq_getElem h2] at this
                   exact this)))
            · try simp only [decide_eq_true_eq, decide_eq_false_iff_not, Int.not_lt, Int.not_le, Bool.not_eq_true', Bool.not_eq_false', Decidable.not_not, not_true_eq_false] at hc
              all_goals refine tc_skip ?_; ((refine hK9 ?_; try (clear hK9; clear K9)))
              all_goals refine tc_region ?_; refine tl_q (y_move rfl) rfl ?_; refine tl_q (y_add rfl rfl (by omega)) rfl ?_; refine tl_q (y_assign rfl) rfl ?_; refine tl_nil ?_
              all_goals (
               exact tk_round (n + 1) ⟨by omega, fun i hi => by
                 rcases Nat.lt_succ_iff_lt_or_eq.1 hi with h | rfl
                 · exact hI i h
                 · exact hc⟩ (by omega) (.cons rfl (.cons rfl (.cons rfl .nil))) (fun _ h => h)))
         · try simp only [decide_eq_true_eq, decide_eq_false_iff_not, Int.not_lt, Int.not_le, Bool.not_eq_true', Bool.not_eq_false', Decidable.not_not, not_true_eq_false] at hc
           all_goals refine tc_exit ?_; ((refine hK5 ?_; try (clear hK5; clear K5)))
           all_goals refine tc_seq fun K12 hK12 => ?_; refine tc_region ?_; refine tl_q (y_assign rfl) rfl ?_; refine tl_nil ?_; ((refine hK12 ?_; try (clear hK12; clear K12)))
           all_goals refine tc_ret ?_; (repeat (first | refine tk_then_ret ?_))
           all_goals (refine tk_ret rfl rfl (.cons (.tmp rfl) .nil) ?_)
           all_goals (
            refine fun w' hw' => ⟨congrArg (fun n => Ending.returned (Value.bool n)) ?_, hw'.fr (by simp)⟩
            symm
            first
            | exact decide_eq_false (fun h => absurd (congrArg List.length h) (by omega))
            | exact decide_eq_false (fun h => absurd (congrArg (fun l => List.getD l n 0) h) (by omega))
            | exact decide_eq_true (List.ext_getElem (by omega) (fun i h1 h2 => by
                have := hI i (by omega)
                rw [List.getD_eq_getElem?_getD, List.getD_eq_getElem?_getD, List.getElem?_eq_getElem h1, List.getElem?_eq_getElem h2] at this
                exact this))))))
theorem ints9_t (a : List Int) (ha : (a.length : Int) ≤ 9000000000000000000) (av bv : Value) (w : World) (hA : RdI w av a) (hB : RdI w bv a) : CnV Tryz.prog 24 #[av, bv] w (.bool true) := by
  have h := ints9_c a a ha ha av bv w hA hB
  rwa [decide_eq_true rfl] at h
theorem between9_c (a b : Int) (w : World) : CnV Tryz.prog 60 #[vi a, vi b] w (rV (a, b)) := by
  refine cnv (vs := [_, _]) Tryz.func60 rfl rfl ?_
  all_goals refine tc_seq fun K1 hK1 => ?_; refine tc_region ?_; refine tl_e (e_allocN rfl) rfl (fun _ _ => ?_); refine tl_nil ?_; ((refine hK1 ?_; try (clear hK1; clear K1)))
  all_goals refine tc_seq fun K2 hK2 => ?_; refine tc_region ?_; refine tl_q (y_move rfl) rfl ?_; refine tl_q (y_move rfl) rfl ?_; refine tl_q (y_build_2 rfl rfl rfl rfl) rfl ?_; refine tl_e (e_storeW rfl rfl (by repeat constructor) (by rfl) (by rfl) (by simp [Value.oneCell'])) rfl (fun _ _ => ?_); refine tl_nil ?_; ((refine hK2 ?_; try (clear hK2; clear K2)))
  all_goals refine tc_ret ?_; (repeat (first | refine tk_then_ret ?_))
  all_goals (refine tk_ret rfl rfl (.cons (.agg inferInstance rfl (by repeat constructor) (by rfl)) .nil) ?_)
  all_goals (
   exact fun w' hw' => ⟨rfl, hw'.fr (by simp)⟩)
theorem offered_c (w : World) : CnX Tryz.prog 61 #[] w [] (slV 2) (fun x w' => RdR w' (slV 2 x) [(0, 1000), (0, 1100)]) := by
  refine cnx0 (vs := []) Tryz.func61 rfl rfl ?_
  all_goals refine tc_seq fun K1 hK1 => ?_; refine tc_region ?_; refine tl_q (y_assign rfl) rfl ?_; refine tl_nil ?_; ((refine hK1 ?_; try (clear hK1; clear K1)))
  all_goals refine tc_seq fun K2 hK2 => ?_; refine tc_region ?_; refine tl_q (y_build_2 rfl rfl rfl rfl) rfl ?_; refine tl_q (y_build_2 rfl rfl rfl rfl) rfl ?_; (refine tl_e (e_bslice rfl (by (repeat (first | exact .nil | apply PV.two rfl)); done) rfl rfl) rfl (fun b3 _ => ?_))
  all_goals refine tl_q (y_assign rfl) rfl ?_; refine tl_nil ?_; ((refine hK2 ?_; try (clear hK2; clear K2)))
  all_goals refine tc_ret ?_; (repeat (first | refine tk_then_ret ?_))
  all_goals (refine tk_ret rfl rfl (.cons (.tmp rfl) .nil) ?_)
  all_goals (
   exact fun w' hw' => ⟨(some ⟨b3, 0, none⟩, 2), rfl, hw'.fr (by simp), RdR.own0 (xs := [(0, 1000), (0, 1100)]) hw' (by repeat constructor)⟩)
theorem two9_c (m : List E3) (hm : m.length ≤ 1000) (lv : Value) (w : World) (hL : RdT w lv m) :
    CnX Tryz.prog 59 #[lv] w [] (fun x : (Option Addr × Nat) × (Option Addr × Nat) × (Option Addr × Nat) × (Option Addr × Nat) => trV (twoT m) (slV 2 x.1) (slV 2 x.2.1) (slV 2 x.2.2.1) (slV (2 + m.length) x.2.2.2))
      (fun x w' => RdTr w' (twoT m) (slV 2 x.1) (slV 2 x.2.1) (slV 2 x.2.2.1) (slV (2 + m.length) x.2.2.2)) := by
  refine cnx0 (vs := [_]) Tryz.func59 rfl rfl ?_
  all_goals refine tc_seq fun K1 hK1 => ?_; refine tc_region ?_; refine tl_e (e_allocN rfl) rfl (fun b2 _ => ?_); refine tl_nil ?_; ((refine hK1 ?_; try (clear hK1; clear K1)))
  all_goals refine tc_seq fun K2 hK2 => ?_; refine tc_region ?_; ((refine tl_e (e_bslice rfl (by (repeat (first | exact .nil | apply PV.one rfl rfl)); done) rfl rfl) rfl (fun b3 _ => ?_)))
  all_goals (refine tl_q (y_build_g (by repeat constructor)) rfl ?_); ((refine tl_e (e_bslice rfl (by (repeat (first | exact .nil | apply PV.one rfl rfl)); done) rfl rfl) rfl (fun b5 _ => ?_)))
  all_goals refine tl_e (e_callV rfl (.cons rfl (.cons rfl .nil)) (fun w' _ => between9_c _ _ w')) rfl (fun _ _ => ?_); refine tl_e (e_callV rfl (.cons rfl (.cons rfl .nil)) (fun w' _ => between9_c _ _ w')) rfl (fun _ _ => ?_); refine tl_e (e_bsliceG rfl (.agg rfl rfl (.agg rfl rfl .nil)) rfl rfl) rfl (fun b8 _ => ?_); refine tl_q (y_build_g (by repeat constructor)) rfl ?_; refine tl_q (y_build_g (by repeat constructor)) rfl ?_; refine tl_e (e_bsliceG rfl (.agg rfl rfl (.agg rfl rfl .nil)) rfl rfl) rfl (fun b11 _ => ?_); refine tl_q (y_move rfl) rfl ?_; refine tl_e (e_append_own (old := flatT [(0, 0, 6), (1, 0, 10)]) (junk := []) rfl rfl rfl (by repeat constructor) (by rfl) (by rfl) (Nat.le_refl _) (fun w' hw' => hL.fr (hw'.fr (w0 := w) (S := []) (MI.m (by repeat constructor)))) (flatT_one _) (by omega) rfl) rfl (fun z hz => ?_); refine tl_q (y_build_g (by repeat constructor)) rfl ?_; refine tl_e (e_storeW rfl rfl (by repeat constructor) (by rfl) (by rfl) (by simp [Value.oneCell'])) rfl (fun _ _ => ?_); refine tl_nil ?_; ((refine hK2 ?_; try (clear hK2; clear K2)))
  all_goals refine tc_ret ?_; (repeat (first | refine tk_then_ret ?_))
  all_goals (refine tk_ret rfl rfl (.cons (.agg inferInstance rfl (by repeat constructor) (by rfl)) .nil) ?_)
  all_goals (
   refine fun w' hw' => ⟨((some ⟨b3, 0, none⟩, 2), (some ⟨b5, 0, none⟩, 2), (some ⟨b8, 0, none⟩, 2), (some ⟨z.1, 0, none⟩, z.2.1)), rfl, hw'.fr (by simp), RdI.own0 (xs := [100, 200]) hw' (b := b3) (by repeat constructor), RdI.own0 (xs := [0, 6]) hw' (b := b5) (by repeat constructor), RdR.own0 (xs := [(1000, 1000), (915, 925)]) hw' (b := b8) (by repeat constructor), ?_⟩
   have := RdT.own (xs := [(0, 0, 6), (1, 0, 10)] ++ m) (b := z.1) (cap := z.2.1) (junk := z.2.2) (e := 121) (f := (0, 0)) hw' (by rw [flatT_append]; repeat constructor)
   rw [List.length_append] at this
   exact this)
set_option maxRecDepth 100000 in
theorem tb1 : shownL (twoT []) (er3 [0, 1]) 0 1000 = [5, 6] := by kernel_rfl
theorem two_shown (sl pl ll tl lv : Value) (w : World) (hr : RdTr w (twoT []) sl pl ll tl) (hl : RdI w lv [0, 1]) :
    CnX Tryz.prog 17 #[trV (twoT []) sl pl ll tl, lv, vi 0, vi 1000] w [] (fun y : Option Addr × Nat => .tuple #[slV 2 y, vi 0]) (fun y w' => RdI w' (slV 2 y) [5, 6]) := by
  have h := shown_ok (twoT []) (twoT_nt [] (by decide)) [0, 1] (by decide) 0 1000 (by rw [ta1]) sl pl ll tl lv w hr hl
  rw [tb1] at h
  exact h
theorem two_err (sl pl ll tl : Value) (w : World) (hr : RdTr w (twoT []) sl pl ll tl) :
    CnX Tryz.prog 35 #[trV (twoT []) sl pl ll tl] w [] (fun y : Option Addr × Nat => .tuple #[slV 2 y, vi 0]) (fun y w' => RdLL w' (slV 2 y) [[-2, -1, 0, 1, 2], [1]]) := by
  have h := errors_ok (twoT []) (twoT_nt [] (by decide)) ta2 sl pl ll tl w hr
  rw [show possLL (twoT []) (twoT []).parts.length = [[-2, -1, 0, 1, 2], [1]] from ta3] at h
  exact h
theorem two_cert (sl pl ll tl : Value) (w : World) (hr : RdTr w (twoT []) sl pl ll tl) :
    CnX Tryz.prog 47 #[trV (twoT []) sl pl ll tl] w [] (fun y : Option Addr × Nat => .tuple #[slV 2 y, vi 0]) (fun y w' => RdR w' (slV 2 y) [(0, 2), (1, 0)]) := by
  have h := certificate_ok (twoT []) (twoT_nt [] (by decide)) ta2 sl pl ll tl w hr
  rw [show certL (twoT []) (twoT []).parts.length = [(0, 2), (1, 0)] from ta5] at h
  exact h
theorem two_few (sl pl ll tl lv : Value) (w : World) (hr : RdTr w (twoT []) sl pl ll tl) (hl : RdR w lv [(0, 1000), (0, 1100)]) :
    CnX Tryz.prog 31 #[trV (twoT []) sl pl ll tl, vi 1, lv] w [] (fun y : Value => .tuple #[y, vi 0]) (fun y w' => RdI w' y [1]) := by
  have h := fewest_c (twoT []) (twoT_nt [] (by decide)) 1 (by decide) [(0, 1000), (0, 1100)] (by decide) sl pl ll tl lv w hr hl
  rw [ta7] at h
  exact h
theorem two_leave (sl pl ll tl : Value) (w : World) (hr : RdTr w (twoT [(0, 0, 8)]) sl pl ll tl) :
    CnX Tryz.prog 37 #[trV (twoT [(0, 0, 8)]) sl pl ll tl] w [] (fun y : Value => .tuple #[y, vi 0]) (fun y w' => RdI w' y [2]) := by
  have h := leaveT_ok (twoT [(0, 0, 8)]) (chkT_0.1 ta9) sl pl ll tl w hr
  rw [ta8] at h
  exact h
set_option maxRecDepth 100000 in
set_option maxHeartbeats 4000000 in
theorem awake9_c (w : World) : CnV Tryz.prog 16 #[] w (.bool true) := by
  refine cnv (vs := []) Tryz.func16 rfl rfl ?_
  all_goals refine tc_seq fun K1 hK1 => ?_; refine tc_region ?_; refine tl_q (y_assign rfl) rfl ?_; refine tl_nil ?_; ((refine hK1 ?_; try (clear hK1; clear K1)))
  all_goals refine tc_seq fun K2 hK2 => ?_; refine tc_lay ([]) (SB.s (by repeat constructor)) (fun wl1 hl1 => ?_); refine tc_region ?_; refine tl_e (e_callX rfl (.cons rfl .nil) (fun w' _ => two9_c [] (by decide) _ w' (RdT.nil w'))) rfl (fun x1 hx1 => ?_); ((refine tl_e (e_bslice rfl (by (repeat (first | exact .nil | apply PV.one rfl rfl)); done) rfl rfl) rfl (fun b17 _ => ?_)))
  all_goals refine tl_e (e_callX rfl (.cons rfl (.cons rfl (.cons rfl (.cons rfl .nil)))) (fun w' hw' => two_shown _ _ _ _ _ w' (hx1.1.fr (hw'.fr (MI.m (by repeat constructor)))) (RdI.own0 (xs := [0, 1]) hw' (by repeat constructor)))) rfl (fun y1 hy1 => ?_); refine tl_q (y_move rfl) rfl ?_; refine tl_q (y_extract rfl rfl) rfl ?_; refine tl_q (y_extract rfl rfl) rfl ?_; refine tl_q (y_assign rfl) rfl ?_; refine tl_q (y_assign rfl) rfl ?_; refine tl_nil ?_; ((refine hK2 ?_; try (clear hK2; clear K2)))
  all_goals refine tc_seq fun K3 hK3 => ?_; refine tc_lay ([]) (SB.s (by repeat constructor)) (fun wl2 hl2 => ?_)
  have r1 := hy1.1.fr (hl2.calm hy1.2 (MI.m (by repeat constructor)) (SB.s (by repeat constructor)))
  all_goals refine tc_region ?_; refine tl_e (e_callX rfl (.cons rfl .nil) (fun w' _ => two9_c [] (by decide) _ w' (RdT.nil w'))) rfl (fun x2 hx2 => ?_); refine tl_e (e_callX rfl (.cons rfl .nil) (fun w' hw' => two_err _ _ _ _ w' (hx2.1.fr (hw'.fr (MI.m (by repeat constructor)))))) rfl (fun y2 hy2 => ?_); refine tl_q (y_move rfl) rfl ?_; refine tl_q (y_extract rfl rfl) rfl ?_; refine tl_q (y_extract rfl rfl) rfl ?_; refine tl_q (y_assign rfl) rfl ?_; refine tl_q (y_assign rfl) rfl ?_; refine tl_nil ?_; ((refine hK3 ?_; try (clear hK3; clear K3)))
  all_goals refine tc_seq fun K4 hK4 => ?_; refine tc_lay ([]) (SB.s (by repeat constructor)) (fun wl3 hl3 => ?_); refine tc_region ?_; refine tl_e (e_callX rfl (.cons rfl .nil) (fun w' _ => two9_c [] (by decide) _ w' (RdT.nil w'))) rfl (fun x3 hx3 => ?_); (refine tl_e (e_callV rfl (.cons rfl (.cons rfl .nil)) (fun w' hw' => by have h := judge_c (twoT []) (twoT_nt [] (by decide)) 1 (by decide) _ _ _ _ w' (hx3.1.fr (hw'.fr (MI.m (by repeat constructor)))); rw [ta4] at h; exact h)) rfl (fun _ _ => ?_))
  all_goals refine tl_q (y_move rfl) rfl ?_; refine tl_q (y_extract rfl rfl) rfl ?_; refine tl_q (y_extract rfl rfl) rfl ?_; refine tl_q (y_assign rfl) rfl ?_; refine tl_q (y_assign rfl) rfl ?_; refine tl_nil ?_; ((refine hK4 ?_; try (clear hK4; clear K4)))
  all_goals refine tc_seq fun K5 hK5 => ?_; refine tc_lay ([]) (SB.s (by repeat constructor)) (fun wl4 hl4 => ?_); refine tc_region ?_; refine tl_e (e_callX rfl (.cons rfl .nil) (fun w' _ => two9_c [] (by decide) _ w' (RdT.nil w'))) rfl (fun x4 hx4 => ?_); refine tl_e (e_callX rfl (.cons rfl .nil) (fun w' hw' => two_cert _ _ _ _ w' (hx4.1.fr (hw'.fr (MI.m (by repeat constructor)))))) rfl (fun y4 hy4 => ?_); refine tl_q (y_move rfl) rfl ?_; refine tl_q (y_extract rfl rfl) rfl ?_; refine tl_q (y_extract rfl rfl) rfl ?_; refine tl_q (y_assign rfl) rfl ?_; refine tl_q (y_assign rfl) rfl ?_; refine tl_nil ?_; ((refine hK5 ?_; try (clear hK5; clear K5)))
  all_goals refine tc_seq fun K6 hK6 => ?_; refine tc_lay ([]) (SB.s (by repeat constructor)) (fun wl5 hl5 => ?_); refine tc_region ?_; refine tl_e (e_callX rfl (.cons rfl .nil) (fun w' _ => two9_c [] (by decide) _ w' (RdT.nil w'))) rfl (fun x5 hx5 => ?_); (refine tl_e (e_callV rfl (.cons rfl (.cons rfl (.cons rfl .nil))) (fun w' hw' => by have h := correct_c (twoT []) (twoT_nt [] (by decide)) 0 7 _ _ _ _ w' (hx5.1.fr (hw'.fr (MI.m (by repeat constructor)))); rw [ta6] at h; exact h)) rfl (fun _ _ => ?_))
  all_goals refine tl_q (y_move rfl) rfl ?_; refine tl_q (y_extract rfl rfl) rfl ?_; refine tl_q (y_extract rfl rfl) rfl ?_; refine tl_e (e_allocN rfl) rfl (fun b9 _ => ?_); refine tl_e (e_storeW rfl rfl (by repeat constructor) (by rfl) (by rfl) (by simp [Value.oneCell'])) rfl (fun _ _ => ?_); refine tl_q (y_assign rfl) rfl ?_; refine tl_nil ?_; ((refine hK6 ?_; try (clear hK6; clear K6)))
  all_goals refine tc_seq fun K7 hK7 => ?_; refine tc_lay ([]) (SB.s (by repeat constructor)) (fun wl6 hl6 => ?_); refine tc_region ?_; refine tl_e (e_callX rfl (.cons rfl .nil) (fun w' _ => two9_c [] (by decide) _ w' (RdT.nil w'))) rfl (fun x6 hx6 => ?_); refine tl_e (e_callX rfl .nil (fun w' _ => offered_c w')) rfl (fun o6 ho6 => ?_); refine tl_e (e_callX rfl (.cons rfl (.cons rfl (.cons rfl .nil))) (fun w' hw' => two_few _ _ _ _ _ w' (hx6.1.fr (hw'.fr (MI.m (by repeat constructor)))) (ho6.1.fr (hw'.fr (MI.m (by repeat constructor)))))) rfl (fun y6 hy6 => ?_); refine tl_q (y_move rfl) rfl ?_; refine tl_q (y_extract rfl rfl) rfl ?_; refine tl_q (y_extract rfl rfl) rfl ?_; refine tl_q (y_assign rfl) rfl ?_; refine tl_q (y_assign rfl) rfl ?_; refine tl_nil ?_; ((refine hK7 ?_; try (clear hK7; clear K7)))
  all_goals refine tc_seq fun K8 hK8 => ?_; refine tc_lay ([]) (SB.s (by repeat constructor)) (fun wl7 hl7 => ?_); refine tc_region ?_; refine tl_q (y_build_g (by repeat constructor)) rfl ?_; refine tl_e (e_bsliceG rfl (.agg rfl rfl .nil) rfl rfl) rfl (fun b49 _ => ?_); refine tl_e (e_callX rfl (.cons rfl .nil) (fun w' hw' => two9_c [(0, 0, 8)] (by decide) _ w' (RdT.own0 (xs := [(0, 0, 8)]) hw' (by repeat constructor)))) rfl (fun x7 hx7 => ?_); refine tl_e (e_callX rfl (.cons rfl .nil) (fun w' hw' => two_leave _ _ _ _ w' (hx7.1.fr (hw'.calm hx7.2 (MI.m (by repeat constructor)) (SB.s (by repeat constructor)))))) rfl (fun y7 hy7 => ?_); refine tl_q (y_move rfl) rfl ?_; refine tl_q (y_extract rfl rfl) rfl ?_; refine tl_q (y_extract rfl rfl) rfl ?_; refine tl_q (y_assign rfl) rfl ?_; refine tl_q (y_assign rfl) rfl ?_; refine tl_nil ?_; ((refine hK8 ?_; try (clear hK8; clear K8)))
  all_goals refine tc_seq fun K9 hK9 => ?_; refine tc_lay ([]) (SB.s (by repeat constructor)) (fun wl8 hl8 => ?_)
  have r7 := hy7.1.fr (hl8.calm hy7.2 (MI.m (by repeat constructor)) (SB.s (by repeat constructor)))
  obtain ⟨bE, oE, vsE, hadE, hcE, hiE⟩ := hy2.1.opensL (n := 2) rfl
  have hadE' := hadE (by decide)
  obtain ⟨adC, cpC, bC, oC, eC, hadC, hcC⟩ := hy4.1.open
  have hadC' := hadC (by decide)
  all_goals refine tc_drawS ([]) (by kernel_rfl) ?_; refine tx_p 0 rfl (by kernel_rfl) (y_move rfl) rfl (fun _ _ _ h => h) (fun _ h => h.subl (SB.s (by repeat constructor)) (SB.s (by repeat constructor))) ?_; refine tx_p 1 rfl (by kernel_rfl) (y_eql rfl rfl) rfl (fun _ _ _ h => h) (fun _ h => h.subl (SB.s (by repeat constructor)) (SB.s (by repeat constructor))) ?_; refine tx_p 2 rfl (by kernel_rfl) (y_move rfl) rfl (fun _ _ _ h => h) (fun _ h => h.subl (SB.s (by repeat constructor)) (SB.s (by repeat constructor))) ?_; refine tx_pg 3 rfl (by kernel_rfl) rfl rfl (y_move rfl) rfl (fun _ _ _ h => h) (fun _ h => h.subl (SB.s (by repeat constructor)) (SB.s (by repeat constructor))) ?_; ((refine tx_single 4 (by kernel_rfl) (to_eg rfl rfl rfl rfl (e_bslice rfl (by (repeat (first | exact .nil | apply PV.one rfl rfl)); done) rfl rfl) (.inr ⟨fun _ _ h => h.subl (SB.s (by repeat constructor)) (SB.s (by repeat constructor)), fun _ h => h⟩) (fun _ _ => ?_))))
  all_goals (refine tx_single 5 (by kernel_rfl) (to_eg rfl rfl rfl rfl (e_callV rfl (.cons rfl (.cons rfl .nil)) (fun w' hw' => ints9_t [5, 6] (by decide) _ _ w' (r1.fr (hw'.fr (w0 := wl2) (S := []) (MI.m (by repeat constructor)))) (RdI.own0 (xs := [5, 6]) hw' (by repeat constructor)))) (.inr ⟨fun _ _ h => h.subl (SB.s (by repeat constructor)) (SB.s (by repeat constructor)), fun _ h => h⟩) (fun _ _ => ?_))); refine tx_norm (L' := [true, true, true, true, true, true, false, false, false, false, false, false, false, false, false, false, false, false, false, false, false, false, false, false, false, false, false, false, false, false, false, false, false, false, false, false, false, false, false, false, false, false, false, false, false, false, false, false, false, false, false, false, false, false, false, false, false, false, false, false, false, false, false, false, false, false, false, false, false, false, false, false, false, false, false, false, false, false, false, false, false, false, false, false, false, false, false, false, false]) (by kernel_rfl) ?_; refine tx_p 6 rfl (by kernel_rfl) (y_pick_t rfl rfl) rfl (fun _ _ _ h => h) (fun _ h => h.subl (SB.s (by repeat constructor)) (SB.s (by repeat constructor))) ?_; refine tx_p 7 rfl (by kernel_rfl) (y_move rfl) rfl (fun _ _ _ h => h) (fun _ h => h.subl (SB.s (by repeat constructor)) (SB.s (by repeat constructor))) ?_; refine tx_pg 8 rfl (by kernel_rfl) rfl rfl (y_move rfl) rfl (fun _ _ _ h => h) (fun _ h => h.subl (SB.s (by repeat constructor)) (SB.s (by repeat constructor))) ?_; refine tx_pg 9 rfl (by kernel_rfl) rfl rfl (y_eql rfl rfl) rfl (fun _ _ _ h => h) (fun _ h => h.subl (SB.s (by repeat constructor)) (SB.s (by repeat constructor))) ?_; refine tx_p 10 rfl (by kernel_rfl) (y_pick_t rfl rfl) rfl (fun _ _ _ h => h) (fun _ h => h.subl (SB.s (by repeat constructor)) (SB.s (by repeat constructor))) ?_; refine tx_p 11 rfl (by kernel_rfl) (y_move rfl) rfl (fun _ _ _ h => h) (fun _ h => h.subl (SB.s (by repeat constructor)) (SB.s (by repeat constructor))) ?_; refine tx_norm (L' := [true, true, true, true, true, true, true, true, true, true, true, true, false, false, false, false, false, false, false, false, false, false, false, false, false, false, false, false, false, false, false, false, false, false, false, false, false, false, false, false, false, false, false, false, false, false, false, false, false, false, false, false, false, false, false, false, false, false, false, false, false, false, false, false, false, false, false, false, false, false, false, false, false, false, false, false, false, false, false, false, false, false, false, false, false, false, false, false, false]) (by kernel_rfl) ?_; refine tx_pg 12 rfl (by kernel_rfl) rfl rfl (y_move rfl) rfl (fun _ _ _ h => h) (fun _ h => h.subl (SB.s (by repeat constructor)) (SB.s (by repeat constructor))) ?_; refine tx_qg 13 rfl (by kernel_rfl) rfl rfl (y_len rfl) rfl (fun _ _ _ h => h) (fun _ h => h.subl (SB.s (by repeat constructor)) (SB.s (by repeat constructor))) ?_; refine tx_pg 14 rfl (by kernel_rfl) rfl rfl (y_eql rfl rfl) rfl (fun _ _ _ h => h) (fun _ h => h.subl (SB.s (by repeat constructor)) (SB.s (by repeat constructor))) ?_; refine tx_p 15 rfl (by kernel_rfl) (y_pick_t rfl rfl) rfl (fun _ _ _ h => h) (fun _ h => h.subl (SB.s (by repeat constructor)) (SB.s (by repeat constructor))) ?_; refine tx_p 16 rfl (by kernel_rfl) (y_move rfl) rfl (fun _ _ _ h => h) (fun _ h => h.subl (SB.s (by repeat constructor)) (SB.s (by repeat constructor))) ?_; refine tx_pg 17 rfl (by kernel_rfl) rfl rfl (y_move rfl) rfl (fun _ _ _ h => h) (fun _ h => h.subl (SB.s (by repeat constructor)) (SB.s (by repeat constructor))) ?_; refine tx_norm (L' := [true, true, true, true, true, true, true, true, true, true, true, true, true, true, true, true, true, true, false, false, false, false, false, false, false, false, false, false, false, false, false, false, false, false, false, false, false, false, false, false, false, false, false, false, false, false, false, false, false, false, false, false, false, false, false, false, false, false, false, false, false, false, false, false, false, false, false, false, false, false, false, false, false, false, false, false, false, false, false, false, false, false, false, false, false, false, false, false, false]) (by kernel_rfl) ?_; refine tx_pg 18 rfl (by kernel_rfl) rfl rfl (y_index rfl rfl (by omega) hadE') rfl (fun _ _ _ h => h) (fun _ h => h.subl (SB.s (by repeat constructor)) (SB.s (by repeat constructor))) ?_; refine tx_qg 19 rfl (by kernel_rfl) rfl rfl (y_load1o (v := vsE.getD 0 (.slice none 0 0)) rfl (fun w' hw' => hcE w' (hw'.fr (w0 := y2.2) (S := []) (MI.m (by repeat constructor))) 0 (by decide))) rfl (fun _ _ _ h => h) (fun _ h => h.subl (SB.s (by repeat constructor)) (SB.s (by repeat constructor))) ?_; ((refine tx_single 20 (by kernel_rfl) (to_eg rfl rfl rfl rfl (e_bslice rfl (by (repeat (first | exact .nil | apply PV.one rfl rfl)); done) rfl rfl) (.inr ⟨fun _ _ h => h.subl (SB.s (by repeat constructor)) (SB.s (by repeat constructor)), fun _ h => h⟩) (fun _ _ => ?_))))
  all_goals (refine tx_single 21 (by kernel_rfl) (to_eg rfl rfl rfl rfl (e_callV rfl (.cons rfl (.cons rfl .nil)) (fun w' hw' => ints9_t [-2, -1, 0, 1, 2] (by decide) _ _ w' (hiE w' (hw'.fr (w0 := y2.2) (S := []) (MI.m (by repeat constructor))) 0 (by decide)) (RdI.own0 (xs := [-2, -1, 0, 1, 2]) hw' (by repeat constructor)))) (.inr ⟨fun _ _ h => h.subl (SB.s (by repeat constructor)) (SB.s (by repeat constructor)), fun _ h => h⟩) (fun _ _ => ?_))); refine tx_p 22 rfl (by kernel_rfl) (y_pick_t rfl rfl) rfl (fun _ _ _ h => h) (fun _ h => h.subl (SB.s (by repeat constructor)) (SB.s (by repeat constructor))) ?_; refine tx_p 23 rfl (by kernel_rfl) (y_move rfl) rfl (fun _ _ _ h => h) (fun _ h => h.subl (SB.s (by repeat constructor)) (SB.s (by repeat constructor))) ?_; refine tx_norm (L' := [true, true, true, true, true, true, true, true, true, true, true, true, true, true, true, true, true, true, true, true, true, true, true, true, false, false, false, false, false, false, false, false, false, false, false, false, false, false, false, false, false, false, false, false, false, false, false, false, false, false, false, false, false, false, false, false, false, false, false, false, false, false, false, false, false, false, false, false, false, false, false, false, false, false, false, false, false, false, false, false, false, false, false, false, false, false, false, false, false]) (by kernel_rfl) ?_; refine tx_pg 24 rfl (by kernel_rfl) rfl rfl (y_move rfl) rfl (fun _ _ _ h => h) (fun _ h => h.subl (SB.s (by repeat constructor)) (SB.s (by repeat constructor))) ?_; refine tx_pg 25 rfl (by kernel_rfl) rfl rfl (y_index rfl rfl (by omega) hadE') rfl (fun _ _ _ h => h) (fun _ h => h.subl (SB.s (by repeat constructor)) (SB.s (by repeat constructor))) ?_; refine tx_qg 26 rfl (by kernel_rfl) rfl rfl (y_load1o (v := vsE.getD 1 (.slice none 0 0)) rfl (fun w' hw' => hcE w' (hw'.fr (w0 := y2.2) (S := []) (MI.m (by repeat constructor))) 1 (by decide))) rfl (fun _ _ _ h => h) (fun _ h => h.subl (SB.s (by repeat constructor)) (SB.s (by repeat constructor))) ?_; ((refine tx_single 27 (by kernel_rfl) (to_eg rfl rfl rfl rfl (e_bslice rfl (by (repeat (first | exact .nil | apply PV.one rfl rfl)); done) rfl rfl) (.inr ⟨fun _ _ h => h.subl (SB.s (by repeat constructor)) (SB.s (by repeat constructor)), fun _ h => h⟩) (fun _ _ => ?_))))
  all_goals (refine tx_single 28 (by kernel_rfl) (to_eg rfl rfl rfl rfl (e_callV rfl (.cons rfl (.cons rfl .nil)) (fun w' hw' => ints9_t [1] (by decide) _ _ w' (hiE w' (hw'.fr (w0 := y2.2) (S := []) (MI.m (by repeat constructor))) 1 (by decide)) (RdI.own0 (xs := [1]) hw' (by repeat constructor)))) (.inr ⟨fun _ _ h => h.subl (SB.s (by repeat constructor)) (SB.s (by repeat constructor)), fun _ h => h⟩) (fun _ _ => ?_))); refine tx_p 29 rfl (by kernel_rfl) (y_pick_t rfl rfl) rfl (fun _ _ _ h => h) (fun _ h => h.subl (SB.s (by repeat constructor)) (SB.s (by repeat constructor))) ?_; refine tx_norm (L' := [true, true, true, true, true, true, true, true, true, true, true, true, true, true, true, true, true, true, true, true, true, true, true, true, true, true, true, true, true, true, false, false, false, false, false, false, false, false, false, false, false, false, false, false, false, false, false, false, false, false, false, false, false, false, false, false, false, false, false, false, false, false, false, false, false, false, false, false, false, false, false, false, false, false, false, false, false, false, false, false, false, false, false, false, false, false, false, false, false]) (by kernel_rfl) ?_; refine tx_p 30 rfl (by kernel_rfl) (y_move rfl) rfl (fun _ _ _ h => h) (fun _ h => h.subl (SB.s (by repeat constructor)) (SB.s (by repeat constructor))) ?_; refine tx_pg 31 rfl (by kernel_rfl) rfl rfl (y_move rfl) rfl (fun _ _ _ h => h) (fun _ h => h.subl (SB.s (by repeat constructor)) (SB.s (by repeat constructor))) ?_; refine tx_pg 32 rfl (by kernel_rfl) rfl rfl (y_eql rfl rfl) rfl (fun _ _ _ h => h) (fun _ h => h.subl (SB.s (by repeat constructor)) (SB.s (by repeat constructor))) ?_; refine tx_p 33 rfl (by kernel_rfl) (y_pick_t rfl rfl) rfl (fun _ _ _ h => h) (fun _ h => h.subl (SB.s (by repeat constructor)) (SB.s (by repeat constructor))) ?_; refine tx_p 34 rfl (by kernel_rfl) (y_move rfl) rfl (fun _ _ _ h => h) (fun _ h => h.subl (SB.s (by repeat constructor)) (SB.s (by repeat constructor))) ?_; refine tx_pg 35 rfl (by kernel_rfl) rfl rfl (y_move rfl) rfl (fun _ _ _ h => h) (fun _ h => h.subl (SB.s (by repeat constructor)) (SB.s (by repeat constructor))) ?_; refine tx_norm (L' := [true, true, true, true, true, true, true, true, true, true, true, true, true, true, true, true, true, true, true, true, true, true, true, true, true, true, true, true, true, true, true, true, true, true, true, true, false, false, false, false, false, false, false, false, false, false, false, false, false, false, false, false, false, false, false, false, false, false, false, false, false, false, false, false, false, false, false, false, false, false, false, false, false, false, false, false, false, false, false, false, false, false, false, false, false, false, false, false, false]) (by kernel_rfl) ?_; refine tx_pg 36 rfl (by kernel_rfl) rfl rfl (y_eql rfl rfl) rfl (fun _ _ _ h => h) (fun _ h => h.subl (SB.s (by repeat constructor)) (SB.s (by repeat constructor))) ?_; refine tx_p 37 rfl (by kernel_rfl) (y_pick_t rfl rfl) rfl (fun _ _ _ h => h) (fun _ h => h.subl (SB.s (by repeat constructor)) (SB.s (by repeat constructor))) ?_; refine tx_p 38 rfl (by kernel_rfl) (y_move rfl) rfl (fun _ _ _ h => h) (fun _ h => h.subl (SB.s (by repeat constructor)) (SB.s (by repeat constructor))) ?_; refine tx_pg 39 rfl (by kernel_rfl) rfl rfl (y_move rfl) rfl (fun _ _ _ h => h) (fun _ h => h.subl (SB.s (by repeat constructor)) (SB.s (by repeat constructor))) ?_; refine tx_pg 40 rfl (by kernel_rfl) rfl rfl (y_eql rfl rfl) rfl (fun _ _ _ h => h) (fun _ h => h.subl (SB.s (by repeat constructor)) (SB.s (by repeat constructor))) ?_; refine tx_p 41 rfl (by kernel_rfl) (y_pick_t rfl rfl) rfl (fun _ _ _ h => h) (fun _ h => h.subl (SB.s (by repeat constructor)) (SB.s (by repeat constructor))) ?_; refine tx_norm (L' := [true, true, true, true, true, true, true, true, true, true, true, true, true, true, true, true, true, true, true, true, true, true, true, true, true, true, true, true, true, true, true, true, true, true, true, true, true, true, true, true, true, true, false, false, false, false, false, false, false, false, false, false, false, false, false, false, false, false, false, false, false, false, false, false, false, false, false, false, false, false, false, false, false, false, false, false, false, false, false, false, false, false, false, false, false, false, false, false, false]) (by kernel_rfl) ?_; refine tx_p 42 rfl (by kernel_rfl) (y_move rfl) rfl (fun _ _ _ h => h) (fun _ h => h.subl (SB.s (by repeat constructor)) (SB.s (by repeat constructor))) ?_; refine tx_pg 43 rfl (by kernel_rfl) rfl rfl (y_move rfl) rfl (fun _ _ _ h => h) (fun _ h => h.subl (SB.s (by repeat constructor)) (SB.s (by repeat constructor))) ?_; refine tx_qg 44 rfl (by kernel_rfl) rfl rfl (y_len rfl) rfl (fun _ _ _ h => h) (fun _ h => h.subl (SB.s (by repeat constructor)) (SB.s (by repeat constructor))) ?_; refine tx_pg 45 rfl (by kernel_rfl) rfl rfl (y_eql rfl rfl) rfl (fun _ _ _ h => h) (fun _ h => h.subl (SB.s (by repeat constructor)) (SB.s (by repeat constructor))) ?_; refine tx_p 46 rfl (by kernel_rfl) (y_pick_t rfl rfl) rfl (fun _ _ _ h => h) (fun _ h => h.subl (SB.s (by repeat constructor)) (SB.s (by repeat constructor))) ?_; refine tx_p 47 rfl (by kernel_rfl) (y_move rfl) rfl (fun _ _ _ h => h) (fun _ h => h.subl (SB.s (by repeat constructor)) (SB.s (by repeat constructor))) ?_; refine tx_norm (L' := [true, true, true, true, true, true, true, true, true, true, true, true, true, true, true, true, true, true, true, true, true, true, true, true, true, true, true, true, true, true, true, true, true, true, true, true, true, true, true, true, true, true, true, true, true, true, true, true, false, false, false, false, false, false, false, false, false, false, false, false, false, false, false, false, false, false, false, false, false, false, false, false, false, false, false, false, false, false, false, false, false, false, false, false, false, false, false, false, false]) (by kernel_rfl) ?_; refine tx_pg 48 rfl (by kernel_rfl) rfl rfl (y_move rfl) rfl (fun _ _ _ h => h) (fun _ h => h.subl (SB.s (by repeat constructor)) (SB.s (by repeat constructor))) ?_; ((refine tx_pg 49 rfl (by kernel_rfl) rfl rfl (y_index rfl rfl (by omega) (by injection eC with e1; exact e1.trans hadC')) rfl (fun _ _ _ h => h) (fun _ h => h.subl (SB.s (by repeat constructor)) (SB.s (by repeat constructor))) ?_))
  all_goals (refine tx_qg 50 rfl (by kernel_rfl) rfl rfl (y_loadNo (n := 2) (vs := [vi 0, vi 2]) rfl (fun w' hw' => hcC w' [] (hw'.fr (w0 := y4.2) (S := []) (MI.m (by repeat constructor))) (by simp) 0 (by decide))) rfl (fun _ _ _ h => h) (fun _ h => h.subl (SB.s (by repeat constructor)) (SB.s (by repeat constructor))) ?_); refine tx_pg 51 rfl (by kernel_rfl) rfl rfl (y_build_g (by repeat constructor)) rfl (fun _ _ _ h => h) (fun _ h => h.subl (SB.s (by repeat constructor)) (SB.s (by repeat constructor))) ?_; refine tx_pg 52 rfl (by kernel_rfl) rfl rfl (y_eql2 rfl rfl) rfl (fun _ _ _ h => h) (fun _ h => h.subl (SB.s (by repeat constructor)) (SB.s (by repeat constructor))) ?_; refine tx_p 53 rfl (by kernel_rfl) (y_pick_t rfl rfl) rfl (fun _ _ _ h => h) (fun _ h => h.subl (SB.s (by repeat constructor)) (SB.s (by repeat constructor))) ?_; refine tx_norm (L' := [true, true, true, true, true, true, true, true, true, true, true, true, true, true, true, true, true, true, true, true, true, true, true, true, true, true, true, true, true, true, true, true, true, true, true, true, true, true, true, true, true, true, true, true, true, true, true, true, true, true, true, true, true, true, false, false, false, false, false, false, false, false, false, false, false, false, false, false, false, false, false, false, false, false, false, false, false, false, false, false, false, false, false, false, false, false, false, false, false]) (by kernel_rfl) ?_; refine tx_p 54 rfl (by kernel_rfl) (y_move rfl) rfl (fun _ _ _ h => h) (fun _ h => h.subl (SB.s (by repeat constructor)) (SB.s (by repeat constructor))) ?_; refine tx_pg 55 rfl (by kernel_rfl) rfl rfl (y_move rfl) rfl (fun _ _ _ h => h) (fun _ h => h.subl (SB.s (by repeat constructor)) (SB.s (by repeat constructor))) ?_; ((refine tx_pg 56 rfl (by kernel_rfl) rfl rfl (y_index rfl rfl (by omega) (by injection eC with e1; exact e1.trans hadC')) rfl (fun _ _ _ h => h) (fun _ h => h.subl (SB.s (by repeat constructor)) (SB.s (by repeat constructor))) ?_))
  all_goals (refine tx_qg 57 rfl (by kernel_rfl) rfl rfl (y_loadNo (n := 2) (vs := [vi 1, vi 0]) rfl (fun w' hw' => hcC w' [] (hw'.fr (w0 := y4.2) (S := []) (MI.m (by repeat constructor))) (by simp) 1 (by decide))) rfl (fun _ _ _ h => h) (fun _ h => h.subl (SB.s (by repeat constructor)) (SB.s (by repeat constructor))) ?_); refine tx_pg 58 rfl (by kernel_rfl) rfl rfl (y_build_g (by repeat constructor)) rfl (fun _ _ _ h => h) (fun _ h => h.subl (SB.s (by repeat constructor)) (SB.s (by repeat constructor))) ?_; refine tx_pg 59 rfl (by kernel_rfl) rfl rfl (y_eql2 rfl rfl) rfl (fun _ _ _ h => h) (fun _ h => h.subl (SB.s (by repeat constructor)) (SB.s (by repeat constructor))) ?_; refine tx_norm (L' := [true, true, true, true, true, true, true, true, true, true, true, true, true, true, true, true, true, true, true, true, true, true, true, true, true, true, true, true, true, true, true, true, true, true, true, true, true, true, true, true, true, true, true, true, true, true, true, true, true, true, true, true, true, true, true, true, true, true, true, true, false, false, false, false, false, false, false, false, false, false, false, false, false, false, false, false, false, false, false, false, false, false, false, false, false, false, false, false, false]) (by kernel_rfl) ?_; refine tx_p 60 rfl (by kernel_rfl) (y_pick_t rfl rfl) rfl (fun _ _ _ h => h) (fun _ h => h.subl (SB.s (by repeat constructor)) (SB.s (by repeat constructor))) ?_; refine tx_p 61 rfl (by kernel_rfl) (y_move rfl) rfl (fun _ _ _ h => h) (fun _ h => h.subl (SB.s (by repeat constructor)) (SB.s (by repeat constructor))) ?_; refine tx_pg 62 rfl (by kernel_rfl) rfl rfl (y_move rfl) rfl (fun _ _ _ h => h) (fun _ h => h.subl (SB.s (by repeat constructor)) (SB.s (by repeat constructor))) ?_; refine tx_pg 63 rfl (by kernel_rfl) rfl rfl (y_eql rfl rfl) rfl (fun _ _ _ h => h) (fun _ h => h.subl (SB.s (by repeat constructor)) (SB.s (by repeat constructor))) ?_; refine tx_p 64 rfl (by kernel_rfl) (y_pick_t rfl rfl) rfl (fun _ _ _ h => h) (fun _ h => h.subl (SB.s (by repeat constructor)) (SB.s (by repeat constructor))) ?_; refine tx_p 65 rfl (by kernel_rfl) (y_move rfl) rfl (fun _ _ _ h => h) (fun _ h => h.subl (SB.s (by repeat constructor)) (SB.s (by repeat constructor))) ?_; refine tx_norm (L' := [true, true, true, true, true, true, true, true, true, true, true, true, true, true, true, true, true, true, true, true, true, true, true, true, true, true, true, true, true, true, true, true, true, true, true, true, true, true, true, true, true, true, true, true, true, true, true, true, true, true, true, true, true, true, true, true, true, true, true, true, true, true, true, true, true, true, false, false, false, false, false, false, false, false, false, false, false, false, false, false, false, false, false, false, false, false, false, false, false]) (by kernel_rfl) ?_; refine tx_qg 66 rfl (by kernel_rfl) rfl rfl (y_loadWf rfl (hl6.at (by repeat constructor)) (MI.m (by repeat constructor)) (by simp) (by rfl)) rfl (fun _ _ _ h => h) (fun _ h => h.subl (SB.s (by repeat constructor)) (SB.s (by repeat constructor))) ?_; refine tx_single 67 (by kernel_rfl) (to_eg rfl rfl rfl rfl (e_callV rfl (.cons rfl (.cons rfl .nil)) (fun w' _ => between9_c _ _ w')) (.inr ⟨fun _ _ h => h.subl (SB.s (by repeat constructor)) (SB.s (by repeat constructor)), fun _ h => h⟩) (fun _ _ => ?_)); refine tx_pg 68 rfl (by kernel_rfl) rfl rfl (y_eql2 rfl rfl) rfl (fun _ _ _ h => h) (fun _ h => h.subl (SB.s (by repeat constructor)) (SB.s (by repeat constructor))) ?_; refine tx_p 69 rfl (by kernel_rfl) (y_pick_t rfl rfl) rfl (fun _ _ _ h => h) (fun _ h => h.subl (SB.s (by repeat constructor)) (SB.s (by repeat constructor))) ?_; refine tx_p 70 rfl (by kernel_rfl) (y_move rfl) rfl (fun _ _ _ h => h) (fun _ h => h.subl (SB.s (by repeat constructor)) (SB.s (by repeat constructor))) ?_; refine tx_pg 71 rfl (by kernel_rfl) rfl rfl (y_move rfl) rfl (fun _ _ _ h => h) (fun _ h => h.subl (SB.s (by repeat constructor)) (SB.s (by repeat constructor))) ?_; refine tx_norm (L' := [true, true, true, true, true, true, true, true, true, true, true, true, true, true, true, true, true, true, true, true, true, true, true, true, true, true, true, true, true, true, true, true, true, true, true, true, true, true, true, true, true, true, true, true, true, true, true, true, true, true, true, true, true, true, true, true, true, true, true, true, true, true, true, true, true, true, true, true, true, true, true, true, false, false, false, false, false, false, false, false, false, false, false, false, false, false, false, false, false]) (by kernel_rfl) ?_; refine tx_pg 72 rfl (by kernel_rfl) rfl rfl (y_eql rfl rfl) rfl (fun _ _ _ h => h) (fun _ h => h.subl (SB.s (by repeat constructor)) (SB.s (by repeat constructor))) ?_; refine tx_p 73 rfl (by kernel_rfl) (y_pick_t rfl rfl) rfl (fun _ _ _ h => h) (fun _ h => h.subl (SB.s (by repeat constructor)) (SB.s (by repeat constructor))) ?_; refine tx_p 74 rfl (by kernel_rfl) (y_move rfl) rfl (fun _ _ _ h => h) (fun _ h => h.subl (SB.s (by repeat constructor)) (SB.s (by repeat constructor))) ?_; refine tx_pg 75 rfl (by kernel_rfl) rfl rfl (y_move rfl) rfl (fun _ _ _ h => h) (fun _ h => h.subl (SB.s (by repeat constructor)) (SB.s (by repeat constructor))) ?_; ((refine tx_single 76 (by kernel_rfl) (to_eg rfl rfl rfl rfl (e_bslice rfl (by (repeat (first | exact .nil | apply PV.one rfl rfl)); done) rfl rfl) (.inr ⟨fun _ _ h => h.subl (SB.s (by repeat constructor)) (SB.s (by repeat constructor)), fun _ h => h⟩) (fun _ _ => ?_))))
  all_goals (refine tx_single 77 (by kernel_rfl) (to_eg rfl rfl rfl rfl (e_callV rfl (.cons rfl (.cons rfl .nil)) (fun w' hw' => ints9_t [1] (by decide) _ _ w' (hy6.1.fr (hw'.fr (w0 := y6.2) (S := []) (MI.m (by repeat constructor)))) (RdI.own0 (xs := [1]) hw' (by repeat constructor)))) (.inr ⟨fun _ _ h => h.subl (SB.s (by repeat constructor)) (SB.s (by repeat constructor)), fun _ h => h⟩) (fun _ _ => ?_))); refine tx_norm (L' := [true, true, true, true, true, true, true, true, true, true, true, true, true, true, true, true, true, true, true, true, true, true, true, true, true, true, true, true, true, true, true, true, true, true, true, true, true, true, true, true, true, true, true, true, true, true, true, true, true, true, true, true, true, true, true, true, true, true, true, true, true, true, true, true, true, true, true, true, true, true, true, true, true, true, true, true, true, true, false, false, false, false, false, false, false, false, false, false, false]) (by kernel_rfl) ?_; refine tx_p 78 rfl (by kernel_rfl) (y_pick_t rfl rfl) rfl (fun _ _ _ h => h) (fun _ h => h.subl (SB.s (by repeat constructor)) (SB.s (by repeat constructor))) ?_; refine tx_p 79 rfl (by kernel_rfl) (y_move rfl) rfl (fun _ _ _ h => h) (fun _ h => h.subl (SB.s (by repeat constructor)) (SB.s (by repeat constructor))) ?_; refine tx_pg 80 rfl (by kernel_rfl) rfl rfl (y_move rfl) rfl (fun _ _ _ h => h) (fun _ h => h.subl (SB.s (by repeat constructor)) (SB.s (by repeat constructor))) ?_; refine tx_pg 81 rfl (by kernel_rfl) rfl rfl (y_eql rfl rfl) rfl (fun _ _ _ h => h) (fun _ h => h.subl (SB.s (by repeat constructor)) (SB.s (by repeat constructor))) ?_; refine tx_p 82 rfl (by kernel_rfl) (y_pick_t rfl rfl) rfl (fun _ _ _ h => h) (fun _ h => h.subl (SB.s (by repeat constructor)) (SB.s (by repeat constructor))) ?_; refine tx_p 83 rfl (by kernel_rfl) (y_move rfl) rfl (fun _ _ _ h => h) (fun _ h => h.subl (SB.s (by repeat constructor)) (SB.s (by repeat constructor))) ?_; refine tx_norm (L' := [true, true, true, true, true, true, true, true, true, true, true, true, true, true, true, true, true, true, true, true, true, true, true, true, true, true, true, true, true, true, true, true, true, true, true, true, true, true, true, true, true, true, true, true, true, true, true, true, true, true, true, true, true, true, true, true, true, true, true, true, true, true, true, true, true, true, true, true, true, true, true, true, true, true, true, true, true, true, true, true, true, true, true, true, false, false, false, false, false]) (by kernel_rfl) ?_; refine tx_pg 84 rfl (by kernel_rfl) rfl rfl (y_move rfl) rfl (fun _ _ _ h => h) (fun _ h => h.subl (SB.s (by repeat constructor)) (SB.s (by repeat constructor))) ?_; ((refine tx_single 85 (by kernel_rfl) (to_eg rfl rfl rfl rfl (e_bslice rfl (by (repeat (first | exact .nil | apply PV.one rfl rfl)); done) rfl rfl) (.inr ⟨fun _ _ h => h.subl (SB.s (by repeat constructor)) (SB.s (by repeat constructor)), fun _ h => h⟩) (fun _ _ => ?_))))
  all_goals (refine tx_single 86 (by kernel_rfl) (to_eg rfl rfl rfl rfl (e_callV rfl (.cons rfl (.cons rfl .nil)) (fun w' hw' => ints9_t [2] (by decide) _ _ w' (r7.fr (hw'.fr (w0 := wl8) (S := []) (MI.m (by repeat constructor)))) (RdI.own0 (xs := [2]) hw' (by repeat constructor)))) (.inr ⟨fun _ _ h => h.subl (SB.s (by repeat constructor)) (SB.s (by repeat constructor)), fun _ h => h⟩) (fun _ _ => ?_))); refine tx_p 87 rfl (by kernel_rfl) (y_pick_t rfl rfl) rfl (fun _ _ _ h => h) (fun _ h => h.subl (SB.s (by repeat constructor)) (SB.s (by repeat constructor))) ?_; refine tx_p 88 rfl (by kernel_rfl) (y_assign rfl) rfl (fun _ _ _ h => h) (fun _ h => h.subl (SB.s (by repeat constructor)) (SB.s (by repeat constructor))) ?_; refine tx_done (by kernel_rfl) ?_; ((refine hK9 ?_; try (clear hK9; clear K9)))
  all_goals refine tc_ret ?_; (repeat (first | refine tk_then_ret ?_))
  all_goals (refine tk_ret rfl rfl (.cons (.tmp rfl) .nil) ?_)
  all_goals (
   exact fun w' hw' => ⟨rfl, hw'.fr (w0 := w) (S := []) (MI.m (by repeat constructor))⟩)
end Go.Sp
/-
  Helpers of the statements about trials.
-/
namespace Go.Sp
open Go Go.Proofs
theorem e_y {P : Program} {N : NN} {F : List (Nat × Value)} {bs : List (World × List Nat)} {H : List (Nat × Obj)} {d : Tmp} {op : Op} {ty : TypeId} {pos : String} {after : Array Edge} {g : Option (Nat × Bool)} {v : Value} (hd : Nat.blt d N.n = true) (hy : OpY P ⟨some d, op, ty, pos, after, g⟩ F bs H v) :
    OpE P ⟨some d, op, ty, pos, after, g⟩ N F bs H (fun _ : Unit => True) (fun _ => (d, v) :: F) (fun _ => bs) (fun _ => H) := by
  unfold OpE
  unfold OpY at hy
  intro a w ht hw K Q hK
  unfold Oper.wp
  rw [hy N a w ht hw]
  simp only [Oper.upon]
  exact hK () _ _ trivial (ht.put hd _) hw
theorem tr_ones {t : Tr} {sl pl ll tl : Value} (h1 : sl.oneCell' = true) (h2 : pl.oneCell' = true) (h3 : ll.oneCell' = true) (h4 : tl.oneCell' = true) : ∀ v ∈ (#[vi t.s.mass, vi t.s.volume, vi t.s.step, vi t.s.divisions, vi t.s.width, sl, pl, vi t.worst, ll, tl] : Array Value).toList, v.oneCell' = true := by
  intro v hv
  simp only [List.mem_cons, List.not_mem_nil, or_false] at hv
  rcases hv with rfl | rfl | rfl | rfl | rfl | rfl | rfl | rfl | rfl | rfl
  all_goals (first | rfl | assumption)
def thin9P (t : Tr) : Prop := (t.s.weights.length : Int) ≤ 9 ∧ (t.parts.length : Int) ≤ 6 ∧ (t.liquids.length : Int) ≤ 5 ∧ (t.tests.length : Int) ≤ 9
instance (t : Tr) : Decidable (thin9P t) := by unfold thin9P; infer_instance
theorem thin9P.nt {t : Tr} (h : thin9P t) : NT t := by
  obtain ⟨h1, h2, h3, h4⟩ := h
  exact ⟨by omega, by omega, by omega, by omega⟩
theorem thin9_c (t : Tr) (sl pl ll tl : Value) (w : World) (hr : RdTr w t sl pl ll tl) : CnV Tryz.prog 15 #[trV t sl pl ll tl] w (.bool (decide (thin9P t))) := by
  have hr0 := hr
  obtain ⟨_, _, _, _, rfl, _, _⟩ := hr.ps.open
  obtain ⟨_, _, _, _, rfl, _, _⟩ := hr.ls.open
  obtain ⟨_, _, _, _, rfl, _, _⟩ := hr.ts.open
  refine cnv (vs := [_]) Tryz.func15 rfl rfl ?_
  all_goals refine tc_seq fun K1 hK1 => ?_; refine tc_region ?_; refine tl_e (e_box rfl rfl rfl) rfl (fun _ _ => ?_); refine tl_q (y_assign rfl) rfl ?_; refine tl_nil ?_; ((refine hK1 ?_; try (clear hK1; clear K1)))
  all_goals refine tc_seq fun K2 hK2 => ?_; refine tc_region ?_; refine tl_q (y_field rfl) rfl ?_; ((refine tl_q (y_loadN rfl (by repeat constructor) (by (repeat (first | exact .nil | apply CA.cons rfl)); done)) rfl ?_))
  all_goals refine tl_e (e_callV rfl (.cons rfl .nil) (fun w' hw' => thin_c t.s sl w' (hr0.ws.fr (hw'.fr (by simp))))) rfl (fun _ _ => ?_); refine tl_q (y_move rfl) rfl ?_; ((refine tl_gs rfl rfl (fun hc => ?_) (fun hc => ?_) <;> (try simp only [decide_eq_true_eq, decide_eq_false_iff_not, Int.not_lt, Int.not_le, Bool.not_eq_true', Bool.not_eq_false', Decidable.not_not, not_true_eq_false] at hc) <;> (first | refine tl_sk rfl rfl rfl rfl ?_ | refine tl_qg rfl rfl (y_field rfl) rfl ?_)))
  all_goals (first | refine tl_sk rfl rfl rfl rfl ?_ | refine tl_qg rfl rfl (y_load1 rfl (by repeat constructor) (by rfl)) rfl ?_); (first | refine tl_sk rfl rfl rfl rfl ?_ | refine tl_qg rfl rfl (y_len rfl) rfl ?_); (first | refine tl_sk rfl rfl rfl rfl ?_ | refine tl_qg rfl rfl (y_leq rfl rfl) rfl ?_); (first | refine tl_q (y_pick_t rfl rfl) rfl ?_ | refine tl_q (y_pick_f rfl rfl) rfl ?_); refine tl_q (y_move rfl) rfl ?_; ((first | refine tl_sk rfl rfl rfl rfl ?_ | (refine tl_gs rfl rfl (fun hc => ?_) (fun hc => ?_) <;> (try simp only [decide_eq_true_eq, decide_eq_false_iff_not, Int.not_lt, Int.not_le, Bool.not_eq_true', Bool.not_eq_false', Decidable.not_not, not_true_eq_false] at hc) <;> (first | refine tl_sk rfl rfl rfl rfl ?_ | refine tl_qg rfl rfl (y_field rfl) rfl ?_))))
  all_goals (first | refine tl_sk rfl rfl rfl rfl ?_ | refine tl_qg rfl rfl (y_load1 rfl (by repeat constructor) (by rfl)) rfl ?_); (first | refine tl_sk rfl rfl rfl rfl ?_ | refine tl_qg rfl rfl (y_len rfl) rfl ?_); (first | refine tl_sk rfl rfl rfl rfl ?_ | refine tl_qg rfl rfl (y_leq rfl rfl) rfl ?_); (first | refine tl_q (y_pick_t rfl rfl) rfl ?_ | refine tl_q (y_pick_f rfl rfl) rfl ?_); refine tl_q (y_move rfl) rfl ?_; ((first | refine tl_sk rfl rfl rfl rfl ?_ | (refine tl_gs rfl rfl (fun hc => ?_) (fun hc => ?_) <;> (try simp only [decide_eq_true_eq, decide_eq_false_iff_not, Int.not_lt, Int.not_le, Bool.not_eq_true', Bool.not_eq_false', Decidable.not_not, not_true_eq_false] at hc) <;> (first | refine tl_sk rfl rfl rfl rfl ?_ | refine tl_qg rfl rfl (y_field rfl) rfl ?_))))
  all_goals (first | refine tl_sk rfl rfl rfl rfl ?_ | refine tl_qg rfl rfl (y_load1 rfl (by repeat constructor) (by rfl)) rfl ?_); (first | refine tl_sk rfl rfl rfl rfl ?_ | refine tl_qg rfl rfl (y_len rfl) rfl ?_); (first | refine tl_sk rfl rfl rfl rfl ?_ | refine tl_qg rfl rfl (y_leq rfl rfl) rfl ?_); (first | refine tl_q (y_pick_t rfl rfl) rfl ?_ | refine tl_q (y_pick_f rfl rfl) rfl ?_); refine tl_q (y_assign rfl) rfl ?_; refine tl_nil ?_; ((refine hK2 ?_; try (clear hK2; clear K2)))
  all_goals refine tc_ret ?_; (repeat (first | refine tk_then_ret ?_))
  all_goals (refine tk_ret rfl rfl (.cons (.tmp rfl) .nil) ?_)
  all_goals (
   refine fun w' hw' => ⟨congrArg (fun b => Ending.returned (Value.bool b)) ?_, hw'.fr (by simp)⟩
   unfold thin9P
   first
   | exact decide_eq_decide.2 (by omega)
   | exact (decide_eq_false (by omega)).symm)
theorem ready9_c (t : Tr) (sl pl ll tl : Value) (w : World) (hr : RdTr w t sl pl ll tl) : CnV Tryz.prog 34 #[trV t sl pl ll tl] w (.bool (decide (thin9P t ∧ chkT t = 0))) := by
  refine cnv (vs := [_]) Tryz.func34 rfl rfl ?_
  all_goals refine tc_seq fun K1 hK1 => ?_; refine tc_region ?_; refine tl_e (e_box rfl rfl rfl) rfl (fun _ _ => ?_); refine tl_q (y_assign rfl) rfl ?_; refine tl_nil ?_; ((refine hK1 ?_; try (clear hK1; clear K1)))
  all_goals refine tc_seq fun K2 hK2 => ?_; refine tc_region ?_; refine tl_q (y_loadW rfl (by repeat constructor) (by rfl)) rfl ?_; refine tl_e (e_callV rfl (.cons rfl .nil) (fun w' hw' => thin9_c t sl pl ll tl w' (hr.fr (hw'.fr (by simp))))) rfl (fun _ _ => ?_); refine tl_q (y_move rfl) rfl ?_; ((refine tl_gs rfl rfl (fun hc => ?_) (fun hc => ?_) <;> (try simp only [decide_eq_true_eq, decide_eq_false_iff_not, Int.not_lt, Int.not_le, Bool.not_eq_true', Bool.not_eq_false', Decidable.not_not, not_true_eq_false] at hc) <;> (first | refine tl_sk rfl rfl rfl rfl ?_ | refine tl_qg rfl rfl (y_loadW rfl (by repeat constructor) (by rfl)) rfl ?_)))
  all_goals (first | refine tl_sk rfl rfl rfl rfl ?_ | refine tl_eg rfl rfl rfl (e_callV rfl (.cons rfl .nil) (fun w' hw' => faultT_c t (thin9P.nt (by assumption)) sl pl ll tl w' (hr.fr (hw'.fr (by simp))))) (fun _ _ => ?_)); (first | refine tl_sk rfl rfl rfl rfl ?_ | refine tl_qg rfl rfl (y_eql rfl rfl) rfl ?_); (first | refine tl_q (y_pick_t rfl rfl) rfl ?_ | refine tl_q (y_pick_f rfl rfl) rfl ?_); refine tl_q (y_assign rfl) rfl ?_; refine tl_nil ?_; ((refine hK2 ?_; try (clear hK2; clear K2)))
  all_goals refine tc_ret ?_; (repeat (first | refine tk_then_ret ?_))
  all_goals (refine tk_ret rfl rfl (.cons (.tmp rfl) .nil) ?_)
  all_goals (
   refine fun w' hw' => ⟨congrArg (fun b => Ending.returned (Value.bool b)) ?_, hw'.fr (by simp)⟩
   first
   | exact decide_eq_decide.2 ⟨fun h => ⟨by assumption, h⟩, fun h => h.2⟩
   | exact (decide_eq_false (fun h => absurd h.1 (by assumption))).symm)
end Go.Sp
/-
  Package trial: whether a truth is one of a trial.
-/
namespace Go.Sp
open Go Go.Proofs
/-- What is asked of a function value that tests a test of a trial, and keeps something at bm. -/
def TestsTM (P : Program) (g : FuncId) (first cap : Array Value) (bm : Nat) (J : Obj → Prop) (p : E3 → Bool) (xs : List E3) (w : World) : Prop :=
  ∀ (x : E3) (o : Obj) (w' : World), Fr [bm] w w' → w'.heap[bm]? = some o → J o → x ∈ xs → CnX P g (first ++ #[tsV x] ++ cap) w' [bm] (fun _ : Obj => .bool (p x)) (fun o' w2 => J o' ∧ w2.heap[bm]? = some o')
theorem TestsTM.fr {P : Program} {g : FuncId} {first cap : Array Value} {bm : Nat} {J : Obj → Prop} {p : E3 → Bool} {xs : List E3} {w w1 : World} (h : TestsTM P g first cap bm J p xs w) (f : Fr [bm] w w1) : TestsTM P g first cap bm J p xs w1 := fun x o w' f' hl hj hx => h x o w' (f.trans f' (fun x hx => .inl hx)) hl hj hx
end Go.Sp
/-
  Package trial: the truth that is shown.
-/
namespace Go.Sp
open Go Go.Proofs
end Go.Sp
/-
  Package trial: whether a truth is one of a trial, walked.
-/
namespace Go.Sp
open Go Go.Proofs
end Go.Sp
/-
  What Leave returns is what the reference says.
-/
namespace Go.Sp
open Go Go.Proofs
end Go.Sp
/-
  The smallest set of readings: what is kept fits, and without any smaller list nothing does.
-/
namespace Go.Sp
open Go Go.Proofs
theorem y_shl1 {P : Program} {F : List (Nat × Value)} {bs : List (World × List Nat)} {H : List (Nat × Obj)} {d : Option Tmp} {ty : TypeId} {pos : String} {after : Array Edge} {g : Option (Nat × Bool)} {x y : Operand} {t t' : TypeId} {k' : IntKind} {n : Int} (hx : evalO F x = some (.int .i64 1)) (hy : evalO F y = some (.int k' n)) (hn : 0 ≤ n ∧ n ≤ 60) :
    OpY P ⟨d, .binOp .shl t x y t', ty, pos, after, g⟩ F bs H (.int .i64 ((2 ^ n.toNat : Nat) : Int)) := by
  have hp : 2 ^ n.toNat ≤ 2 ^ 60 := Nat.pow_le_pow_right (by omega) (by omega)
  have e : (1 : Int) * 2 ^ n.toNat = ((2 ^ n.toNat : Nat) : Int) := by simp
  have h : OpY P ⟨d, .binOp .shl t x y t', ty, pos, after, g⟩ F bs H (.int .i64 (1 * 2 ^ n.toNat)) := y_shl hx hy (by omega) (by rw [e]; generalize 2 ^ n.toNat = q at hp ⊢; omega)
  rw [e] at h; exact h
end Go.Sp
/-
  Trials, plainly: tests left out; the truth that is shown.
-/
namespace Go.Sp
open Go Go.Proofs
end Go.Sp
/-
  Trials, plainly: what a truth is; what was tried in one.
-/
namespace Go.Sp
open Go Go.Proofs
def wordF (ws : List Int) (k : Nat) : Int := if ws.length = 0 then 0 else ws.getD (k % ws.length) 0
theorem wordF_bd {ws : List Int} (h : ∀ x ∈ ws, 0 ≤ x ∧ x ≤ 255) (k : Nat) : 0 ≤ wordF ws k ∧ wordF ws k ≤ 255 := by
  unfold wordF
  split
  · omega
  · have := Nat.mod_lt k (show 0 < ws.length by omega)
    exact h _ (by rw [List.getD_eq_getElem?_getD, List.getElem?_eq_getElem this]; exact List.getElem_mem this)
def pkE (t : Tr) (ws : List Int) (n : Nat) : List Int := (List.range n).map fun i => wordF ws i % (2 * t.worst + 1) - t.worst
theorem pkE_succ (t : Tr) (ws : List Int) (n : Nat) : pkE t ws (n + 1) = pkE t ws n ++ [wordF ws n % (2 * t.worst + 1) - t.worst] := by simp [pkE, List.range_succ]
theorem pkE_len (t : Tr) (ws : List Int) (n : Nat) : (pkE t ws n).length = n := by simp [pkE]
def pkD (t : Tr) (ws : List Int) (n : Nat) : List Int := (List.range n).map fun i => (lqAt t i).1 + wordF ws (i + 3) % ((lqAt t i).2 - (lqAt t i).1 + 1)
theorem pkD_succ (t : Tr) (ws : List Int) (n : Nat) : pkD t ws (n + 1) = pkD t ws n ++ [(lqAt t n).1 + wordF ws (n + 3) % ((lqAt t n).2 - (lqAt t n).1 + 1)] := by simp [pkD, List.range_succ]
theorem pkD_len (t : Tr) (ws : List Int) (n : Nat) : (pkD t ws n).length = n := by simp [pkD]
abbrev pE (t : Tr) (ws : List Int) : List Int := pkE t ws t.parts.length
abbrev pD (t : Tr) (ws : List Int) : List Int := pkD t ws t.liquids.length
theorem pE_ok {t : Tr} (hv : VT t) (ws : List Int) : errB t (pE t ws) = true := by
  unfold errB
  rw [pkE_len, decide_eq_true rfl, Bool.true_and, List.all_eq_true]
  intro x hx
  obtain ⟨i, _, rfl⟩ := List.mem_map.1 hx
  have hw := hv.w
  have h1 := Int.emod_nonneg (wordF ws i) (show 2 * t.worst + 1 ≠ 0 by omega)
  have h2 := Int.emod_lt_of_pos (wordF ws i) (show 0 < 2 * t.worst + 1 by omega)
  exact decide_eq_true (by omega)
end Go.Sp
/-
  Trials, plainly: offers that are tried decide.
-/
namespace Go.Sp
open Go Go.Proofs
theorem right_mem {t : Tr} {e : E3} {q k x d : Int} (hx : x = -1 ∨ (0 ≤ x ∧ x ≤ t.s.divisions)) (h : rightF t e (q, k, x) d = true) : x ∈ shownL t e k d := by
  unfold rightF at h
  dsimp only at h
  split at h
  · rename_i hx1
    have hp := shownL_pos t e k d
    rw [decide_eq_true_eq, List.getD_eq_getElem?_getD, List.getElem?_eq_getElem hp] at h
    rw [hx1, ← h]
    exact List.getElem_mem hp
  · rename_i hx1
    have hx0 := hx.resolve_left hx1
    have hm : x ∈ shownN t e k d (t.s.divisions + 1).toNat := by
      unfold shownN
      exact List.mem_map.2 ⟨x.toNat, List.mem_filter.2 ⟨List.mem_range.2 (by omega), by rw [show ((x.toNat : Nat) : Int) = x from by omega]; exact h⟩, by omega⟩
    unfold shownL
    rw [if_neg (by have := List.length_pos_of_mem hm; omega)]
    exact hm
theorem alike_of {t : Tr} {a b : E3} {k d x : Int} (ha : x ∈ shownL t a k d) (hb : x ∈ shownL t b k d) : alikeF t a b k d = true := by
  unfold alikeF
  rw [Bool.or_eq_true]
  exact .inr (List.any_eq_true.2 ⟨x, ha, decide_eq_true hb⟩)
theorem mem_apL {t : Tr} {l : List (Int × Int)} {a b : E3} {x : Int} : x ∈ apL t l a b ↔ ∃ j : Nat, j < l.length ∧ alikeF t a b (l.getD j (0, 0)).1 (l.getD j (0, 0)).2 = false ∧ (j : Int) = x := by
  unfold apL apN
  simp only [List.mem_map, List.mem_filter, List.mem_range, Bool.not_eq_true', and_assoc]
theorem fewP_iff {t : Tr} {tol : Int} {l : List (Int × Int)} {xs : List Int} : fewP (pairsL t tol l) xs = true ↔ ∀ a ∈ gdL t tol, ∀ b ∈ bdL t tol, ∃ j : Nat, j < l.length ∧ alikeF t a b (l.getD j (0, 0)).1 (l.getD j (0, 0)).2 = false ∧ (j : Int) ∈ xs := by
  unfold fewP pairsL prs
  rw [List.take_length, List.take_zero, List.map_nil, List.append_nil, List.all_eq_true]
  constructor
  · intro h a ha b hb
    have := h (apL t l a b) (List.mem_flatMap.2 ⟨a, ha, List.mem_map.2 ⟨b, hb, rfl⟩⟩)
    obtain ⟨x, hx, h2⟩ := List.any_eq_true.1 this
    obtain ⟨j, hj, h3, rfl⟩ := mem_apL.1 hx
    exact ⟨j, hj, h3, of_decide_eq_true h2⟩
  · intro h ap hap
    obtain ⟨a, ha, h1⟩ := List.mem_flatMap.1 hap
    obtain ⟨b, hb, rfl⟩ := List.mem_map.1 h1
    obtain ⟨j, hj, h2, h3⟩ := h a ha b hb
    exact List.any_eq_true.2 ⟨_, mem_apL.2 ⟨j, hj, h2, rfl⟩, decide_eq_true h3⟩
/-- What Fewest answers. -/
theorem few_v {t : Tr} (hv : VT t) {tol : Int} (h0 : 0 ≤ tol) {l : List (Int × Int)} (hl : l.length ≤ 4) :
    (l.all (offB t) = false ∧ fewestE t tol l = ([], 2)) ∨ (l.all (offB t) = true ∧ askedE t = 11 ∧ fewestE t tol l = ([], 11)) ∨ (l.all (offB t) = true ∧ askedE t = 0 ∧ searchT (fewP (pairsL t tol l)) l.length = none ∧ fewestE t tol l = ([], 9)) ∨
    (l.all (offB t) = true ∧ askedE t = 0 ∧ ∃ r, searchT (fewP (pairsL t tol l)) l.length = some r ∧ fewestE t tol l = (r, 0)) := by
  have ht : tolE t tol = 0 := by
    unfold tolE
    rw [if_neg (by have := chkT_0.2 hv; omega), if_neg (by omega)]
  unfold fewestE
  rw [if_neg (by omega), if_neg (by omega)]
  cases hb : l.all (offB t)
  · exact .inl ⟨rfl, by rw [if_pos rfl]⟩
  · right
    rw [if_neg (by decide)]
    rcases asked_v hv with ⟨ha, _⟩ | ⟨ha, _⟩
    · right
      rw [if_neg (by omega)]
      rcases hs : searchT (fewP (pairsL t tol l)) l.length with _ | r
      · exact .inl ⟨rfl, ha, rfl, rfl⟩
      · exact .inr ⟨rfl, ha, r, rfl, rfl⟩
    · left
      rw [if_pos (by omega), ha]
      exact ⟨rfl, rfl, rfl⟩
theorem few_least {t : Tr} {tol : Int} {l : List (Int × Int)} {r : List Int} (h : searchT (fewP (pairsL t tol l)) l.length = some r) : Least (fewP (pairsL t tol l)) l.length r := search_some (N := l.length) (M := l.length + 1) (by omega) h
theorem few_none {t : Tr} {tol : Int} {l : List (Int × Int)} (h : searchT (fewP (pairsL t tol l)) l.length = none) {xs : List Int} (hx : Inc 0 l.length xs) : fewP (pairsL t tol l) xs = false := search_none (N := l.length) (M := l.length + 1) (by omega) h hx
theorem gd_bd {t : Tr} {tol : Int} : (judgeJ t tol = 1 ↔ bdL t tol = []) ∧ (judgeJ t tol = 2 → gdL t tol = []) ∧ (judgeJ t tol = 3 ↔ (gdL t tol ≠ [] ∧ bdL t tol ≠ [])) := by
  rw [judgeJ_len]
  unfold gdL bdL
  have e1 : ∀ q : List E3, q.length = 0 ↔ q = [] := fun q => List.length_eq_zero_iff
  by_cases h1 : ((truthsL t []).filter (badB t tol)).length = 0
  · rw [if_pos h1]
    refine ⟨⟨fun _ => (e1 _).1 h1, fun _ => rfl⟩, fun h => by omega, ⟨fun h => by omega, fun h => absurd ((e1 _).1 h1) h.2⟩⟩
  · rw [if_neg h1]
    by_cases h2 : ((truthsL t []).filter (goodB t tol)).length = 0
    · rw [if_pos h2]
      exact ⟨⟨fun h => by omega, fun h => absurd ((e1 _).2 h) h1⟩, fun _ => (e1 _).1 h2, ⟨fun h => by omega, fun h => absurd ((e1 _).1 h2) h.1⟩⟩
    · rw [if_neg h2]
      exact ⟨⟨fun h => by omega, fun h => absurd ((e1 _).2 h) h1⟩, fun h => by omega, ⟨fun _ => ⟨fun h => h2 ((e1 _).2 h), fun h => h1 ((e1 _).2 h)⟩, fun _ => rfl⟩⟩
/-- If no offers decide, the trial is to be tried again. -/
theorem few_again {t : Tr} {tol : Int} {l : List (Int × Int)} (h : searchT (fewP (pairsL t tol l)) l.length = none) : judgeJ t tol = 3 := by
  refine gd_bd.2.2.2 ⟨fun hg => ?_, fun hb => ?_⟩
  · have := few_none h Inc.nil
    rw [fewP_iff.2 (fun a ha => by rw [hg] at ha; cases ha)] at this
    cases this
  · have := few_none h Inc.nil
    rw [fewP_iff.2 (fun a ha b hb' => by rw [hb] at hb'; cases hb')] at this
    cases this
theorem few_zero {t : Tr} {tol : Int} {l : List (Int × Int)} {r : List Int} (h : Least (fewP (pairsL t tol l)) l.length r) : r.length = 0 ↔ ¬ judgeJ t tol = 3 := by
  rw [gd_bd.2.2]
  constructor
  · intro h0 ⟨h1, h2⟩
    obtain ⟨a, ha⟩ := List.exists_mem_of_ne_nil _ h1
    obtain ⟨b, hb⟩ := List.exists_mem_of_ne_nil _ h2
    obtain ⟨j, _, _, hj⟩ := fewP_iff.1 h.ok a ha b hb
    rw [List.eq_nil_of_length_eq_zero h0] at hj
    cases hj
  · intro hn
    have h0 := h.least [] Inc.nil (fewP_iff.2 fun a ha b hb => by
      exfalso
      exact hn ⟨List.ne_nil_of_mem ha, List.ne_nil_of_mem hb⟩)
    unfold lessF at h0
    split at h0
    · rename_i he; exact he.symm
    · rename_i he
      rw [decide_eq_false_iff_not] at h0
      simp only [List.length_nil] at h0 he
      omega
/-- Some of the offers, by a list of numbers. -/
def subO (l : List (Int × Int)) (xs : List Int) (n : Nat) : List (Int × Int) := (xs.take n).map fun i => l.getD i.toNat (0, 0)
theorem subO_succ {l : List (Int × Int)} {xs : List Int} {n : Nat} (h : n < xs.length) : subO l xs (n + 1) = subO l xs n ++ [l.getD (xs.getD n 0).toNat (0, 0)] := by
  unfold subO
  rw [List.take_add_one, List.map_append, List.getElem?_eq_getElem h, List.getD_eq_getElem?_getD (l := xs), List.getElem?_eq_getElem h]
  rfl
theorem subO_len {l : List (Int × Int)} {xs : List Int} {n : Nat} (h : n ≤ xs.length) : (subO l xs n).length = n := by
  unfold subO
  rw [List.length_map, List.length_take]; omega
theorem subO_all {t : Tr} {l : List (Int × Int)} {xs : List Int} (hx : ∀ x ∈ xs, 0 ≤ x ∧ x < (l.length : Int)) (h : l.all (offB t) = true) : (subO l xs xs.length).all (offB t) = true := by
  rw [List.all_eq_true] at h ⊢
  intro o ho
  unfold subO at ho
  rw [List.take_length] at ho
  obtain ⟨i, hi, rfl⟩ := List.mem_map.1 ho
  have := hx i hi
  refine h _ ?_
  rw [List.getD_eq_getElem?_getD, List.getElem?_eq_getElem (by omega)]
  exact List.getElem_mem _
/-- If some of the offers decide, the list of their numbers does. -/
theorem sub_decides {t : Tr} {tol : Int} {l : List (Int × Int)} {xs : List Int} (hx : ∀ x ∈ xs, 0 ≤ x ∧ x < (l.length : Int)) {r : List Int} (h : searchT (fewP (pairsL t tol (subO l xs xs.length))) (subO l xs xs.length).length = some r) : fewP (pairsL t tol l) xs = true := by
  have hl := few_least h
  refine fewP_iff.2 fun a ha b hb => ?_
  obtain ⟨j, hj, h1, _⟩ := fewP_iff.1 hl.ok a ha b hb
  rw [subO_len (Nat.le_refl _)] at hj
  have hg : (subO l xs xs.length).getD j (0, 0) = l.getD (xs.getD j 0).toNat (0, 0) := by
    unfold subO
    rw [List.take_length, List.getD_eq_getElem?_getD, List.getElem?_map, List.getElem?_eq_getElem hj, List.getD_eq_getElem?_getD (l := xs), List.getElem?_eq_getElem hj]
    rfl
  rw [hg] at h1
  have hm : xs.getD j 0 ∈ xs := by rw [List.getD_eq_getElem?_getD, List.getElem?_eq_getElem hj]; exact List.getElem_mem _
  have := hx _ hm
  exact ⟨(xs.getD j 0).toNat, by omega, h1, by rw [show (((xs.getD j 0).toNat : Nat) : Int) = xs.getD j 0 from by omega]; exact hm⟩
/-- A trial with more liquids of one density each, and a test in each. -/
structure Add (t u : Tr) (os : List (Int × Int)) : Prop where
  s : u.s = t.s
  p : u.parts = t.parts
  w : u.worst = t.worst
  l : u.liquids = t.liquids ++ os.map fun o => (o.2, o.2)
  n : u.tests.length = t.tests.length + os.length
  old : ∀ j : Nat, j < t.tests.length → u.tests.getD j (0, 0, 0) = t.tests.getD j (0, 0, 0)
  new : ∀ j : Nat, j < os.length → (u.tests.getD (t.tests.length + j) (0, 0, 0)).1 = ((t.liquids.length + j : Nat) : Int) ∧ (u.tests.getD (t.tests.length + j) (0, 0, 0)).2.1 = (os.getD j (0, 0)).1
theorem Add.lqOld {t u : Tr} {os : List (Int × Int)} (h : Add t u os) {i : Nat} (hi : i < t.liquids.length) : lqAt u i = lqAt t i := by
  unfold lqAt
  rw [h.l, List.getD_eq_getElem?_getD, List.getElem?_append_left hi, ← List.getD_eq_getElem?_getD]
theorem Add.lqNew {t u : Tr} {os : List (Int × Int)} (h : Add t u os) {j : Nat} (hj : j < os.length) : lqAt u (t.liquids.length + j) = ((os.getD j (0, 0)).2, (os.getD j (0, 0)).2) := by
  unfold lqAt
  rw [h.l, List.getD_eq_getElem?_getD, List.getElem?_append_right (by omega), Nat.add_sub_cancel_left, List.getElem?_map, List.getElem?_eq_getElem hj, List.getD_eq_getElem?_getD, List.getElem?_eq_getElem hj]
  rfl
theorem Add.truths {t u : Tr} {os : List (Int × Int)} (h : Add t u os) {e : E3} (he : e ∈ truthsL u []) : e ∈ truthsL t [] := by
  rw [mem_truths, denOk_iff] at he ⊢
  rw [every_eq h.w h.p] at he
  refine ⟨he.1, fun i hi => ?_⟩
  obtain ⟨d, hd⟩ := he.2 i (by rw [h.l, List.length_append]; omega)
  rw [dense_memT, pass_iffT, h.lqOld hi] at hd
  refine ⟨d, dense_memT.2 ⟨hd.1, pass_iffT.2 fun j hj => ?_⟩⟩
  have := hd.2 j (by rw [h.n]; omega)
  rw [h.old j hj, rightF_eq h.s h.p] at this
  exact this
/-- Two truths of such a trial are alike with each of the offers. -/
theorem Add.alike {t u : Tr} {os : List (Int × Int)} (hu : VT u) (h : Add t u os) {a b : E3} (ha : a ∈ truthsL u []) (hb : b ∈ truthsL u []) {j : Nat} (hj : j < os.length) : alikeF t a b (os.getD j (0, 0)).1 (os.getD j (0, 0)).2 = true := by
  have hn := h.new j hj
  have hjn : t.tests.length + j < u.tests.length := by rw [h.n]; omega
  have hts := of_decide_eq_true (List.all_eq_true.1 hu.ts _ (getD_memE hjn))
  rw [h.s] at hts
  have key : ∀ e : E3, e ∈ truthsL u [] → (u.tests.getD (t.tests.length + j) (0, 0, 0)).2.2 ∈ shownL t e (os.getD j (0, 0)).1 (os.getD j (0, 0)).2 := fun e he => by
    rw [mem_truths, denOk_iff] at he
    obtain ⟨d, hd⟩ := he.2 (t.liquids.length + j) (by rw [h.l, List.length_append, List.length_map]; omega)
    rw [dense_memT, pass_iffT, h.lqNew hj] at hd
    dsimp only at hd
    obtain rfl : d = (os.getD j (0, 0)).2 := by omega
    have := hd.2 (t.tests.length + j) hjn
    rcases this with g | g | g
    · exact absurd hn.1 g
    · cases g
    · rw [rightF_eq h.s h.p] at g
      rw [← hn.2]
      exact right_mem (q := (u.tests.getD (t.tests.length + j) (0, 0, 0)).1) hts.2.2 g
  exact alike_of (key a ha) (key b hb)
theorem Add.decided {t u : Tr} {tol : Int} {l : List (Int × Int)} {xs : List Int} (hu : VT u) (hx : ∀ x ∈ xs, 0 ≤ x ∧ x < (l.length : Int)) (h : Add t u (subO l xs xs.length)) (hp : fewP (pairsL t tol l) xs = true) : ¬ judgeJ u tol = 3 := fun h3 => by
  obtain ⟨h1, h2⟩ := gd_bd.2.2.1 h3
  obtain ⟨a, ha⟩ := List.exists_mem_of_ne_nil _ h1
  obtain ⟨b, hb⟩ := List.exists_mem_of_ne_nil _ h2
  unfold gdL at ha
  unfold bdL at hb
  rw [List.mem_filter] at ha hb
  have hg : ∀ e, goodB u tol e = goodB t tol e := fun e => by unfold goodB; rw [h.p]
  have ha2 : a ∈ gdL t tol := List.mem_filter.2 ⟨h.truths ha.1, by rw [← hg]; exact ha.2⟩
  have hb2 : b ∈ bdL t tol := List.mem_filter.2 ⟨h.truths hb.1, by have := hb.2; unfold badB at this ⊢; rw [← hg]; exact this⟩
  obtain ⟨i, hi, h4, h5⟩ := fewP_iff.1 hp a ha2 b hb2
  obtain ⟨j, hj, h6⟩ := List.getElem_of_mem h5
  have hlen : (subO l xs xs.length).length = xs.length := subO_len (Nat.le_refl _)
  have := h.alike hu ha.1 hb.1 (j := j) (by omega)
  have hgd : (subO l xs xs.length).getD j (0, 0) = l.getD i (0, 0) := by
    unfold subO
    rw [List.take_length, List.getD_eq_getElem?_getD, List.getElem?_map, List.getElem?_eq_getElem hj, h6]
    show l.getD (i : Int).toNat (0, 0) = _
    rw [Int.toNat_natCast]
  rw [hgd, h4] at this
  cases this
end Go.Sp
/-
  The reference of trials: what can be shown.
-/
namespace Go.Sp
open Go Go.Proofs
theorem canF_fit {t : Tr} (hv : VT t) {e : E3} {k d x : Int} (hk : 0 ≤ k ∧ k ≤ t.s.weights.length) (hd : 1 ≤ d ∧ d ≤ 2000) :
    canF t e k d x = (decide (0 ≤ x - ofF t e x ∧ x - ofF t e x ≤ t.s.divisions) && rFit t.s (k, x - ofF t e x) d) := by
  unfold canF readT
  generalize x - ofF t e x = n
  rcases h : seeF t.s k d with ⟨⟨r1, r2⟩, f⟩
  dsimp only
  rcases see_spec hv.s hk.1 hk.2 hd.1 hd.2 h with ⟨_, rfl, h0, h1, h2, _, hi⟩ | ⟨hf, rfl, _, _⟩
  · rw [if_pos rfl]
    by_cases hn : 0 ≤ n ∧ n ≤ t.s.divisions
    · rw [decide_eq_true hn, Bool.true_and]
      have := hi n hn.1 hn.2
      cases hr : rFit t.s (k, n) d
      · rw [hr] at this
        exact decide_eq_false (fun hh => by have := this.2 hh; cases this)
      · exact decide_eq_true (this.1 hr)
    · rw [decide_eq_false hn, Bool.false_and]
      exact decide_eq_false (fun hh => hn (by dsimp only at hh; omega))
  · rw [if_neg (by omega)]
    dsimp only
    rw [decide_eq_false (by omega)]
    by_cases hn : 0 ≤ n ∧ n ≤ t.s.divisions
    · rw [decide_eq_true hn, Bool.true_and]
      unfold rFit
      have h2 : rFlo t.s k d < 0 := by unfold rFlo at hf ⊢; split <;> rename_i g1; omega; rw [if_neg g1] at hf; split <;> rename_i g2; omega; rw [if_neg g2] at hf; omega
      rw [if_pos (.inr h2)]
      exact (decide_eq_false (by show ¬ rFlo t.s k d = n; omega)).symm
    · rw [decide_eq_false hn, Bool.false_and]
def partA (ps : List Int) (d : Int) : Nat → Nat
  | 0 => 0
  | n + 1 => if ps.getD n 0 ≤ d then n else partA ps d n
theorem partA_of (ps : List Int) (d : Int) : ∀ n, partA ps d (n + 1) = ofFrom ps d n
  | 0 => by show (if ps.getD 0 0 ≤ d then 0 else 0) = 0; split <;> rfl
  | n + 1 => by
    rw [ofFrom_succ]
    show (if ps.getD (n + 1) 0 ≤ d then n + 1 else partA ps d (n + 1)) = _
    rw [partA_of ps d n]
    by_cases h : ps.getD (n + 1) 0 ≤ d
    · rw [if_pos h, if_neg (by omega)]
    · rw [if_neg h, if_pos (by omega)]
theorem partA_le (ps : List Int) (d : Int) : ∀ n, partA ps d n ≤ n - 1
  | 0 => Nat.le_refl _
  | n + 1 => by
    show (if ps.getD n 0 ≤ d then n else partA ps d n) ≤ n
    split
    · exact Nat.le_refl _
    · have := partA_le ps d n; omega
theorem part9_c (t : Tr) (hn : NT t) (d : Int) (sl pl ll tl : Value) (w : World) (hp : RdI w pl t.parts) : CnV Tryz.prog 127 #[trV t sl pl ll tl, vi d] w (vi (partA t.parts d t.parts.length)) := by
  have hps := hn.ps
  obtain ⟨ad, cap, b0, o, rfl, had, hcell⟩ := hp.open
  refine cnv (vs := [_, _]) Tryz.func127 rfl rfl ?_
  all_goals refine tc_seq fun K1 hK1 => ?_; refine tc_region ?_; refine tl_e (e_box rfl rfl rfl) rfl (fun b2 _ => ?_); refine tl_q (y_assign rfl) rfl ?_; refine tl_nil ?_; ((refine hK1 ?_; try (clear hK1; clear K1)))
  all_goals refine tc_seq fun K2 hK2 => ?_; refine tc_region ?_; refine tl_q (y_assign rfl) rfl ?_; refine tl_nil ?_; ((refine hK2 ?_; try (clear hK2; clear K2)))
  all_goals refine tc_seq fun K3 hK3 => ?_; refine tc_seq fun K4 hK4 => ?_; refine tc_region ?_; refine tl_q (y_assign rfl) rfl ?_; refine tl_nil ?_; ((refine hK4 ?_; try (clear hK4; clear K4)))
  all_goals refine tc_block ?_
  all_goals (
   refine tc_loop (fun n : Nat => n ≤ t.parts.length) (fun n => [(1, vi d), (2, ptr b2), (5, vi (partA t.parts d n)), (6, vi n)]) (fun _ => [(w, [])]) (fun _ => [(b2, .cells (trV t sl (.slice ad t.parts.length cap) ll tl).cells 28 (0, 0))]) (fun n => t.parts.length - n) ?_ ?_
   · exact tk_start 0 (Nat.zero_le _) (.cons rfl (.cons rfl (.cons rfl (.cons rfl .nil)))) (fun _ h => h)
   · rintro n hn'
     all_goals refine tc_seq fun K5 hK5 => ?_; refine tc_seq fun K6 hK6 => ?_; refine tc_region ?_; refine tl_q (y_move rfl) rfl ?_; refine tl_q (y_field rfl) rfl ?_; refine tl_q (y_load1 rfl (by repeat constructor) (by rfl)) rfl ?_; refine tl_q (y_len rfl) rfl ?_; refine tl_q (y_lss rfl rfl) rfl ?_; refine tl_nil ?_; ((refine hK6 ?_; try (clear hK6; clear K6)))
     all_goals (
      refine tc_cond rfl (fun hc => ?_) (fun hc => ?_)
      · try simp only [decide_eq_true_eq, decide_eq_false_iff_not, Int.not_lt, Int.not_le, Bool.not_eq_true', Bool.not_eq_false', Decidable.not_not, not_true_eq_false] at hc
        all_goals refine tc_skip ?_; ((refine hK5 ?_; try (clear hK5; clear K5)))
        all_goals refine tc_seq fun K7 hK7 => ?_; refine tc_block ?_; refine tc_seq fun K8 hK8 => ?_; have had' := had (by omega)
        all_goals refine tc_region ?_; refine tl_q (y_field rfl) rfl ?_; refine tl_q (y_load1 rfl (by repeat constructor) (by rfl)) rfl ?_; refine tl_q (y_move rfl) rfl ?_; refine tl_q (y_index rfl rfl (by omega) had') rfl ?_; ((refine tl_q (y_load1o (v := vi (t.parts.getD n 0)) rfl (fun w' hw' => by rw [show Int.toNat (n : Int) * 1 = n from by omega]; exact hcell w' (hw'.fr (w0 := w) (S := []) (MI.m (by repeat constructor))) n (by omega))) rfl ?_))
        all_goals refine tl_q (y_move rfl) rfl ?_; refine tl_q (y_leq rfl rfl) rfl ?_; refine tl_nil ?_; ((refine hK8 ?_; try (clear hK8; clear K8)))
        all_goals (
         refine tc_cond rfl (fun hc => ?_) (fun hc => ?_)
         · try simp only [decide_eq_true_eq, decide_eq_false_iff_not, Int.not_lt, Int.not_le, Bool.not_eq_true', Bool.not_eq_false', Decidable.not_not, not_true_eq_false] at hc
           all_goals refine tc_region ?_; refine tl_q (y_move rfl) rfl ?_; refine tl_q (y_assign rfl) rfl ?_; refine tl_nil ?_; ((refine hK7 ?_; try (clear hK7; clear K7)))
           all_goals refine tc_region ?_; refine tl_q (y_move rfl) rfl ?_; refine tl_q (y_add rfl rfl (by omega)) rfl ?_; refine tl_q (y_assign rfl) rfl ?_; refine tl_nil ?_
           all_goals (
            refine tk_round (n + 1) (by omega) (by omega) (.cons rfl (.cons rfl (.cons ?_ (.cons rfl .nil)))) (fun _ h => h.subl (SB.s (by repeat constructor)) (SB.s (by repeat constructor)))
            have hs : partA t.parts d (n + 1) = if t.parts.getD n 0 ≤ d then n else partA t.parts d n := rfl
            first
            | (rw [hs, if_pos hc]; rfl)
            | (rw [hs, if_neg (by omega)]; rfl))
         · try simp only [decide_eq_true_eq, decide_eq_false_iff_not, Int.not_lt, Int.not_le, Bool.not_eq_true', Bool.not_eq_false', Decidable.not_not, not_true_eq_false] at hc
           all_goals refine tc_skip ?_; ((refine hK7 ?_; try (clear hK7; clear K7)))
           all_goals refine tc_region ?_; refine tl_q (y_move rfl) rfl ?_; refine tl_q (y_add rfl rfl (by omega)) rfl ?_; refine tl_q (y_assign rfl) rfl ?_; refine tl_nil ?_
           all_goals (
            refine tk_round (n + 1) (by omega) (by omega) (.cons rfl (.cons rfl (.cons ?_ (.cons rfl .nil)))) (fun _ h => h.subl (SB.s (by repeat constructor)) (SB.s (by repeat constructor)))
            have hs : partA t.parts d (n + 1) = if t.parts.getD n 0 ≤ d then n else partA t.parts d n := rfl
            first
            | (rw [hs, if_pos hc]; rfl)
            | (rw [hs, if_neg (by omega)]; rfl)))
      · try simp only [decide_eq_true_eq, decide_eq_false_iff_not, Int.not_lt, Int.not_le, Bool.not_eq_true', Bool.not_eq_false', Decidable.not_not, not_true_eq_false] at hc
        all_goals refine tc_exit ?_; ((refine hK3 ?_; try (clear hK3; clear K3)))
        all_goals refine tc_seq fun K9 hK9 => ?_; (have hnl : n = t.parts.length := by omega)
        all_goals subst hnl
        all_goals refine tc_region ?_; refine tl_q (y_move rfl) rfl ?_; refine tl_q (y_assign rfl) rfl ?_; refine tl_nil ?_; ((refine hK9 ?_; try (clear hK9; clear K9)))
        all_goals refine tc_ret ?_; (repeat (first | refine tk_then_ret ?_))
        all_goals (refine tk_ret rfl rfl (.cons (.tmp rfl) .nil) ?_)
        all_goals (
         exact fun w' hw' => ⟨rfl, hw'.fr (by simp)⟩)))
theorem er3_get {l : List Int} (h : l.length ≤ 3) {i : Nat} (hi : i < 3) : get3 (er3 l) i = l.getD i 0 := by
  rcases (by omega : i = 0 ∨ i = 1 ∨ i = 2) with rfl | rfl | rfl <;> rfl
theorem errB_v {t : Tr} {l : List Int} (h : errB t l = true) : l.length = t.parts.length ∧ ∀ i : Nat, i < l.length → -t.worst ≤ l.getD i 0 ∧ l.getD i 0 ≤ t.worst := by
  unfold errB at h
  rw [Bool.and_eq_true, decide_eq_true_eq, List.all_eq_true] at h
  refine ⟨h.1, fun i hi => ?_⟩
  have := of_decide_eq_true (h.2 (l.getD i 0) (by rw [List.getD_eq_getElem?_getD, List.getElem?_eq_getElem hi]; exact List.getElem_mem hi))
  exact this
theorem can9_c (t : Tr) (hv : VT t) (l : List Int) (hl : errB t l = true) (k d x : Int) (hk : 0 ≤ k ∧ k ≤ t.s.weights.length) (hd : 1 ≤ d ∧ d ≤ 2000) (hx : 0 ≤ x ∧ x ≤ t.s.divisions) (sl pl ll tl lv : Value) (w : World) (hr : RdTr w t sl pl ll tl) (hL : RdI w lv l) :
    CnV Tryz.prog 74 #[trV t sl pl ll tl, lv, vi k, vi d, vi x] w (.bool (canF t (er3 l) k d x)) := by
  have hr0 := hr
  have hp1 := hv.p1
  have hp3 := hv.p3
  have hw := hv.w
  have hd2 := hv.s.d2
  obtain ⟨hll, hlb⟩ := errB_v hl
  obtain ⟨aw, cw, _, _, rfl, _, _⟩ := hr.ws.open
  obtain ⟨ad, cap, b0, o, rfl, had, hcell⟩ := hL.open
  obtain ⟨j, hj⟩ : ∃ j, j = partA t.parts x t.parts.length := ⟨_, rfl⟩
  have hjl : j < l.length := by have := partA_le t.parts x t.parts.length; omega
  have had' := had (by omega)
  have hjb := hlb j hjl
  have hof : ofF t (er3 l) x = l.getD j 0 := by
    unfold ofF
    rw [← partA_of, show t.parts.length - 1 + 1 = t.parts.length from by omega, ← hj, er3_get (by omega) (by omega)]
  have hcf := canF_fit hv (e := er3 l) (k := k) (d := d) (x := x) hk hd
  rw [hof] at hcf
  refine cnv (vs := [_, _, _, _, _]) Tryz.func74 rfl rfl ?_
  all_goals refine tc_seq fun K1 hK1 => ?_; refine tc_region ?_; refine tl_e (e_box rfl rfl rfl) rfl (fun b5 _ => ?_); refine tl_q (y_assign rfl) rfl ?_; refine tl_nil ?_; ((refine hK1 ?_; try (clear hK1; clear K1)))
  all_goals refine tc_seq fun K2 hK2 => ?_; refine tc_seq fun K3 hK3 => ?_; refine tc_region ?_; refine tl_q (y_move rfl) rfl ?_; refine tl_q (y_geq rfl rfl) rfl ?_; refine tl_nil ?_; ((refine hK3 ?_; try (clear hK3; clear K3)))
  all_goals (
   refine tc_cond rfl (fun hc => ?_) (fun hc => ?_)
   · try simp only [decide_eq_true_eq, decide_eq_false_iff_not, Int.not_lt, Int.not_le, Bool.not_eq_true', Bool.not_eq_false', Decidable.not_not, not_true_eq_false] at hc
     all_goals refine tc_seq fun K4 hK4 => ?_; refine tc_region ?_; refine tl_q (y_move rfl) rfl ?_; refine tl_q (y_move rfl) rfl ?_; refine tl_q (y_loadW rfl (by repeat constructor) (by rfl)) rfl ?_; refine tl_q (y_move rfl) rfl ?_; (refine tl_e (e_callV rfl (.cons rfl (.cons rfl .nil)) (fun w' hw' => by have h := part9_c t hv.nt x (.slice aw t.s.weights.length cw) pl ll tl w' (hr0.fr (hw'.fr (by simp))).ps; rw [← hj] at h; exact h)) rfl (fun _ _ => ?_))
     all_goals (refine tl_q (y_index rfl rfl (by omega) had') rfl ?_); ((refine tl_q (y_load1o (v := vi (l.getD j 0)) rfl (fun w' hw' => by rw [show Int.toNat (j : Int) * 1 = j from by omega]; exact hcell w' (hw'.fr (w0 := w) (S := []) (by simp)) j hjl)) rfl ?_))
     all_goals refine tl_q (y_sub rfl rfl (by omega)) rfl ?_; refine tl_q (y_assign rfl) rfl ?_; refine tl_nil ?_; ((refine hK4 ?_; try (clear hK4; clear K4)))
     all_goals refine tc_seq fun K5 hK5 => ?_; refine tc_region ?_; refine tl_q (y_move rfl) rfl ?_; refine tl_q (y_geq rfl rfl) rfl ?_; refine tl_q (y_move rfl) rfl ?_; ((refine tl_gs rfl rfl (fun hc => ?_) (fun hc => ?_) <;> (try simp only [decide_eq_true_eq, decide_eq_false_iff_not, Int.not_lt, Int.not_le, Bool.not_eq_true', Bool.not_eq_false', Decidable.not_not, not_true_eq_false] at hc) <;> (first | refine tl_sk rfl rfl rfl rfl ?_ | refine tl_qg rfl rfl (y_move rfl) rfl ?_)))
     all_goals (first | refine tl_sk rfl rfl rfl rfl ?_ | refine tl_qg rfl rfl (y_field rfl) rfl ?_); (first | refine tl_sk rfl rfl rfl rfl ?_ | refine tl_qg rfl rfl (y_field rfl) rfl ?_); (first | refine tl_sk rfl rfl rfl rfl ?_ | refine tl_qg rfl rfl (y_load1 rfl (by repeat constructor) (by rfl)) rfl ?_); (first | refine tl_sk rfl rfl rfl rfl ?_ | refine tl_qg rfl rfl (y_leq rfl rfl) rfl ?_); (first | refine tl_q (y_pick_t rfl rfl) rfl ?_ | refine tl_q (y_pick_f rfl rfl) rfl ?_); refine tl_q (y_move rfl) rfl ?_; ((first | refine tl_sk rfl rfl rfl rfl ?_ | (refine tl_gs rfl rfl (fun hc => ?_) (fun hc => ?_) <;> (try simp only [decide_eq_true_eq, decide_eq_false_iff_not, Int.not_lt, Int.not_le, Bool.not_eq_true', Bool.not_eq_false', Decidable.not_not, not_true_eq_false] at hc) <;> (first | refine tl_sk rfl rfl rfl rfl ?_ | refine tl_qg rfl rfl (y_field rfl) rfl ?_))))
     all_goals ((first | refine tl_sk rfl rfl rfl rfl ?_ | refine tl_qg rfl rfl (y_loadN rfl (by repeat constructor) (by (repeat (first | exact .nil | apply CA.cons rfl)); done)) rfl ?_))
     all_goals (first | refine tl_sk rfl rfl rfl rfl ?_ | refine tl_qg rfl rfl (y_move rfl) rfl ?_); (first | refine tl_sk rfl rfl rfl rfl ?_ | refine tl_qg rfl rfl (y_move rfl) rfl ?_); (first | refine tl_sk rfl rfl rfl rfl ?_ | refine tl_qg rfl rfl (y_build_2 rfl rfl rfl rfl) rfl ?_); (first | refine tl_sk rfl rfl rfl rfl ?_ | refine tl_qg rfl rfl (y_move rfl) rfl ?_); ((first | refine tl_sk rfl rfl rfl rfl ?_ | refine tl_eg rfl rfl rfl (e_callV rfl (.cons rfl (.cons rfl (.cons rfl .nil))) (fun w' hw' => fits_c t.s hv.s (k, x - l.getD j 0) (decide_eq_true ⟨hk, by dsimp only; omega⟩) d hd.1 hd.2 _ w' (hr0.fr (hw'.fr (by simp))).ws)) (fun _ _ => ?_)))
     all_goals (first | refine tl_q (y_pick_t rfl rfl) rfl ?_ | refine tl_q (y_pick_f rfl rfl) rfl ?_); refine tl_q (y_assign rfl) rfl ?_; refine tl_nil ?_; ((refine hK5 ?_; try (clear hK5; clear K5)))
     all_goals refine tc_ret ?_; (repeat (refine tk_then_ret ?_))
     all_goals (refine tk_ret rfl rfl (.cons (.tmp rfl) .nil) ?_)
     all_goals (
      refine fun w' hw' => ⟨congrArg (fun b => Ending.returned (Value.bool b)) ?_, hw'.fr (by simp)⟩
      rw [hcf]
      first
      | (rw [decide_eq_true (by omega), Bool.true_and])
      | (rw [decide_eq_false (by omega), Bool.false_and]))
   · try simp only [decide_eq_true_eq, decide_eq_false_iff_not, Int.not_lt, Int.not_le, Bool.not_eq_true', Bool.not_eq_false', Decidable.not_not, not_true_eq_false] at hc
     all_goals ((exfalso; omega))
     all_goals skip)
end Go.Sp
/-
  The reference of trials: all that can be shown.
-/
namespace Go.Sp
open Go Go.Proofs
theorem shownN_0 {t : Tr} {e : E3} {k d : Int} {n : Nat} (h : ∀ j : Nat, j < n → canF t e k d j = false) : (shownN t e k d n).length = 0 := by
  unfold shownN
  rw [List.length_map, List.length_eq_zero_iff, List.filter_eq_nil_iff]
  intro j hj
  rw [h j (List.mem_range.1 hj)]; exact Bool.false_ne_true
theorem shownN_1 {t : Tr} {e : E3} {k d : Int} {n j : Nat} (hj : j < n) (h : canF t e k d j = true) : ¬ (shownN t e k d n).length = 0 := by
  unfold shownN
  rw [List.length_map, List.length_eq_zero_iff, List.filter_eq_nil_iff]
  intro g
  exact g j (List.mem_range.2 hj) h
def noneB (t : Tr) (e : E3) (k d : Int) : Bool := decide ((shownN t e k d (t.s.divisions + 1).toNat).length = 0)
theorem canN_c (t : Tr) (hv : VT t) (l : List Int) (hl : errB t l = true) (k d : Int) (hk : 0 ≤ k ∧ k ≤ t.s.weights.length) (hd : 1 ≤ d ∧ d ≤ 2000) (sl pl ll tl lv : Value) (w : World) (hr : RdTr w t sl pl ll tl) (hL : RdI w lv l) :
    CnV Tryz.prog 74 #[trV t sl pl ll tl, lv, vi k, vi d, vi (-1)] w (.bool (noneB t (er3 l) k d)) := by
  have hr0 := hr
  have hd1 := hv.s.d1
  have hd2 := hv.s.d2
  obtain ⟨aw, cw, _, _, rfl, _, _⟩ := hr.ws.open
  refine cnv (vs := [_, _, _, _, _]) Tryz.func74 rfl rfl ?_
  all_goals refine tc_seq fun K1 hK1 => ?_; refine tc_region ?_; refine tl_e (e_box rfl rfl rfl) rfl (fun b5 _ => ?_); refine tl_q (y_assign rfl) rfl ?_; refine tl_nil ?_; ((refine hK1 ?_; try (clear hK1; clear K1)))
  all_goals refine tc_seq fun K2 hK2 => ?_; refine tc_seq fun K3 hK3 => ?_; refine tc_region ?_; refine tl_q (y_move rfl) rfl ?_; refine tl_q (y_geq rfl rfl) rfl ?_; refine tl_nil ?_; ((refine hK3 ?_; try (clear hK3; clear K3)))
  all_goals (
   refine tc_cond rfl (fun hc => ?_) (fun hc => ?_)
   · try simp only [decide_eq_true_eq, decide_eq_false_iff_not, Int.not_lt, Int.not_le, Bool.not_eq_true', Bool.not_eq_false', Decidable.not_not, not_true_eq_false] at hc
     all_goals ((exfalso; omega))
   · try simp only [decide_eq_true_eq, decide_eq_false_iff_not, Int.not_lt, Int.not_le, Bool.not_eq_true', Bool.not_eq_false', Decidable.not_not, not_true_eq_false] at hc
     all_goals refine tc_skip ?_; ((refine hK2 ?_; try (clear hK2; clear K2)))
     all_goals refine tc_seq fun K6 hK6 => ?_; refine tc_seq fun K7 hK7 => ?_; refine tc_region ?_; refine tl_q (y_assign rfl) rfl ?_; refine tl_nil ?_; ((refine hK7 ?_; try (clear hK7; clear K7)))
     all_goals refine tc_block ?_
     all_goals (
      refine tc_loop (fun n : Nat => n ≤ (t.s.divisions + 1).toNat ∧ ∀ j : Nat, j < n → canF t (er3 l) k d j = false) (fun n => [(1, lv), (2, vi k), (3, vi d), (5, ptr b5), (12, vi n)]) (fun _ => [(w, [])]) (fun _ => [(b5, .cells (trV t (.slice aw t.s.weights.length cw) pl ll tl).cells 28 (0, 0))]) (fun n => (t.s.divisions + 1).toNat - n) ?_ ?_
      · exact tk_start 0 ⟨Nat.zero_le _, fun j hj => absurd hj (Nat.not_lt_zero j)⟩ (.cons rfl (.cons rfl (.cons rfl (.cons rfl (.cons rfl .nil))))) (fun _ h => h.subl (SB.s (by repeat constructor)) (SB.s (by repeat constructor)))
      · rintro n ⟨hn, hno⟩
        all_goals refine tc_seq fun K8 hK8 => ?_; refine tc_seq fun K9 hK9 => ?_; refine tc_region ?_; refine tl_q (y_move rfl) rfl ?_; refine tl_q (y_field rfl) rfl ?_; refine tl_q (y_field rfl) rfl ?_; refine tl_q (y_load1 rfl (by repeat constructor) (by rfl)) rfl ?_; refine tl_q (y_leq rfl rfl) rfl ?_; refine tl_nil ?_; ((refine hK9 ?_; try (clear hK9; clear K9)))
        all_goals (
         refine tc_cond rfl (fun hc => ?_) (fun hc => ?_)
         · try simp only [decide_eq_true_eq, decide_eq_false_iff_not, Int.not_lt, Int.not_le, Bool.not_eq_true', Bool.not_eq_false', Decidable.not_not, not_true_eq_false] at hc
           all_goals refine tc_skip ?_; ((refine hK8 ?_; try (clear hK8; clear K8)))
           all_goals refine tc_seq fun K10 hK10 => ?_; refine tc_block ?_; refine tc_seq fun K11 hK11 => ?_; refine tc_region ?_; refine tl_q (y_loadW rfl (by repeat constructor) (by rfl)) rfl ?_; refine tl_q (y_move rfl) rfl ?_; refine tl_q (y_move rfl) rfl ?_; refine tl_q (y_move rfl) rfl ?_; refine tl_q (y_move rfl) rfl ?_; refine tl_e (e_callV rfl (.cons rfl (.cons rfl (.cons rfl (.cons rfl (.cons rfl .nil))))) (fun w' hw' => can9_c t hv l hl k d (n : Nat) hk hd (by omega) _ _ _ _ _ w' (hr0.fr (hw'.fr (w0 := w) (S := []) (MI.m (by repeat constructor)))) (hL.fr (hw'.fr (w0 := w) (S := []) (MI.m (by repeat constructor)))))) rfl (fun _ _ => ?_); refine tl_nil ?_; ((refine hK11 ?_; try (clear hK11; clear K11)))
           all_goals (
            refine tc_cond rfl (fun hc => ?_) (fun hc => ?_)
            · all_goals (skip)
              all_goals refine tc_seq fun K12 hK12 => ?_; refine tc_region ?_; refine tl_q (y_assign rfl) rfl ?_; refine tl_nil ?_; ((refine hK12 ?_; try (clear hK12; clear K12)))
              all_goals refine tc_ret ?_; (repeat (first | refine tk_then_ret ?_ | refine tk_block_ret ?_))
              all_goals (refine tk_ret rfl rfl (.cons (.tmp rfl) .nil) ?_)
              all_goals (
               refine fun w' hw' => ⟨congrArg (fun b => Ending.returned (Value.bool b)) ?_, hw'.fr (by simp)⟩
               symm
               unfold noneB
               first
               | exact decide_eq_false (shownN_1 (j := n) (by omega) hc)
               | exact decide_eq_true (shownN_0 (fun j hj => hno j (by omega))))
            · all_goals (skip)
              all_goals refine tc_skip ?_; ((refine hK10 ?_; try (clear hK10; clear K10)))
              all_goals refine tc_region ?_; refine tl_q (y_move rfl) rfl ?_; refine tl_q (y_add rfl rfl (by omega)) rfl ?_; refine tl_q (y_assign rfl) rfl ?_; refine tl_nil ?_
              all_goals (
               exact tk_round (n + 1) ⟨by omega, fun j hj => by
                 rcases Nat.lt_succ_iff_lt_or_eq.1 hj with g | rfl
                 · exact hno j g
                 · exact hc⟩ (by omega) (.cons rfl (.cons rfl (.cons rfl (.cons rfl (.cons rfl .nil))))) (fun _ h => h.subl (SB.s (by repeat constructor)) (SB.s (by repeat constructor)))))
         · try simp only [decide_eq_true_eq, decide_eq_false_iff_not, Int.not_lt, Int.not_le, Bool.not_eq_true', Bool.not_eq_false', Decidable.not_not, not_true_eq_false] at hc
           all_goals refine tc_exit ?_; ((refine hK6 ?_; try (clear hK6; clear K6)))
           all_goals refine tc_seq fun K13 hK13 => ?_; refine tc_region ?_; refine tl_q (y_assign rfl) rfl ?_; refine tl_nil ?_; ((refine hK13 ?_; try (clear hK13; clear K13)))
           all_goals refine tc_ret ?_; (repeat (first | refine tk_then_ret ?_))
           all_goals (refine tk_ret rfl rfl (.cons (.tmp rfl) .nil) ?_)
           all_goals (
            refine fun w' hw' => ⟨congrArg (fun b => Ending.returned (Value.bool b)) ?_, hw'.fr (by simp)⟩
            symm
            unfold noneB
            first
            | exact decide_eq_false (shownN_1 (j := n) (by omega) hc)
            | exact decide_eq_true (shownN_0 (fun j hj => hno j (by omega)))))))
/-- What is found so far, from -1 on. -/
def rsN (t : Tr) (e : E3) (k d : Int) (j : Nat) : List Int := (if 0 < j ∧ noneB t e k d = true then [-1] else []) ++ shownN t e k d (j - 1)
theorem rsN_0 (t : Tr) (e : E3) (k d : Int) : rsN t e k d 0 = [] := by unfold rsN; rw [if_neg (by omega)]; rfl
theorem rsN_1 (t : Tr) (e : E3) (k d : Int) : rsN t e k d 1 = if noneB t e k d = true then [-1] else [] := by
  unfold rsN
  by_cases h : noneB t e k d = true
  · rw [if_pos ⟨by omega, h⟩, if_pos h]; rfl
  · rw [if_neg (fun g => h g.2), if_neg h]; rfl
theorem rsN_v (t : Tr) (e : E3) (k d : Int) (j : Nat) : rsN t e k d (j + 1) = (if noneB t e k d = true then [-1] else []) ++ shownN t e k d j := by
  unfold rsN
  by_cases h : noneB t e k d = true
  · rw [if_pos ⟨by omega, h⟩, if_pos h]; rfl
  · rw [if_neg (fun g => h g.2), if_neg h]; rfl
/-- Whether the j-th of -1, 0, .. can be shown. -/
def cB (t : Tr) (e : E3) (k d : Int) (j : Nat) : Bool := if j = 0 then noneB t e k d else canF t e k d ((j : Int) - 1)
theorem rsN_succ (t : Tr) (e : E3) (k d : Int) (j : Nat) : rsN t e k d (j + 1) = if cB t e k d j = true then rsN t e k d j ++ [(j : Int) - 1] else rsN t e k d j := by
  rcases j with _ | j
  · rw [rsN_1, rsN_0]; rfl
  · have hc : cB t e k d (j + 1) = canF t e k d j := by unfold cB; rw [if_neg (by omega)]; congr 1; omega
    rw [hc, rsN_v, rsN_v, shownN_succ, show (((j + 1 : Nat) : Int) - 1) = (j : Int) from by omega]
    generalize (if noneB t e k d = true then [-1] else ([] : List Int)) = x
    split
    · rw [List.append_assoc]
    · rfl
theorem canB_c (t : Tr) (hv : VT t) (l : List Int) (hl : errB t l = true) (k d : Int) (hk : 0 ≤ k ∧ k ≤ t.s.weights.length) (hd : 1 ≤ d ∧ d ≤ 2000) (j : Nat) (hj : (j : Int) ≤ t.s.divisions + 1) (sl pl ll tl lv : Value) (w : World) (hr : RdTr w t sl pl ll tl) (hL : RdI w lv l) :
    CnV Tryz.prog 74 #[trV t sl pl ll tl, lv, vi k, vi d, vi ((j : Int) - 1)] w (.bool (cB t (er3 l) k d j)) := by
  rcases j with _ | j
  · exact canN_c t hv l hl k d hk hd sl pl ll tl lv w hr hL
  · have h := can9_c t hv l hl k d ((j + 1 : Nat) - 1) hk hd (by omega) sl pl ll tl lv w hr hL
    unfold cB
    rw [if_neg (by omega)]
    exact h
theorem rsN_all {t : Tr} (hv : VT t) (e : E3) (k d : Int) : rsN t e k d ((t.s.divisions + 1).toNat + 1) = shownL t e k d := by
  unfold rsN shownL noneB
  rw [show (t.s.divisions + 1).toNat + 1 - 1 = (t.s.divisions + 1).toNat from by omega]
  by_cases h : (shownN t e k d (t.s.divisions + 1).toNat).length = 0
  · rw [if_pos ⟨by omega, decide_eq_true h⟩, if_pos h, List.eq_nil_of_length_eq_zero h]; rfl
  · rw [if_neg (fun g => h (of_decide_eq_true g.2)), if_neg h]; rfl
theorem rsN_len (t : Tr) (e : E3) (k d : Int) (j : Nat) : (rsN t e k d j).length ≤ j + 1 := by
  unfold rsN
  rw [List.length_append]
  have := shownN_len t e k d (j - 1)
  split <;> simp only [List.length_cons, List.length_nil] <;> omega
theorem refShownN_c (t : Tr) (hv : VT t) (l : List Int) (hl : errB t l = true) (k d : Int) (hk : 0 ≤ k ∧ k ≤ t.s.weights.length) (hd : 1 ≤ d ∧ d ≤ 2000) (sl pl ll tl lv : Value) (w : World) (hr : RdTr w t sl pl ll tl) (hL : RdI w lv l) :
    CnX Tryz.prog 25 #[trV t sl pl ll tl, lv, vi k, vi d] w [] (slV (shownL t (er3 l) k d).length) (fun y w' => RdI w' (slV (shownL t (er3 l) k d).length y) (shownL t (er3 l) k d) ∧ NewS w (slV (shownL t (er3 l) k d).length y)) := by
  have hr0 := hr
  have hd1 := hv.s.d1
  have hd2 := hv.s.d2
  obtain ⟨aw, cw, _, _, rfl, _, _⟩ := hr.ws.open
  refine cnx0 (vs := [_, _, _, _]) Tryz.func25 rfl rfl ?_
  all_goals refine tc_seq fun K1 hK1 => ?_; refine tc_region ?_; refine tl_e (e_box rfl rfl rfl) rfl (fun b4 _ => ?_); refine tl_q (y_assign rfl) rfl ?_; refine tl_nil ?_; ((refine hK1 ?_; try (clear hK1; clear K1)))
  all_goals refine tc_seq fun K2 hK2 => ?_; refine tc_region ?_; refine tl_q (y_assign rfl) rfl ?_; refine tl_nil ?_; ((refine hK2 ?_; try (clear hK2; clear K2)))
  all_goals refine tc_seq fun K3 hK3 => ?_; refine tc_seq fun K4 hK4 => ?_; refine tc_region ?_; refine tl_q (y_assign rfl) rfl ?_; refine tl_nil ?_; ((refine hK4 ?_; try (clear hK4; clear K4)))
  all_goals refine tc_block ?_
  all_goals (
   refine tc_loop (fun p : Nat × Option (Nat × Nat × List Value) => p.1 ≤ (t.s.divisions + 1).toNat + 1 ∧ outOk ((rsN t (er3 l) k d p.1).length, p.2)) (fun p => [(1, lv), (2, vi k), (3, vi d), (4, ptr b4), (9, outV' ((rsN t (er3 l) k d p.1).length, p.2)), (10, vi ((p.1 : Int) - 1))]) (fun _ => [(w, [])]) (fun p => slH 3 ((rsN t (er3 l) k d p.1).map vi) p.2 ++ [(b4, .cells (trV t (.slice aw t.s.weights.length cw) pl ll tl).cells 28 (0, 0))]) (fun p => (t.s.divisions + 1).toNat + 1 - p.1) ?_ ?_
   · exact tk_start (0, none) ⟨Nat.zero_le _, by dsimp only; rw [rsN_0]; rfl⟩ (.cons rfl (.cons rfl (.cons rfl (.cons rfl (.cons rfl (.cons rfl .nil)))))) (fun _ h => h.subl (SB.s (by repeat constructor)) (SB.s (by repeat constructor)))
   · rintro ⟨n, oo⟩ ⟨hn, hok⟩
     have hlen := rsN_len t (er3 l) k d n
     have hsu := rsN_succ t (er3 l) k d n
     rcases oo with _ | ⟨b0, cap, junk⟩
     all_goals ((dsimp only [outOk] at hn hok hlen; dsimp only [slH_none, slH_some, List.cons_append, List.nil_append, outV']))
     all_goals refine tc_seq fun K5 hK5 => ?_; refine tc_seq fun K6 hK6 => ?_; refine tc_region ?_; refine tl_q (y_move rfl) rfl ?_; refine tl_q (y_field rfl) rfl ?_; refine tl_q (y_field rfl) rfl ?_; refine tl_q (y_load1 rfl (by repeat constructor) (by rfl)) rfl ?_; refine tl_q (y_leq rfl rfl) rfl ?_; refine tl_nil ?_; ((refine hK6 ?_; try (clear hK6; clear K6)))
     all_goals (
      refine tc_cond rfl (fun hc => ?_) (fun hc => ?_)
      · try simp only [decide_eq_true_eq, decide_eq_false_iff_not, Int.not_lt, Int.not_le, Bool.not_eq_true', Bool.not_eq_false', Decidable.not_not, not_true_eq_false] at hc
        all_goals refine tc_skip ?_; ((refine hK5 ?_; try (clear hK5; clear K5)))
        all_goals refine tc_seq fun K7 hK7 => ?_; refine tc_block ?_; refine tc_seq fun K8 hK8 => ?_; refine tc_region ?_; refine tl_q (y_loadW rfl (by repeat constructor) (by rfl)) rfl ?_; refine tl_q (y_move rfl) rfl ?_; refine tl_q (y_move rfl) rfl ?_; refine tl_q (y_move rfl) rfl ?_; refine tl_q (y_move rfl) rfl ?_; refine tl_e (e_callV rfl (.cons rfl (.cons rfl (.cons rfl (.cons rfl (.cons rfl .nil))))) (fun w' hw' => canB_c t hv l hl k d hk hd n (by omega) _ _ _ _ _ w' (hr0.fr (hw'.fr (w0 := w) (S := []) (MI.m (by repeat constructor)))) (hL.fr (hw'.fr (w0 := w) (S := []) (MI.m (by repeat constructor)))))) rfl (fun _ _ => ?_); refine tl_nil ?_; ((refine hK8 ?_; try (clear hK8; clear K8)))
        all_goals (
         refine tc_cond rfl (fun hc => ?_) (fun hc => ?_)
         · all_goals (skip)
           all_goals refine tc_region ?_; refine tl_q (y_move rfl) rfl ?_; refine tl_q (y_move rfl) rfl ?_; (refine tl_e (e_bslice rfl (by (repeat (first | exact .nil | apply PV.one rfl rfl)); done) rfl rfl) rfl (fun _ _ => ?_))
           all_goals ((first | refine tl_e (e_append_own (old := (rsN t (er3 l) k d n).map vi) (junk := junk) rfl rfl rfl (by repeat constructor) (by simp) (by omega) hok.1 (fun w' hw' => RdI.own0 (xs := [(n : Int) - 1]) hw' (by repeat constructor)) (fun u hu => by obtain ⟨_, _, rfl⟩ := List.mem_map.1 hu; rfl) (by simp only [List.length_cons, List.length_nil]; omega) rfl) rfl (fun y hy => ?_) | refine tl_e (e_append_nil rfl rfl rfl (fun w' hw' => RdI.own0 (xs := [(n : Int) - 1]) hw' (by repeat constructor)) (fun u hu => by obtain ⟨_, _, rfl⟩ := List.mem_map.1 hu; rfl) Nat.zero_lt_one (Nat.le_of_ble_eq_true rfl) rfl) rfl (fun y hy => ?_)))
           all_goals refine tl_q (y_assign rfl) rfl ?_; refine tl_nil ?_; ((refine hK7 ?_; try (clear hK7; clear K7)))
           all_goals refine tc_region ?_; refine tl_q (y_move rfl) rfl ?_; refine tl_q (y_add rfl rfl (by omega)) rfl ?_; refine tl_q (y_assign rfl) rfl ?_; refine tl_nil ?_
           all_goals (
            first
            | (have hs2 : rsN t (er3 l) k d (n + 1) = rsN t (er3 l) k d n ++ [(n : Int) - 1] := by rw [hsu, if_pos hc]
               refine tk_round (n + 1, some (y.1, y.2.1, y.2.2)) ⟨by dsimp only; omega, ?_⟩ (by dsimp only; omega) (.cons rfl (.cons rfl (.cons rfl (.cons rfl (.cons ?_ (.cons ?_ .nil)))))) (fun _ h => ?_)
               · dsimp only [outOk]; rw [hs2, List.length_append]; simp only [List.length_cons, List.length_nil] at hy ⊢; omega
               · dsimp only [outV']; rw [hs2, List.length_append]; first | rfl | (rw [hok]; rfl)
               · show some (vi _) = some (vi _); congr 2; dsimp only; omega
               · dsimp only [slH_some, List.cons_append, List.nil_append]; rw [hs2, List.map_append]
                 try rw [show rsN t (er3 l) k d n = [] from List.eq_nil_of_length_eq_zero hok, List.map_nil, List.nil_append]
                 exact h.subl (SB.s (by repeat constructor)) (SB.s (by repeat constructor)))
            | (have hs2 : rsN t (er3 l) k d (n + 1) = rsN t (er3 l) k d n := by rw [hsu, if_neg (by rw [hc]; exact Bool.false_ne_true)]
               first
               | (refine tk_round (n + 1, none) ⟨by dsimp only; omega, by dsimp only [outOk]; rw [hs2]; exact hok⟩ (by dsimp only; omega) (.cons rfl (.cons rfl (.cons rfl (.cons rfl (.cons rfl (.cons ?_ .nil)))))) (fun _ h => ?_)
                  · show some (vi _) = some (vi _); congr 2; dsimp only; omega
                  · dsimp only [slH_none, List.nil_append]; exact h.subl (SB.s (by repeat constructor)) (SB.s (by repeat constructor)))
               | (refine tk_round (n + 1, some (b0, cap, junk)) ⟨by dsimp only; omega, by dsimp only [outOk]; rw [hs2]; exact hok⟩ (by dsimp only; omega) (.cons rfl (.cons rfl (.cons rfl (.cons rfl (.cons ?_ (.cons ?_ .nil)))))) (fun _ h => ?_)
                  · dsimp only [outV']; rw [hs2]; rfl
                  · show some (vi _) = some (vi _); congr 2; dsimp only; omega
                  · dsimp only [slH_some, List.cons_append, List.nil_append]; rw [hs2]; exact h.subl (SB.s (by repeat constructor)) (SB.s (by repeat constructor)))))
         · all_goals (skip)
           all_goals refine tc_skip ?_; ((refine hK7 ?_; try (clear hK7; clear K7)))
           all_goals refine tc_region ?_; refine tl_q (y_move rfl) rfl ?_; refine tl_q (y_add rfl rfl (by omega)) rfl ?_; refine tl_q (y_assign rfl) rfl ?_; refine tl_nil ?_
           all_goals (
            first
            | (have hs2 : rsN t (er3 l) k d (n + 1) = rsN t (er3 l) k d n ++ [(n : Int) - 1] := by rw [hsu, if_pos hc]
               refine tk_round (n + 1, some (y.1, y.2.1, y.2.2)) ⟨by dsimp only; omega, ?_⟩ (by dsimp only; omega) (.cons rfl (.cons rfl (.cons rfl (.cons rfl (.cons ?_ (.cons ?_ .nil)))))) (fun _ h => ?_)
               · dsimp only [outOk]; rw [hs2, List.length_append]; simp only [List.length_cons, List.length_nil] at hy ⊢; omega
               · dsimp only [outV']; rw [hs2, List.length_append]; first | rfl | (rw [hok]; rfl)
               · show some (vi _) = some (vi _); congr 2; dsimp only; omega
               · dsimp only [slH_some, List.cons_append, List.nil_append]; rw [hs2, List.map_append]
                 try rw [show rsN t (er3 l) k d n = [] from List.eq_nil_of_length_eq_zero hok, List.map_nil, List.nil_append]
                 exact h.subl (SB.s (by repeat constructor)) (SB.s (by repeat constructor)))
            | (have hs2 : rsN t (er3 l) k d (n + 1) = rsN t (er3 l) k d n := by rw [hsu, if_neg (by rw [hc]; exact Bool.false_ne_true)]
               first
               | (refine tk_round (n + 1, none) ⟨by dsimp only; omega, by dsimp only [outOk]; rw [hs2]; exact hok⟩ (by dsimp only; omega) (.cons rfl (.cons rfl (.cons rfl (.cons rfl (.cons rfl (.cons ?_ .nil)))))) (fun _ h => ?_)
                  · show some (vi _) = some (vi _); congr 2; dsimp only; omega
                  · dsimp only [slH_none, List.nil_append]; exact h.subl (SB.s (by repeat constructor)) (SB.s (by repeat constructor)))
               | (refine tk_round (n + 1, some (b0, cap, junk)) ⟨by dsimp only; omega, by dsimp only [outOk]; rw [hs2]; exact hok⟩ (by dsimp only; omega) (.cons rfl (.cons rfl (.cons rfl (.cons rfl (.cons ?_ (.cons ?_ .nil)))))) (fun _ h => ?_)
                  · dsimp only [outV']; rw [hs2]; rfl
                  · show some (vi _) = some (vi _); congr 2; dsimp only; omega
                  · dsimp only [slH_some, List.cons_append, List.nil_append]; rw [hs2]; exact h.subl (SB.s (by repeat constructor)) (SB.s (by repeat constructor))))))
      · try simp only [decide_eq_true_eq, decide_eq_false_iff_not, Int.not_lt, Int.not_le, Bool.not_eq_true', Bool.not_eq_false', Decidable.not_not, not_true_eq_false] at hc
        all_goals refine tc_exit ?_; ((refine hK3 ?_; try (clear hK3; clear K3)))
        all_goals refine tc_seq fun K9 hK9 => ?_; (have hnl : n = (t.s.divisions + 1).toNat + 1 := by omega)
        all_goals subst hnl
        all_goals rw [rsN_all hv] at hok
        all_goals try rw [rsN_all hv]
        all_goals refine tc_region ?_; refine tl_q (y_move rfl) rfl ?_; refine tl_q (y_assign rfl) rfl ?_; refine tl_nil ?_; ((refine hK9 ?_; try (clear hK9; clear K9)))
        all_goals refine tc_ret ?_; (repeat (first | refine tk_then_ret ?_))
        all_goals (refine tk_ret rfl rfl (.cons (.tmp rfl) .nil) ?_)
        all_goals (
         refine fun w' hw' => ?_
         first
         | exact ⟨(some ⟨b0, 0, none⟩, cap), rfl, hw'.fr (by simp), RdI.own (xs := shownL t (er3 l) k d) (cap := cap) (junk := junk) hw' (b := b0) (by repeat constructor), NewS.own hw' (b := b0) (by repeat constructor) (by simp)⟩
         | (exfalso; have := shownL_pos t (er3 l) k d; omega))))
end Go.Sp
/-
  Helpers of the statements about trials: what is picked and tried, by words.
-/
namespace Go.Sp
open Go Go.Proofs
theorem rdk9_open {k : IntKind} {w : World} {v : Value} {xs : List Int} (h : Reads w v 1 xs.length (xs.map (Value.int k))) : ∃ ad cap b o, v = .slice ad xs.length cap ∧ (0 < xs.length → ad = some ⟨b, o, none⟩) ∧ ∀ w', Fr [] w w' → ∀ i, i < xs.length → w'.cell? ⟨b, o + i, none⟩ = some (.int k (xs.getD i 0)) := by
  obtain ⟨hl, ad, cap, rfl, hr⟩ := h
  by_cases hn : xs.length = 0
  · exact ⟨ad, cap, 0, 0, rfl, fun h => by omega, fun w' f i hi => by omega⟩
  · obtain ⟨b, o, rfl, hca⟩ := hr hn
    refine ⟨some ⟨b, o, none⟩, cap, b, o, rfl, fun _ => rfl, fun w' f i hi => ?_⟩
    have h1 := hca.get i (.int k (xs.getD i 0)) (by rw [List.getElem?_map, List.getElem?_eq_getElem hi, List.getD_eq_getElem?_getD, List.getElem?_eq_getElem hi]; rfl)
    exact f.cell (by simp) h1
abbrev RdW (w : World) (wv : Value) (ws : List Int) : Prop := Reads w wv 1 ws.length (ws.map (Value.int .u8))
theorem word9_c (ws : List Int) (hws : ∀ x ∈ ws, 0 ≤ x ∧ x ≤ 255) (hwl : (ws.length : Int) ≤ 9223372036854775807) (k : Nat) (hk : k ≤ 1000000) (wv : Value) (w : World) (hW : RdW w wv ws) :
    CnV Tryz.prog 45 #[wv, vi k] w (vi (wordF ws k)) := by
  obtain ⟨ad, cap, b0, o, rfl, had, hcell⟩ := rdk9_open hW
  have hbd := wordF_bd hws k
  refine cnv (vs := [_, _]) Tryz.func45 rfl rfl ?_
  all_goals refine tc_seq fun K1 hK1 => ?_; refine tc_region ?_; refine tl_q (y_assign rfl) rfl ?_; refine tl_nil ?_; ((refine hK1 ?_; try (clear hK1; clear K1)))
  all_goals refine tc_seq fun K2 hK2 => ?_; refine tc_seq fun K3 hK3 => ?_; refine tc_region ?_; refine tl_q (y_move rfl) rfl ?_; refine tl_q (y_len rfl) rfl ?_; refine tl_q (y_eql rfl rfl) rfl ?_; refine tl_nil ?_; ((refine hK3 ?_; try (clear hK3; clear K3)))
  all_goals (
   refine tc_cond rfl (fun hc => ?_) (fun hc => ?_)
   · try simp only [decide_eq_true_eq, decide_eq_false_iff_not, Int.not_lt, Int.not_le, Bool.not_eq_true', Bool.not_eq_false', Decidable.not_not, not_true_eq_false] at hc
     all_goals refine tc_seq fun K4 hK4 => ?_; refine tc_region ?_; refine tl_q (y_assign rfl) rfl ?_; refine tl_nil ?_; ((refine hK4 ?_; try (clear hK4; clear K4)))
     all_goals refine tc_ret ?_; (repeat (refine tk_then_ret ?_))
     all_goals (refine tk_ret rfl rfl (.cons (.tmp rfl) .nil) ?_)
     all_goals (
      refine fun w' hw' => ⟨?_, hw'.fr (by simp)⟩
      first
      | (rw [hwf]; rfl)
      | (rw [show wordF ws k = 0 from if_pos (by omega)]; rfl))
   · try simp only [decide_eq_true_eq, decide_eq_false_iff_not, Int.not_lt, Int.not_le, Bool.not_eq_true', Bool.not_eq_false', Decidable.not_not, not_true_eq_false] at hc
     all_goals refine tc_skip ?_; ((refine hK2 ?_; try (clear hK2; clear K2)))
     all_goals refine tc_seq fun K5 hK5 => ?_; ((have had' := had (by omega); have hkm : (k : Int) % (ws.length : Int) = ((k % ws.length : Nat) : Int) := (Int.natCast_emod k ws.length).symm; have hkl := Nat.mod_lt k (show 0 < ws.length by omega)))
     all_goals (have hwf : wordF ws k = ws.getD (k % ws.length) 0 := if_neg (by omega))
     all_goals rw [hwf] at hbd
     all_goals refine tc_region ?_; refine tl_q (y_move rfl) rfl ?_; refine tl_q (y_move rfl) rfl ?_; refine tl_q (y_move rfl) rfl ?_; refine tl_q (y_len rfl) rfl ?_; refine tl_q (y_rem rfl rfl (by omega) (by omega)) rfl ?_; refine tl_q (y_index rfl rfl (by omega) had') rfl ?_; ((refine tl_q (y_load1o (v := v8 (ws.getD (k % ws.length) 0)) rfl (fun w' hw' => by rw [hkm, Int.toNat_natCast, Nat.mul_one]; exact hcell w' (hw'.fr (by simp)) (k % ws.length) hkl)) rfl ?_))
     all_goals (refine tl_q (y_conv64 rfl (by omega)) rfl ?_); refine tl_q (y_assign rfl) rfl ?_; refine tl_nil ?_; ((refine hK5 ?_; try (clear hK5; clear K5)))
     all_goals refine tc_ret ?_; (repeat (first | refine tk_then_ret ?_))
     all_goals (refine tk_ret rfl rfl (.cons (.tmp rfl) .nil) ?_)
     all_goals (
      refine fun w' hw' => ⟨?_, hw'.fr (by simp)⟩
      first
      | (rw [hwf]; rfl)
      | (rw [show wordF ws k = 0 from if_pos (by omega)]; rfl)))
set_option maxHeartbeats 1000000 in
theorem picked_c (t : Tr) (hv : VT t) (ws : List Int) (hws : ∀ x ∈ ws, 0 ≤ x ∧ x ≤ 255) (hwl : (ws.length : Int) ≤ 9223372036854775807) (sl pl ll tl wv : Value) (w : World) (hr : RdTr w t sl pl ll tl) (hW : RdW w wv ws) :
    CnX Tryz.prog 44 #[trV t sl pl ll tl, wv] w [] (fun y : (Option Addr × Nat) × (Option Addr × Nat) => .agg #[slV t.parts.length y.1, slV t.liquids.length y.2]) (fun y w' => (RdI w' (slV t.parts.length y.1) (pE t ws) ∧ RdI w' (slV t.liquids.length y.2) (pD t ws)) ∧ NewS w (slV t.parts.length y.1) ∧ NewS w (slV t.liquids.length y.2)) := by
  have hr0 := hr
  have hp1 := hv.p1
  have hp3 := hv.p3
  have hl1 := hv.l1
  have hl3 := hv.l3
  have hwo := hv.w
  obtain ⟨aw, cw, _, _, rfl, _, _⟩ := hr.ws.open
  obtain ⟨ap, cp, _, _, rfl, _, _⟩ := hr.ps.open
  obtain ⟨aL, cL, bL, oL, rfl, hadL, hcL⟩ := hr.ls.open
  obtain ⟨at', ct, _, _, rfl, _, _⟩ := hr.ts.open
  obtain ⟨adw, cpw, bw0, ow, rfl, _, _⟩ := rdk9_open hW
  have hadL' := hadL (by omega)
  have hWr : ∀ w', Fr [] w w' → RdW w' (.slice adw ws.length cpw) ws := fun w' f => Reads.frS hW f (by simp)
  refine cnx0 (vs := [_, _]) Tryz.func44 rfl rfl ?_
  all_goals refine tc_seq fun K1 hK1 => ?_; refine tc_region ?_; refine tl_e (e_box rfl rfl rfl) rfl (fun b2 _ => ?_); refine tl_e (e_allocN rfl) rfl (fun b4 _ => ?_); refine tl_nil ?_; ((refine hK1 ?_; try (clear hK1; clear K1)))
  all_goals refine tc_seq fun K2 hK2 => ?_; refine tc_region ?_; refine tl_e (e_allocN rfl) rfl (fun b5 _ => ?_); refine tl_nil ?_; ((refine hK2 ?_; try (clear hK2; clear K2)))
  all_goals refine tc_seq fun K3 hK3 => ?_; refine tc_seq fun K4 hK4 => ?_; refine tc_region ?_; refine tl_q (y_assign rfl) rfl ?_; refine tl_nil ?_; ((refine hK4 ?_; try (clear hK4; clear K4)))
  all_goals refine tc_block ?_
  all_goals (
   refine tc_loop (fun p : Nat × Option (Nat × Nat × List Value) => p.1 ≤ t.parts.length ∧ outOk (p.1, p.2)) (fun p => [(1, .slice adw ws.length cpw), (2, ptr b2), (4, ptr b4), (5, ptr b5), (6, vi p.1)]) (fun _ => [(w, [])]) (fun p => slH 3 ((pkE t ws p.1).map vi) p.2 ++ [(b5, .cells #[outV' (p.1, p.2), .slice none 0 0] 92 (0, 0)), (b4, .cells #[.slice none 0 0, .slice none 0 0] 92 (0, 0)), (b2, .cells (trV t (.slice aw t.s.weights.length cw) (.slice ap t.parts.length cp) (.slice aL t.liquids.length cL) (.slice at' t.tests.length ct)).cells 28 (0, 0))]) (fun p => t.parts.length - p.1) ?_ ?_
   · exact tk_start (0, none) ⟨Nat.zero_le _, rfl⟩ (.cons rfl (.cons rfl (.cons rfl (.cons rfl (.cons rfl .nil))))) (fun _ h => h.subl (SB.s (by repeat constructor)) (SB.s (by repeat constructor)))
   · rintro ⟨n, oo⟩ ⟨hn, hok⟩
     have hwb := wordF_bd hws n
     have hm1 := Int.emod_nonneg (wordF ws n) (show 2 * t.worst + 1 ≠ 0 by omega)
     have hm2 := Int.emod_lt_of_pos (wordF ws n) (show 0 < 2 * t.worst + 1 by omega)
     rcases oo with _ | ⟨bo, cap, junk⟩
     all_goals ((dsimp only [outOk] at hn hok ⊢; dsimp only [slH_none, slH_some, List.cons_append, List.nil_append, outV']))
     all_goals refine tc_seq fun K5 hK5 => ?_; refine tc_seq fun K6 hK6 => ?_; refine tc_region ?_; refine tl_q (y_move rfl) rfl ?_; refine tl_q (y_field rfl) rfl ?_; refine tl_q (y_load1 rfl (by repeat constructor) (by rfl)) rfl ?_; refine tl_q (y_len rfl) rfl ?_; refine tl_q (y_lss rfl rfl) rfl ?_; refine tl_nil ?_; ((refine hK6 ?_; try (clear hK6; clear K6)))
     all_goals (
      refine tc_cond rfl (fun hc => ?_) (fun hc => ?_)
      · try simp only [decide_eq_true_eq, decide_eq_false_iff_not, Int.not_lt, Int.not_le, Bool.not_eq_true', Bool.not_eq_false', Decidable.not_not, not_true_eq_false] at hc
        all_goals refine tc_skip ?_; ((refine hK5 ?_; try (clear hK5; clear K5)))
        all_goals refine tc_seq fun K7 hK7 => ?_; refine tc_block ?_; refine tc_drawS ([(b2, .cells (trV t (.slice aw t.s.weights.length cw) (.slice ap t.parts.length cp) (.slice aL t.liquids.length cL) (.slice at' t.tests.length ct)).cells 28 (0, 0))]) (by kernel_rfl) ?_; refine tx_p 0 rfl (by kernel_rfl) (y_field rfl) rfl (fun _ _ _ h => h) (fun _ h => h.subl (SB.s (by repeat constructor)) (SB.s (by repeat constructor))) ?_; refine tx_p 2 rfl (by kernel_rfl) (y_move rfl) rfl (fun _ _ _ h => h) (fun _ h => h.subl (SB.s (by repeat constructor)) (SB.s (by repeat constructor))) ?_; refine tx_p 3 rfl (by kernel_rfl) (y_move rfl) rfl (fun _ _ _ h => h) (fun _ h => h.subl (SB.s (by repeat constructor)) (SB.s (by repeat constructor))) ?_; refine tx_p 5 rfl (by kernel_rfl) (y_field rfl) rfl (fun _ _ _ h => h) (fun _ h => h.subl (SB.s (by repeat constructor)) (SB.s (by repeat constructor))) ?_; refine tx_qS 6 rfl (by kernel_rfl) (y_load1 rfl (by repeat constructor) (by rfl)) rfl (fun _ _ _ h => h) (fun _ h => h.subl (SB.s (by repeat constructor)) (SB.s (by repeat constructor))) ?_; refine tx_p 7 rfl (by kernel_rfl) (y_mul rfl rfl (by omega)) rfl (fun _ _ _ h => h) (fun _ h => h.subl (SB.s (by repeat constructor)) (SB.s (by repeat constructor))) ?_; refine tx_p 8 rfl (by kernel_rfl) (y_add rfl rfl (by omega)) rfl (fun _ _ _ h => h) (fun _ h => h.subl (SB.s (by repeat constructor)) (SB.s (by repeat constructor))) ?_; refine tx_p 10 rfl (by kernel_rfl) (y_field rfl) rfl (fun _ _ _ h => h) (fun _ h => h.subl (SB.s (by repeat constructor)) (SB.s (by repeat constructor))) ?_; refine tx_qS 11 rfl (by kernel_rfl) (y_load1 rfl (by repeat constructor) (by rfl)) rfl (fun _ _ _ h => h) (fun _ h => h.subl (SB.s (by repeat constructor)) (SB.s (by repeat constructor))) ?_
        all_goals (
         refine tx_pair 1 4 (by kernel_rfl) ?_ ?_
         rotate_left
         focus (
          (refine to_e rfl rfl (e_callV rfl (.cons rfl (.cons rfl .nil)) (fun w' hw' => word9_c ws hws hwl n (by omega) _ w' (hWr w' (hw'.fr (w0 := w) (S := []) (MI.m (by repeat constructor)))))) (.inr ⟨fun _ _ h => h.subl (SB.s (by repeat constructor)) (SB.s (by repeat constructor)), fun _ h => h⟩) (fun _ _ => ?_))
          all_goals refine tx_p 9 rfl (by kernel_rfl) (y_rem rfl rfl (by omega) (by omega)) rfl (fun _ _ _ h => h) (fun _ h => h.subl (SB.s (by repeat constructor)) (SB.s (by repeat constructor))) ?_; refine tx_p 12 rfl (by kernel_rfl) (y_sub rfl rfl (by omega)) rfl (fun _ _ _ h => h) (fun _ h => h.subl (SB.s (by repeat constructor)) (SB.s (by repeat constructor))) ?_
          all_goals (
           refine tx_pair 1 13 (by kernel_rfl) ?_ ?_
           rotate_left
           focus (
            (refine to_e rfl rfl (e_bslice rfl (by (repeat (first | exact .nil | apply PV.one rfl rfl)); done) rfl rfl) (.inr ⟨fun _ _ h => h.subl (SB.s (by repeat constructor)) (SB.s (by repeat constructor)), fun _ h => h⟩) (fun _ _ => ?_))
            all_goals (refine tx_single 1 (by kernel_rfl) (to_e rfl rfl (e_y rfl (y_load1 rfl (by repeat constructor) (by rfl))) (.inr ⟨fun _ _ h => h.subl (SB.s (by repeat constructor)) (SB.s (by repeat constructor)), fun _ h => h⟩) (fun _ _ => ?_))); ((first | refine tx_single 14 (by kernel_rfl) (to_e rfl rfl (e_append_own (old := (pkE t ws n).map vi) (junk := junk) rfl rfl rfl (by repeat constructor) (by rw [List.length_map, pkE_len]; omega) (by omega) hok.1 (fun w' hw' => RdI.own0 (xs := [wordF ws n % (2 * t.worst + 1) - t.worst]) hw' (by repeat constructor)) (fun u hu => by obtain ⟨_, _, rfl⟩ := List.mem_map.1 hu; rfl) (by simp only [List.length_cons, List.length_nil]; omega) rfl) (.inr ⟨fun _ _ h => h.subl (SB.s (by repeat constructor)) (SB.s (by repeat constructor)), fun _ h => h⟩) (fun y hy => ?_)) | refine tx_single 14 (by kernel_rfl) (to_e rfl rfl (e_append_nil rfl rfl rfl (fun w' hw' => RdI.own0 (xs := [wordF ws n % (2 * t.worst + 1) - t.worst]) hw' (by repeat constructor)) (fun u hu => by obtain ⟨_, _, rfl⟩ := List.mem_map.1 hu; rfl) Nat.zero_lt_one (Nat.le_of_ble_eq_true rfl) rfl) (.inr ⟨fun _ _ h => h.subl (SB.s (by repeat constructor)) (SB.s (by repeat constructor)), fun _ h => h⟩) (fun y hy => ?_))))
            all_goals refine tx_p 15 rfl (by kernel_rfl) (y_field rfl) rfl (fun _ _ _ h => h) (fun _ h => h.subl (SB.s (by repeat constructor)) (SB.s (by repeat constructor))) ?_; refine tx_single 16 (by kernel_rfl) (to_e (S' := HG [] []) rfl rfl (e_store1 rfl rfl (by repeat constructor) (by repeat constructor) (by rfl) (by rfl)) (.inl (by kernel_rfl)) (fun _ _ => ?_))
            all_goals refine tx_done (by kernel_rfl) ?_)
           rotate_right
           focus (
            (refine to_e rfl rfl (e_y rfl (y_load1 rfl (by repeat constructor) (by rfl))) (.inr ⟨fun _ _ h => h.subl (SB.s (by repeat constructor)) (SB.s (by repeat constructor)), fun _ h => h⟩) (fun _ _ => ?_))
            all_goals (refine tx_single 13 (by kernel_rfl) (to_e rfl rfl (e_bslice rfl (by (repeat (first | exact .nil | apply PV.one rfl rfl)); done) rfl rfl) (.inr ⟨fun _ _ h => h.subl (SB.s (by repeat constructor)) (SB.s (by repeat constructor)), fun _ h => h⟩) (fun _ _ => ?_)))
            all_goals ((first | refine tx_single 14 (by kernel_rfl) (to_e rfl rfl (e_append_own (old := (pkE t ws n).map vi) (junk := junk) rfl rfl rfl (by repeat constructor) (by rw [List.length_map, pkE_len]; omega) (by omega) hok.1 (fun w' hw' => RdI.own0 (xs := [wordF ws n % (2 * t.worst + 1) - t.worst]) hw' (by repeat constructor)) (fun u hu => by obtain ⟨_, _, rfl⟩ := List.mem_map.1 hu; rfl) (by simp only [List.length_cons, List.length_nil]; omega) rfl) (.inr ⟨fun _ _ h => h.subl (SB.s (by repeat constructor)) (SB.s (by repeat constructor)), fun _ h => h⟩) (fun y hy => ?_)) | refine tx_single 14 (by kernel_rfl) (to_e rfl rfl (e_append_nil rfl rfl rfl (fun w' hw' => RdI.own0 (xs := [wordF ws n % (2 * t.worst + 1) - t.worst]) hw' (by repeat constructor)) (fun u hu => by obtain ⟨_, _, rfl⟩ := List.mem_map.1 hu; rfl) Nat.zero_lt_one (Nat.le_of_ble_eq_true rfl) rfl) (.inr ⟨fun _ _ h => h.subl (SB.s (by repeat constructor)) (SB.s (by repeat constructor)), fun _ h => h⟩) (fun y hy => ?_))))
            all_goals refine tx_p 15 rfl (by kernel_rfl) (y_field rfl) rfl (fun _ _ _ h => h) (fun _ h => h.subl (SB.s (by repeat constructor)) (SB.s (by repeat constructor))) ?_; refine tx_single 16 (by kernel_rfl) (to_e (S' := HG [] []) rfl rfl (e_store1 rfl rfl (by repeat constructor) (by repeat constructor) (by rfl) (by rfl)) (.inl (by kernel_rfl)) (fun _ _ => ?_))
            all_goals refine tx_done (by kernel_rfl) ?_)))
         rotate_right
         focus (
          (refine to_e rfl rfl (e_y rfl (y_load1 rfl (by repeat constructor) (by rfl))) (.inr ⟨fun _ _ h => h.subl (SB.s (by repeat constructor)) (SB.s (by repeat constructor)), fun _ h => h⟩) (fun _ _ => ?_))
          all_goals (refine tx_single 4 (by kernel_rfl) (to_e rfl rfl (e_callV rfl (.cons rfl (.cons rfl .nil)) (fun w' hw' => word9_c ws hws hwl n (by omega) _ w' (hWr w' (hw'.fr (w0 := w) (S := []) (MI.m (by repeat constructor)))))) (.inr ⟨fun _ _ h => h.subl (SB.s (by repeat constructor)) (SB.s (by repeat constructor)), fun _ h => h⟩) (fun _ _ => ?_))); refine tx_p 9 rfl (by kernel_rfl) (y_rem rfl rfl (by omega) (by omega)) rfl (fun _ _ _ h => h) (fun _ h => h.subl (SB.s (by repeat constructor)) (SB.s (by repeat constructor))) ?_; refine tx_p 12 rfl (by kernel_rfl) (y_sub rfl rfl (by omega)) rfl (fun _ _ _ h => h) (fun _ h => h.subl (SB.s (by repeat constructor)) (SB.s (by repeat constructor))) ?_; (refine tx_single 13 (by kernel_rfl) (to_e rfl rfl (e_bslice rfl (by (repeat (first | exact .nil | apply PV.one rfl rfl)); done) rfl rfl) (.inr ⟨fun _ _ h => h.subl (SB.s (by repeat constructor)) (SB.s (by repeat constructor)), fun _ h => h⟩) (fun _ _ => ?_)))
          all_goals ((first | refine tx_single 14 (by kernel_rfl) (to_e rfl rfl (e_append_own (old := (pkE t ws n).map vi) (junk := junk) rfl rfl rfl (by repeat constructor) (by rw [List.length_map, pkE_len]; omega) (by omega) hok.1 (fun w' hw' => RdI.own0 (xs := [wordF ws n % (2 * t.worst + 1) - t.worst]) hw' (by repeat constructor)) (fun u hu => by obtain ⟨_, _, rfl⟩ := List.mem_map.1 hu; rfl) (by simp only [List.length_cons, List.length_nil]; omega) rfl) (.inr ⟨fun _ _ h => h.subl (SB.s (by repeat constructor)) (SB.s (by repeat constructor)), fun _ h => h⟩) (fun y hy => ?_)) | refine tx_single 14 (by kernel_rfl) (to_e rfl rfl (e_append_nil rfl rfl rfl (fun w' hw' => RdI.own0 (xs := [wordF ws n % (2 * t.worst + 1) - t.worst]) hw' (by repeat constructor)) (fun u hu => by obtain ⟨_, _, rfl⟩ := List.mem_map.1 hu; rfl) Nat.zero_lt_one (Nat.le_of_ble_eq_true rfl) rfl) (.inr ⟨fun _ _ h => h.subl (SB.s (by repeat constructor)) (SB.s (by repeat constructor)), fun _ h => h⟩) (fun y hy => ?_))))
          all_goals refine tx_p 15 rfl (by kernel_rfl) (y_field rfl) rfl (fun _ _ _ h => h) (fun _ h => h.subl (SB.s (by repeat constructor)) (SB.s (by repeat constructor))) ?_; refine tx_single 16 (by kernel_rfl) (to_e (S' := HG [] []) rfl rfl (e_store1 rfl rfl (by repeat constructor) (by repeat constructor) (by rfl) (by rfl)) (.inl (by kernel_rfl)) (fun _ _ => ?_))
          all_goals refine tx_done (by kernel_rfl) ?_))
        all_goals ((refine hK7 ?_; try (clear hK7; clear K7)))
        all_goals refine tc_region ?_; refine tl_q (y_move rfl) rfl ?_; refine tl_q (y_add rfl rfl (by omega)) rfl ?_; refine tl_q (y_assign rfl) rfl ?_; refine tl_nil ?_
        all_goals (
         have hs2 := pkE_succ t ws n
         refine tk_round (n + 1, some (y.1, y.2.1, y.2.2)) ⟨by dsimp only; omega, ?_⟩ (by dsimp only; omega) (.cons rfl (.cons rfl (.cons rfl (.cons rfl (.cons rfl .nil))))) (fun _ h => ?_)
         · dsimp only [outOk]; simp only [List.length_cons, List.length_nil] at hy ⊢; omega
         · dsimp only [slH_some, List.cons_append, List.nil_append, outV']; rw [hs2, List.map_append]
           try rw [show pkE t ws n = [] from List.eq_nil_of_length_eq_zero (by rw [pkE_len]; exact hok), List.map_nil, List.nil_append]
           try rw [show n = 0 from hok] at h ⊢
           exact h.subl (SB.s (by repeat constructor)) (SB.s (by repeat constructor)))
      · try simp only [decide_eq_true_eq, decide_eq_false_iff_not, Int.not_lt, Int.not_le, Bool.not_eq_true', Bool.not_eq_false', Decidable.not_not, not_true_eq_false] at hc
        all_goals ((first | (exfalso; omega) | skip))
        all_goals refine tc_exit ?_; ((refine hK3 ?_; try (clear hK3; clear K3)))
        all_goals refine tc_seq fun K8 hK8 => ?_; refine tc_seq fun K9 hK9 => ?_; (have hnl : n = t.parts.length := by omega)
        all_goals subst hnl
        all_goals refine tc_region ?_; refine tl_q (y_assign rfl) rfl ?_; refine tl_nil ?_; ((refine hK9 ?_; try (clear hK9; clear K9)))
        all_goals refine tc_block ?_
        all_goals (
         refine tc_loop (fun p : Nat × Option (Nat × Nat × List Value) => p.1 ≤ t.liquids.length ∧ outOk (p.1, p.2)) (fun p => [(1, .slice adw ws.length cpw), (2, ptr b2), (4, ptr b4), (5, ptr b5), (7, vi p.1)]) (fun _ => [(w, [])]) (fun p => slH 3 ((pkD t ws p.1).map vi) p.2 ++ [(bo, .cells ((pkE t ws t.parts.length).map vi ++ junk).toArray 3 (0, 0)), (b5, .cells #[.slice (some ⟨bo, 0, none⟩) t.parts.length cap, outV' (p.1, p.2)] 92 (0, 0)), (b4, .cells #[.slice none 0 0, .slice none 0 0] 92 (0, 0)), (b2, .cells (trV t (.slice aw t.s.weights.length cw) (.slice ap t.parts.length cp) (.slice aL t.liquids.length cL) (.slice at' t.tests.length ct)).cells 28 (0, 0))]) (fun p => t.liquids.length - p.1) ?_ ?_
         · exact tk_start (0, none) ⟨Nat.zero_le _, rfl⟩ (.cons rfl (.cons rfl (.cons rfl (.cons rfl (.cons rfl .nil))))) (fun _ h => h.subl (SB.s (by repeat constructor)) (SB.s (by repeat constructor)))
         · rintro ⟨j, oo2⟩ ⟨hj, hok2⟩
           have hwb2 := wordF_bd hws (j + 3)
           rcases oo2 with _ | ⟨bo2, cap2, junk2⟩
           all_goals ((dsimp only [outOk] at hj hok2 ⊢; dsimp only [slH_none, slH_some, List.cons_append, List.nil_append, outV']))
           all_goals refine tc_seq fun K10 hK10 => ?_; refine tc_seq fun K11 hK11 => ?_; refine tc_region ?_; refine tl_q (y_move rfl) rfl ?_; refine tl_q (y_field rfl) rfl ?_; refine tl_q (y_load1 rfl (by repeat constructor) (by rfl)) rfl ?_; refine tl_q (y_len rfl) rfl ?_; refine tl_q (y_lss rfl rfl) rfl ?_; refine tl_nil ?_; ((refine hK11 ?_; try (clear hK11; clear K11)))
           all_goals (
            refine tc_cond rfl (fun hc => ?_) (fun hc => ?_)
            · try simp only [decide_eq_true_eq, decide_eq_false_iff_not, Int.not_lt, Int.not_le, Bool.not_eq_true', Bool.not_eq_false', Decidable.not_not, not_true_eq_false] at hc
              all_goals refine tc_skip ?_; ((refine hK10 ?_; try (clear hK10; clear K10)))
              all_goals refine tc_seq fun K12 hK12 => ?_; refine tc_block ?_; refine tc_seq fun K13 hK13 => ?_; (have hlq := hv.lqb (show j < t.liquids.length by omega))
              all_goals (have hm3 := Int.emod_nonneg (wordF ws (j + 3)) (show (lqAt t j).2 - (lqAt t j).1 + 1 ≠ 0 by omega))
              all_goals (have hm4 := Int.emod_lt_of_pos (wordF ws (j + 3)) (show 0 < (lqAt t j).2 - (lqAt t j).1 + 1 by omega))
              all_goals refine tc_region ?_; refine tl_q (y_field rfl) rfl ?_; refine tl_q (y_load1 rfl (by repeat constructor) (by rfl)) rfl ?_; refine tl_q (y_move rfl) rfl ?_; refine tl_q (y_index rfl rfl (by omega) hadL') rfl ?_; ((refine tl_q (y_loadNo (n := 2) (vs := [vi (lqAt t j).1, vi (lqAt t j).2]) rfl (fun w' hw' => by rw [show Int.toNat (j : Int) * 2 = j * 2 from by omega]; exact hcL w' [] (hw'.fr (w0 := w) (S := []) (MI.m (by repeat constructor))) (by simp) j (by omega))) rfl ?_))
              all_goals refine tl_e (e_allocN rfl) rfl (fun b8 _ => ?_); refine tl_e (e_storeW rfl rfl (by repeat constructor) (by rfl) (by rfl) (by simp [Value.oneCell'])) rfl (fun _ _ => ?_); refine tl_nil ?_; ((refine hK13 ?_; try (clear hK13; clear K13)))
              all_goals refine tc_drawS ([(b8, .cells #[vi (lqAt t j).1, vi (lqAt t j).2] 57 (0, 0))]) (by kernel_rfl) ?_; refine tx_p 0 rfl (by kernel_rfl) (y_field rfl) rfl (fun _ _ _ h => h) (fun _ h => h.subl (SB.s (by repeat constructor)) (SB.s (by repeat constructor))) ?_; refine tx_p 2 rfl (by kernel_rfl) (y_field rfl) rfl (fun _ _ _ h => h) (fun _ h => h.subl (SB.s (by repeat constructor)) (SB.s (by repeat constructor))) ?_; refine tx_qS 3 rfl (by kernel_rfl) (y_load1 rfl (by repeat constructor) (by rfl)) rfl (fun _ _ _ h => h) (fun _ h => h.subl (SB.s (by repeat constructor)) (SB.s (by repeat constructor))) ?_; refine tx_p 4 rfl (by kernel_rfl) (y_move rfl) rfl (fun _ _ _ h => h) (fun _ h => h.subl (SB.s (by repeat constructor)) (SB.s (by repeat constructor))) ?_; refine tx_p 5 rfl (by kernel_rfl) (y_move rfl) rfl (fun _ _ _ h => h) (fun _ h => h.subl (SB.s (by repeat constructor)) (SB.s (by repeat constructor))) ?_; refine tx_p 6 rfl (by kernel_rfl) (y_add rfl rfl (by omega)) rfl (fun _ _ _ h => h) (fun _ h => h.subl (SB.s (by repeat constructor)) (SB.s (by repeat constructor))) ?_; refine tx_p 8 rfl (by kernel_rfl) (y_field rfl) rfl (fun _ _ _ h => h) (fun _ h => h.subl (SB.s (by repeat constructor)) (SB.s (by repeat constructor))) ?_; refine tx_qS 9 rfl (by kernel_rfl) (y_load1 rfl (by repeat constructor) (by rfl)) rfl (fun _ _ _ h => h) (fun _ h => h.subl (SB.s (by repeat constructor)) (SB.s (by repeat constructor))) ?_; refine tx_p 10 rfl (by kernel_rfl) (y_field rfl) rfl (fun _ _ _ h => h) (fun _ h => h.subl (SB.s (by repeat constructor)) (SB.s (by repeat constructor))) ?_; refine tx_qS 11 rfl (by kernel_rfl) (y_load1 rfl (by repeat constructor) (by rfl)) rfl (fun _ _ _ h => h) (fun _ h => h.subl (SB.s (by repeat constructor)) (SB.s (by repeat constructor))) ?_; refine tx_p 12 rfl (by kernel_rfl) (y_sub rfl rfl (by omega)) rfl (fun _ _ _ h => h) (fun _ h => h.subl (SB.s (by repeat constructor)) (SB.s (by repeat constructor))) ?_; refine tx_p 13 rfl (by kernel_rfl) (y_add rfl rfl (by omega)) rfl (fun _ _ _ h => h) (fun _ h => h.subl (SB.s (by repeat constructor)) (SB.s (by repeat constructor))) ?_
              all_goals (
               refine tx_pair 1 7 (by kernel_rfl) ?_ ?_
               rotate_left
               focus (
                (refine to_e rfl rfl (e_callV rfl (.cons rfl (.cons rfl .nil)) (fun w' hw' => word9_c ws hws hwl (j + 3) (by omega) _ w' (hWr w' (hw'.fr (w0 := w) (S := []) (MI.m (by repeat constructor)))))) (.inr ⟨fun _ _ h => h.subl (SB.s (by repeat constructor)) (SB.s (by repeat constructor)), fun _ h => h⟩) (fun _ _ => ?_))
                all_goals refine tx_p 14 rfl (by kernel_rfl) (y_rem rfl rfl (by omega) (by omega)) rfl (fun _ _ _ h => h) (fun _ h => h.subl (SB.s (by repeat constructor)) (SB.s (by repeat constructor))) ?_; refine tx_p 15 rfl (by kernel_rfl) (y_add rfl rfl (by omega)) rfl (fun _ _ _ h => h) (fun _ h => h.subl (SB.s (by repeat constructor)) (SB.s (by repeat constructor))) ?_
                all_goals (
                 refine tx_pair 1 16 (by kernel_rfl) ?_ ?_
                 rotate_left
                 focus (
                  (refine to_e rfl rfl (e_bslice rfl (by (repeat (first | exact .nil | apply PV.one rfl rfl)); done) rfl rfl) (.inr ⟨fun _ _ h => h.subl (SB.s (by repeat constructor)) (SB.s (by repeat constructor)), fun _ h => h⟩) (fun _ _ => ?_))
                  all_goals (refine tx_single 1 (by kernel_rfl) (to_e rfl rfl (e_y rfl (y_load1 rfl (by repeat constructor) (by rfl))) (.inr ⟨fun _ _ h => h.subl (SB.s (by repeat constructor)) (SB.s (by repeat constructor)), fun _ h => h⟩) (fun _ _ => ?_))); ((first | refine tx_single 17 (by kernel_rfl) (to_e rfl rfl (e_append_own (old := (pkD t ws j).map vi) (junk := junk2) rfl rfl rfl (by repeat constructor) (by rw [List.length_map, pkD_len]; omega) (by omega) hok2.1 (fun w' hw' => RdI.own0 (xs := [(lqAt t j).1 + wordF ws (j + 3) % ((lqAt t j).2 - (lqAt t j).1 + 1)]) hw' (by repeat constructor)) (fun u hu => by obtain ⟨_, _, rfl⟩ := List.mem_map.1 hu; rfl) (by simp only [List.length_cons, List.length_nil]; omega) rfl) (.inr ⟨fun _ _ h => h.subl (SB.s (by repeat constructor)) (SB.s (by repeat constructor)), fun _ h => h⟩) (fun u hu => ?_)) | refine tx_single 17 (by kernel_rfl) (to_e rfl rfl (e_append_nil rfl rfl rfl (fun w' hw' => RdI.own0 (xs := [(lqAt t j).1 + wordF ws (j + 3) % ((lqAt t j).2 - (lqAt t j).1 + 1)]) hw' (by repeat constructor)) (fun u hu => by obtain ⟨_, _, rfl⟩ := List.mem_map.1 hu; rfl) Nat.zero_lt_one (Nat.le_of_ble_eq_true rfl) rfl) (.inr ⟨fun _ _ h => h.subl (SB.s (by repeat constructor)) (SB.s (by repeat constructor)), fun _ h => h⟩) (fun u hu => ?_))))
                  all_goals refine tx_p 18 rfl (by kernel_rfl) (y_field rfl) rfl (fun _ _ _ h => h) (fun _ h => h.subl (SB.s (by repeat constructor)) (SB.s (by repeat constructor))) ?_; refine tx_single 19 (by kernel_rfl) (to_e (S' := HG [] []) rfl rfl (e_store1 rfl rfl (by repeat constructor) (by repeat constructor) (by rfl) (by rfl)) (.inl (by kernel_rfl)) (fun _ _ => ?_))
                  all_goals refine tx_done (by kernel_rfl) ?_)
                 rotate_right
                 focus (
                  (refine to_e rfl rfl (e_y rfl (y_load1 rfl (by repeat constructor) (by rfl))) (.inr ⟨fun _ _ h => h.subl (SB.s (by repeat constructor)) (SB.s (by repeat constructor)), fun _ h => h⟩) (fun _ _ => ?_))
                  all_goals (refine tx_single 16 (by kernel_rfl) (to_e rfl rfl (e_bslice rfl (by (repeat (first | exact .nil | apply PV.one rfl rfl)); done) rfl rfl) (.inr ⟨fun _ _ h => h.subl (SB.s (by repeat constructor)) (SB.s (by repeat constructor)), fun _ h => h⟩) (fun _ _ => ?_)))
                  all_goals ((first | refine tx_single 17 (by kernel_rfl) (to_e rfl rfl (e_append_own (old := (pkD t ws j).map vi) (junk := junk2) rfl rfl rfl (by repeat constructor) (by rw [List.length_map, pkD_len]; omega) (by omega) hok2.1 (fun w' hw' => RdI.own0 (xs := [(lqAt t j).1 + wordF ws (j + 3) % ((lqAt t j).2 - (lqAt t j).1 + 1)]) hw' (by repeat constructor)) (fun u hu => by obtain ⟨_, _, rfl⟩ := List.mem_map.1 hu; rfl) (by simp only [List.length_cons, List.length_nil]; omega) rfl) (.inr ⟨fun _ _ h => h.subl (SB.s (by repeat constructor)) (SB.s (by repeat constructor)), fun _ h => h⟩) (fun u hu => ?_)) | refine tx_single 17 (by kernel_rfl) (to_e rfl rfl (e_append_nil rfl rfl rfl (fun w' hw' => RdI.own0 (xs := [(lqAt t j).1 + wordF ws (j + 3) % ((lqAt t j).2 - (lqAt t j).1 + 1)]) hw' (by repeat constructor)) (fun u hu => by obtain ⟨_, _, rfl⟩ := List.mem_map.1 hu; rfl) Nat.zero_lt_one (Nat.le_of_ble_eq_true rfl) rfl) (.inr ⟨fun _ _ h => h.subl (SB.s (by repeat constructor)) (SB.s (by repeat constructor)), fun _ h => h⟩) (fun u hu => ?_))))
                  all_goals refine tx_p 18 rfl (by kernel_rfl) (y_field rfl) rfl (fun _ _ _ h => h) (fun _ h => h.subl (SB.s (by repeat constructor)) (SB.s (by repeat constructor))) ?_; refine tx_single 19 (by kernel_rfl) (to_e (S' := HG [] []) rfl rfl (e_store1 rfl rfl (by repeat constructor) (by repeat constructor) (by rfl) (by rfl)) (.inl (by kernel_rfl)) (fun _ _ => ?_))
                  all_goals refine tx_done (by kernel_rfl) ?_)))
               rotate_right
               focus (
                (refine to_e rfl rfl (e_y rfl (y_load1 rfl (by repeat constructor) (by rfl))) (.inr ⟨fun _ _ h => h.subl (SB.s (by repeat constructor)) (SB.s (by repeat constructor)), fun _ h => h⟩) (fun _ _ => ?_))
                all_goals (refine tx_single 7 (by kernel_rfl) (to_e rfl rfl (e_callV rfl (.cons rfl (.cons rfl .nil)) (fun w' hw' => word9_c ws hws hwl (j + 3) (by omega) _ w' (hWr w' (hw'.fr (w0 := w) (S := []) (MI.m (by repeat constructor)))))) (.inr ⟨fun _ _ h => h.subl (SB.s (by repeat constructor)) (SB.s (by repeat constructor)), fun _ h => h⟩) (fun _ _ => ?_))); refine tx_p 14 rfl (by kernel_rfl) (y_rem rfl rfl (by omega) (by omega)) rfl (fun _ _ _ h => h) (fun _ h => h.subl (SB.s (by repeat constructor)) (SB.s (by repeat constructor))) ?_; refine tx_p 15 rfl (by kernel_rfl) (y_add rfl rfl (by omega)) rfl (fun _ _ _ h => h) (fun _ h => h.subl (SB.s (by repeat constructor)) (SB.s (by repeat constructor))) ?_; (refine tx_single 16 (by kernel_rfl) (to_e rfl rfl (e_bslice rfl (by (repeat (first | exact .nil | apply PV.one rfl rfl)); done) rfl rfl) (.inr ⟨fun _ _ h => h.subl (SB.s (by repeat constructor)) (SB.s (by repeat constructor)), fun _ h => h⟩) (fun _ _ => ?_)))
                all_goals ((first | refine tx_single 17 (by kernel_rfl) (to_e rfl rfl (e_append_own (old := (pkD t ws j).map vi) (junk := junk2) rfl rfl rfl (by repeat constructor) (by rw [List.length_map, pkD_len]; omega) (by omega) hok2.1 (fun w' hw' => RdI.own0 (xs := [(lqAt t j).1 + wordF ws (j + 3) % ((lqAt t j).2 - (lqAt t j).1 + 1)]) hw' (by repeat constructor)) (fun u hu => by obtain ⟨_, _, rfl⟩ := List.mem_map.1 hu; rfl) (by simp only [List.length_cons, List.length_nil]; omega) rfl) (.inr ⟨fun _ _ h => h.subl (SB.s (by repeat constructor)) (SB.s (by repeat constructor)), fun _ h => h⟩) (fun u hu => ?_)) | refine tx_single 17 (by kernel_rfl) (to_e rfl rfl (e_append_nil rfl rfl rfl (fun w' hw' => RdI.own0 (xs := [(lqAt t j).1 + wordF ws (j + 3) % ((lqAt t j).2 - (lqAt t j).1 + 1)]) hw' (by repeat constructor)) (fun u hu => by obtain ⟨_, _, rfl⟩ := List.mem_map.1 hu; rfl) Nat.zero_lt_one (Nat.le_of_ble_eq_true rfl) rfl) (.inr ⟨fun _ _ h => h.subl (SB.s (by repeat constructor)) (SB.s (by repeat constructor)), fun _ h => h⟩) (fun u hu => ?_))))
                all_goals refine tx_p 18 rfl (by kernel_rfl) (y_field rfl) rfl (fun _ _ _ h => h) (fun _ h => h.subl (SB.s (by repeat constructor)) (SB.s (by repeat constructor))) ?_; refine tx_single 19 (by kernel_rfl) (to_e (S' := HG [] []) rfl rfl (e_store1 rfl rfl (by repeat constructor) (by repeat constructor) (by rfl) (by rfl)) (.inl (by kernel_rfl)) (fun _ _ => ?_))
                all_goals refine tx_done (by kernel_rfl) ?_))
              all_goals ((refine hK12 ?_; try (clear hK12; clear K12)))
              all_goals refine tc_region ?_; refine tl_q (y_move rfl) rfl ?_; refine tl_q (y_add rfl rfl (by omega)) rfl ?_; refine tl_q (y_assign rfl) rfl ?_; refine tl_nil ?_
              all_goals (
               have hs2 := pkD_succ t ws j
               refine tk_round (j + 1, some (u.1, u.2.1, u.2.2)) ⟨by dsimp only; omega, ?_⟩ (by dsimp only; omega) (.cons rfl (.cons rfl (.cons rfl (.cons rfl (.cons rfl .nil))))) (fun _ h => ?_)
               · dsimp only [outOk]; simp only [List.length_cons, List.length_nil] at hu ⊢; omega
               · dsimp only [slH_some, List.cons_append, List.nil_append, outV']; rw [hs2, List.map_append]
                 try rw [show pkD t ws j = [] from List.eq_nil_of_length_eq_zero (by rw [pkD_len]; exact hok2), List.map_nil, List.nil_append]
                 try rw [show j = 0 from hok2] at h ⊢
                 exact h.subl (SB.s (by repeat constructor)) (SB.s (by repeat constructor)))
            · try simp only [decide_eq_true_eq, decide_eq_false_iff_not, Int.not_lt, Int.not_le, Bool.not_eq_true', Bool.not_eq_false', Decidable.not_not, not_true_eq_false] at hc
              all_goals ((first | (exfalso; omega) | skip))
              all_goals refine tc_exit ?_; ((refine hK8 ?_; try (clear hK8; clear K8)))
              all_goals refine tc_seq fun K14 hK14 => ?_; (have hjl : j = t.liquids.length := by omega)
              all_goals subst hjl
              all_goals refine tc_region ?_; refine tl_q (y_loadW rfl (by repeat constructor) (by rfl)) rfl ?_; ((refine tl_e (e_storeW (cs := #[.slice (some ⟨bo, 0, none⟩) t.parts.length cap, .slice (some ⟨bo2, 0, none⟩) t.liquids.length cap2]) rfl rfl (by repeat constructor) (by rfl) (by rfl) (by intro v hv; simp at hv; rcases hv with rfl | rfl <;> rfl)) rfl (fun _ _ => ?_)))
              all_goals refine tl_nil ?_; ((refine hK14 ?_; try (clear hK14; clear K14)))
              all_goals refine tc_ret ?_; (repeat (first | refine tk_then_ret ?_))
              all_goals (refine tk_ret rfl rfl (.cons (.agg inferInstance rfl (by repeat constructor) (by rfl)) .nil) ?_)
              all_goals (
               refine fun w' hw' => ⟨((some ⟨bo, 0, none⟩, cap), (some ⟨bo2, 0, none⟩, cap2)), rfl, hw'.fr (w0 := w) (S := []) (MI.m (by repeat constructor)), ⟨?_, ?_⟩, NewS.own hw' (b := bo) (by repeat constructor) (by simp), NewS.own hw' (b := bo2) (by repeat constructor) (by simp)⟩
               · have := RdI.own (xs := pE t ws) (cap := cap) (junk := junk) hw' (b := bo) (by repeat constructor)
                 rw [pkE_len] at this; exact this
               · have := RdI.own (xs := pD t ws) (cap := cap2) (junk := junk2) hw' (b := bo2) (by repeat constructor)
                 rw [pkD_len] at this; exact this)))))
end Go.Sp
/-
  What several statements about trials use: answers as slices; appending to slices that may be long.
-/
namespace Go.Sp
open Go Go.Proofs
theorem slicedY {P : Program} {f : FuncId} {args : Array Value} {w : World} {g : Value → Value} {xs : List Int} (h : CnX P f args w [] g (fun v w' => RdI w' v xs)) :
    CnX P f args w [] (fun x : Option Addr × Nat => g (slV xs.length x)) (fun x w' => RdI w' (slV xs.length x) xs) :=
  CnX.of (h.out.mono fun e w' he => by
    obtain ⟨v, rfl, hf, hr⟩ := he
    obtain ⟨hl, ad, cap, rfl, h2⟩ := hr
    exact ⟨(ad, cap), rfl, hf, ⟨hl, ad, cap, rfl, h2⟩⟩)
end Go.Sp
/-
  Helpers of the statements about trials: what is tried, by words.
-/
namespace Go.Sp
open Go Go.Proofs
theorem CnX.sep2 {P : Program} {f : FuncId} {args : Array Value} {w : World} {S : List Nat} {α : Type} {val : α → Value} {q : α → World → Prop} {v u : α → Value} {bs : List (World × List Nat)} {H : List (Nat × Obj)}
    (h : CnX P f args w S val (fun x w' => q x w' ∧ NewS w (v x) ∧ NewS w (u x))) (hw : HG bs H w) : CnX P f args w S val (fun x w' => q x w' ∧ sepS (v x) (H.map Prod.fst) ∧ sepS (u x) (H.map Prod.fst)) :=
  CnX.of (h.out.mono fun e w' he => by
    obtain ⟨x, he, hf, hq, hn, hn2⟩ := he
    refine ⟨x, he, hf, hq, fun p m c e hb => ?_, fun p m c e hb => ?_⟩
    · obtain ⟨a, ha, e2⟩ := List.mem_map.1 hb
      have h1 := hw.lt ha
      have h2 := hn p m c e
      omega
    · obtain ⟨a, ha, e2⟩ := List.mem_map.1 hb
      have h1 := hw.lt ha
      have h2 := hn2 p m c e
      omega)
abbrev tO (t : Tr) (sl pl ll tl : Value) : Obj := .cells #[vi t.s.mass, vi t.s.volume, vi t.s.step, vi t.s.divisions, vi t.s.width, sl, pl, vi t.worst, ll, tl] 28 (0, 0)
theorem RdTr.tests {w : World} {t : Tr} {sl pl ll tl tl2 : Value} {ts : List E3} (h : RdTr w t sl pl ll tl) (h2 : RdT w tl2 ts) : RdTr w { t with tests := ts } sl pl ll tl2 := ⟨h.ws, h.ps, h.ls, h2⟩
theorem slV_ad {w : World} {xs : List Int} {n : Nat} {x : Option Addr × Nat} (h : RdI w (slV n x) xs) (h0 : 0 < xs.length) : ∃ b o, x.1 = some ⟨b, o, none⟩ := by
  obtain ⟨_, ad, cap, e, hr⟩ := h
  obtain ⟨b, o, e2, _⟩ := hr (by omega)
  unfold slV at e
  injection e with e1
  exact ⟨b, o, by rw [e1, e2]⟩
theorem slV_at {w : World} {xs : List Int} {n : Nat} {x : Option Addr × Nat} {b o : Nat} (h : RdI w (slV n x) xs) (e : x.1 = some ⟨b, o, none⟩) {i : Nat} (hi : i < xs.length) : w.cell? ⟨b, o + i, none⟩ = some (vi (xs.getD i 0)) := by
  obtain ⟨_, ad, cap, e0, hr⟩ := h
  obtain ⟨b', o', e2, hc⟩ := hr (by omega)
  unfold slV at e0
  injection e0 with e1
  rw [e1, e2] at e
  cases e
  exact hc.get i _ (by rw [List.getElem?_map, List.getElem?_eq_getElem hi, List.getD_eq_getElem?_getD, List.getElem?_eq_getElem hi]; rfl)
end Go.Sp
/-
  TrialTruth: the law's function returns true.
-/
namespace Go.Sp
open Go Go.Proofs
end Go.Sp
/-
  TrialDecided: offers as the program takes them; three draws ready at once.
-/
namespace Go.Sp
open Go Go.Proofs
section
variable {r : Option Nat} {P : Program} {ops : Array Oper} {Q : Exit → Act → World → Prop} {N : NN} {F : List (Nat × Value)} {bs : List (World × List Nat)} {H : List (Nat × Obj)}
theorem tx_three {fuel : Nat} {S : World → Prop} {listed : Array Bool} (i j k : Nat) (hr : Region.ready .any ops listed = [i, j, k]) (h1 : TOne r P ops Q fuel S listed i N F bs H) (h2 : TOne r P ops Q fuel S listed j N F bs H) (h3 : TOne r P ops Q fuel S listed k N F bs H) : TX r P ops Q (fuel + 1) S listed N F bs H := by
  unfold TOne at h1 h2 h3
  unfold TX
  exact fun a w ht hw =>
    ⟨fun h0 => (by rw [h0] at hr; cases hr), fun q hq => by
      rw [hr] at hq
      rcases (by simpa using hq : q = i ∨ q = j ∨ q = k) with rfl | rfl | rfl
      · exact h1 a w ht hw
      · exact h2 a w ht hw
      · exact h3 a w ht hw⟩
end
theorem offers_c (l : List (Int × Int)) (hl : l.length ≤ 1000) (lv : Value) (w : World) (hL : RdR w lv l) :
    CnX Tryz.prog 32 #[lv] w [] (slV l.length) (fun x w' => RdR w' (slV l.length x) l) := by
  obtain ⟨ad, cp, b0, o0, rfl, had, hcell⟩ := hL.open
  have htk : ∀ n, n ≤ l.length → (l.take n).length = n := fun n h => by rw [List.length_take]; omega
  have hsu : ∀ n, n < l.length → l.take (n + 1) = l.take n ++ [l.getD n (0, 0)] := fun n h => by rw [List.take_add_one, List.getElem?_eq_getElem h, List.getD_eq_getElem?_getD, List.getElem?_eq_getElem h]; rfl
  refine cnx0 (vs := [_]) Tryz.func32 rfl rfl ?_
  all_goals refine tc_seq fun K1 hK1 => ?_; refine tc_region ?_; refine tl_q (y_assign rfl) rfl ?_; refine tl_nil ?_; ((refine hK1 ?_; try (clear hK1; clear K1)))
  all_goals refine tc_seq fun K2 hK2 => ?_; refine tc_region ?_; refine tl_q (y_assign rfl) rfl ?_; refine tl_nil ?_; ((refine hK2 ?_; try (clear hK2; clear K2)))
  all_goals refine tc_seq fun K3 hK3 => ?_; refine tc_seq fun K4 hK4 => ?_; refine tc_region ?_; refine tl_q (y_assign rfl) rfl ?_; refine tl_nil ?_; ((refine hK4 ?_; try (clear hK4; clear K4)))
  all_goals refine tc_block ?_
  all_goals (
   refine tc_loop (fun p : Nat × Option (Nat × Nat × List Value) => p.1 ≤ l.length ∧ outOkR (p.1, p.2)) (fun p => [(0, .slice ad l.length cp), (3, outV' (p.1, p.2)), (4, vi p.1)]) (fun _ => [(w, [])]) (fun p => slH 123 (flatR (l.take p.1)) p.2) (fun p => l.length - p.1) ?_ ?_
   · exact tk_start (0, none) ⟨Nat.zero_le _, rfl⟩ (.cons rfl (.cons rfl (.cons rfl .nil))) (fun _ h => h.subl (SB.s (by repeat constructor)) (SB.s (by repeat constructor)))
   · rintro ⟨n, oo⟩ ⟨hn, hok⟩
     rcases oo with _ | ⟨bo, cap, junk⟩
     all_goals ((dsimp only [outOkR] at hn hok ⊢; dsimp only [slH_none, slH_some, List.cons_append, List.nil_append, outV']))
     all_goals refine tc_seq fun K5 hK5 => ?_; refine tc_seq fun K6 hK6 => ?_; refine tc_region ?_; refine tl_q (y_move rfl) rfl ?_; refine tl_q (y_move rfl) rfl ?_; refine tl_q (y_len rfl) rfl ?_; refine tl_q (y_lss rfl rfl) rfl ?_; refine tl_nil ?_; ((refine hK6 ?_; try (clear hK6; clear K6)))
     all_goals (
      refine tc_cond rfl (fun hc => ?_) (fun hc => ?_)
      · try simp only [decide_eq_true_eq, decide_eq_false_iff_not, Int.not_lt, Int.not_le, Bool.not_eq_true', Bool.not_eq_false', Decidable.not_not, not_true_eq_false] at hc
        all_goals refine tc_skip ?_; ((refine hK5 ?_; try (clear hK5; clear K5)))
        all_goals refine tc_seq fun K7 hK7 => ?_; refine tc_block ?_; (have had' := had (by omega))
        all_goals (have hlen : (flatR (l.take n)).length = n * 2 := by rw [flatR_len, htk n (by omega)])
        all_goals refine tc_drawS ([]) (by kernel_rfl) ?_; refine tx_p 0 rfl (by kernel_rfl) (y_move rfl) rfl (fun _ _ _ h => h) (fun _ h => h.subl (SB.s (by repeat constructor)) (SB.s (by repeat constructor))) ?_; refine tx_p 1 rfl (by kernel_rfl) (y_move rfl) rfl (fun _ _ _ h => h) (fun _ h => h.subl (SB.s (by repeat constructor)) (SB.s (by repeat constructor))) ?_; refine tx_p 2 rfl (by kernel_rfl) (y_move rfl) rfl (fun _ _ _ h => h) (fun _ h => h.subl (SB.s (by repeat constructor)) (SB.s (by repeat constructor))) ?_; refine tx_p 3 rfl (by kernel_rfl) (y_index rfl rfl (by omega) had') rfl (fun _ _ _ h => h) (fun _ h => h.subl (SB.s (by repeat constructor)) (SB.s (by repeat constructor))) ?_; refine tx_p 4 rfl (by kernel_rfl) (y_field rfl) rfl (fun _ _ _ h => h) (fun _ h => h.subl (SB.s (by repeat constructor)) (SB.s (by repeat constructor))) ?_; ((refine tx_qS 5 rfl (by kernel_rfl) (y_load1o (v := vi (l.getD n (0, 0)).1) rfl (fun w' hw' => by rw [show Int.toNat (n : Int) * 2 = n * 2 from by omega]; exact (hcell w' [] (hw'.fr (w0 := w) (S := []) (MI.m (by repeat constructor))) (by simp) n (by omega)).get 0 _ rfl)) rfl (fun _ _ _ h => h) (fun _ h => h.subl (SB.s (by repeat constructor)) (SB.s (by repeat constructor))) ?_))
        all_goals refine tx_p 6 rfl (by kernel_rfl) (y_move rfl) rfl (fun _ _ _ h => h) (fun _ h => h.subl (SB.s (by repeat constructor)) (SB.s (by repeat constructor))) ?_; refine tx_p 7 rfl (by kernel_rfl) (y_move rfl) rfl (fun _ _ _ h => h) (fun _ h => h.subl (SB.s (by repeat constructor)) (SB.s (by repeat constructor))) ?_; refine tx_p 8 rfl (by kernel_rfl) (y_index rfl rfl (by omega) had') rfl (fun _ _ _ h => h) (fun _ h => h.subl (SB.s (by repeat constructor)) (SB.s (by repeat constructor))) ?_; refine tx_p 9 rfl (by kernel_rfl) (y_field rfl) rfl (fun _ _ _ h => h) (fun _ h => h.subl (SB.s (by repeat constructor)) (SB.s (by repeat constructor))) ?_; ((refine tx_qS 10 rfl (by kernel_rfl) (y_load1o (v := vi (l.getD n (0, 0)).2) rfl (fun w' hw' => by rw [show Int.toNat (n : Int) * 2 = n * 2 from by omega]; exact (hcell w' [] (hw'.fr (w0 := w) (S := []) (MI.m (by repeat constructor))) (by simp) n (by omega)).get 1 _ rfl)) rfl (fun _ _ _ h => h) (fun _ h => h.subl (SB.s (by repeat constructor)) (SB.s (by repeat constructor))) ?_))
        all_goals refine tx_p 11 rfl (by kernel_rfl) (y_build_2 rfl rfl rfl rfl) rfl (fun _ _ _ h => h) (fun _ h => h.subl (SB.s (by repeat constructor)) (SB.s (by repeat constructor))) ?_; (refine tx_single 12 (by kernel_rfl) (to_e rfl rfl (e_bslice rfl (by (repeat (first | exact .nil | apply PV.two rfl)); done) rfl rfl) (.inr ⟨fun _ _ h => h.subl (SB.s (by repeat constructor)) (SB.s (by repeat constructor)), fun _ h => h⟩) (fun _ _ => ?_)))
        all_goals ((first | refine tx_single 13 (by kernel_rfl) (to_e rfl rfl (e_append_own (old := flatR (l.take n)) (junk := junk) rfl rfl rfl (by repeat constructor) (by rw [hlen]) (by omega) hok.1 (fun w' hw' => RdR.own0 (xs := [l.getD n (0, 0)]) hw' (by repeat constructor)) (flatR_one _) (by simp only [List.length_cons, List.length_nil]; omega) rfl) (.inr ⟨fun _ _ h => h.subl (SB.s (by repeat constructor)) (SB.s (by repeat constructor)), fun _ h => h⟩) (fun y hy => ?_)) | refine tx_single 13 (by kernel_rfl) (to_e rfl rfl (e_append_nil rfl rfl rfl (fun w' hw' => RdR.own0 (xs := [l.getD n (0, 0)]) hw' (by repeat constructor)) (flatR_one _) Nat.zero_lt_one (Nat.le_of_ble_eq_true rfl) rfl) (.inr ⟨fun _ _ h => h.subl (SB.s (by repeat constructor)) (SB.s (by repeat constructor)), fun _ h => h⟩) (fun y hy => ?_))))
        all_goals refine tx_p 14 rfl (by kernel_rfl) (y_assign rfl) rfl (fun _ _ _ h => h) (fun _ h => h.subl (SB.s (by repeat constructor)) (SB.s (by repeat constructor))) ?_; refine tx_done (by kernel_rfl) ?_; ((refine hK7 ?_; try (clear hK7; clear K7)))
        all_goals refine tc_region ?_; refine tl_q (y_move rfl) rfl ?_; refine tl_q (y_add rfl rfl (by omega)) rfl ?_; refine tl_q (y_assign rfl) rfl ?_; refine tl_nil ?_
        all_goals (
         have hs2 := hsu n (by omega)
         refine tk_round (n + 1, some (y.1, y.2.1, y.2.2)) ⟨by dsimp only; omega, ?_⟩ (by dsimp only; omega) (.cons rfl (.cons ?_ (.cons rfl .nil))) (fun _ h => ?_)
         · dsimp only [outOkR]; simp only [List.length_cons, List.length_nil] at hy ⊢; omega
         · dsimp only [outV']; first | rfl | (rw [show n = 0 from hok]; rfl)
         · dsimp only [slH_some]; rw [hs2, flatR_append]
           try rw [show l.take n = [] from by rw [show n = 0 from hok]; rfl, show flatR [] = [] from rfl, List.nil_append]
           exact h.subl (SB.s (by repeat constructor)) (SB.s (by repeat constructor)))
      · try simp only [decide_eq_true_eq, decide_eq_false_iff_not, Int.not_lt, Int.not_le, Bool.not_eq_true', Bool.not_eq_false', Decidable.not_not, not_true_eq_false] at hc
        all_goals refine tc_exit ?_; ((refine hK3 ?_; try (clear hK3; clear K3)))
        all_goals refine tc_seq fun K8 hK8 => ?_; refine tc_region ?_; refine tl_q (y_move rfl) rfl ?_; refine tl_q (y_assign rfl) rfl ?_; refine tl_nil ?_; ((refine hK8 ?_; try (clear hK8; clear K8)))
        all_goals refine tc_ret ?_; (repeat (first | refine tk_then_ret ?_))
        all_goals (refine tk_ret rfl rfl (.cons (.tmp rfl) .nil) ?_)
        all_goals (
         have hnn : n = l.length := by omega
         subst hnn
         try rw [List.take_length]
         first
         | exact fun w' hw' => ⟨(none, 0), by unfold slV; rw [hok]; rfl, hw'.fr (by simp), by unfold slV; rw [hok, List.eq_nil_of_length_eq_zero hok]; exact RdR.nil _⟩
         | exact fun w' hw' => ⟨(some ⟨bo, 0, none⟩, cap), rfl, hw'.fr (by simp), RdR.own (xs := l) (cap := cap) (junk := junk) (b := bo) hw' (by repeat constructor)⟩)))
def addS (t : Tr) (l : List (Int × Int)) (ws r : List Int) (j : Nat) : List Int := shownL t (er3 (pE t ws)) (l.getD (r.getD j 0).toNat (0, 0)).1 (l.getD (r.getD j 0).toNat (0, 0)).2
def addX (t : Tr) (l : List (Int × Int)) (ws r : List Int) (j : Nat) : E3 := (((0 + t.liquids.length + j : Nat) : Int), (l.getD (r.getD j 0).toNat (0, 0)).1, (addS t l ws r j).getD (wordF ws (j + 7) % ((addS t l ws r j).length : Int)).toNat 0)
def addL (t : Tr) (l : List (Int × Int)) (ws r : List Int) (n : Nat) : List E3 := (List.range n).map (addX t l ws r)
theorem addL_succ (t : Tr) (l : List (Int × Int)) (ws r : List Int) (n : Nat) : addL t l ws r (n + 1) = addL t l ws r n ++ [addX t l ws r n] := by simp [addL, List.range_succ]
theorem addL_len (t : Tr) (l : List (Int × Int)) (ws r : List Int) (n : Nat) : (addL t l ws r n).length = n := by simp [addL]
theorem addL_get {t : Tr} {l : List (Int × Int)} {ws r : List Int} {n j : Nat} (h : j < n) : (addL t l ws r n).getD j (0, 0, 0) = addX t l ws r j := by
  unfold addL
  rw [List.getD_eq_getElem?_getD, List.getElem?_map, List.getElem?_range h]; rfl
def dlO (l : List (Int × Int)) (r : List Int) (n : Nat) : List (Int × Int) := (subO l r n).map fun o => (o.2, o.2)
theorem dlO_succ {l : List (Int × Int)} {r : List Int} {n : Nat} (h : n < r.length) : dlO l r (n + 1) = dlO l r n ++ [((l.getD (r.getD n 0).toNat (0, 0)).2, (l.getD (r.getD n 0).toNat (0, 0)).2)] := by
  unfold dlO
  rw [subO_succ h, List.map_append]; rfl
theorem dlO_len {l : List (Int × Int)} {r : List Int} {n : Nat} (h : n ≤ r.length) : (dlO l r n).length = n := by
  unfold dlO
  rw [List.length_map, subO_len h]
abbrev addT (t : Tr) (l : List (Int × Int)) (ws r : List Int) (n : Nat) : Tr := { t with liquids := t.liquids ++ dlO l r n, tests := t.tests ++ addL t l ws r n }
theorem addT_add (t : Tr) (l : List (Int × Int)) (ws r : List Int) : Add t (addT t l ws r r.length) (subO l r r.length) where
  s := rfl
  p := rfl
  w := rfl
  l := rfl
  n := by show (t.tests ++ addL t l ws r r.length).length = _; rw [List.length_append, addL_len, subO_len (Nat.le_refl _)]
  old := fun j hj => by
    show (t.tests ++ addL t l ws r r.length).getD j (0, 0, 0) = _
    rw [List.getD_eq_getElem?_getD, List.getElem?_append_left hj, ← List.getD_eq_getElem?_getD]
  new := fun j hj => by
    rw [subO_len (Nat.le_refl _)] at hj
    have e : (t.tests ++ addL t l ws r r.length).getD (t.tests.length + j) (0, 0, 0) = addX t l ws r j := by
      rw [List.getD_eq_getElem?_getD, List.getElem?_append_right (by omega), Nat.add_sub_cancel_left, ← List.getD_eq_getElem?_getD, addL_get hj]
    have e2 : (subO l r r.length).getD j (0, 0) = l.getD (r.getD j 0).toNat (0, 0) := by
      unfold subO
      rw [List.take_length, List.getD_eq_getElem?_getD, List.getElem?_map, List.getElem?_eq_getElem hj, List.getD_eq_getElem?_getD (l := r), List.getElem?_eq_getElem hj]
      rfl
    show ((t.tests ++ addL t l ws r r.length).getD (t.tests.length + j) (0, 0, 0)).1 = _ ∧ ((t.tests ++ addL t l ws r r.length).getD (t.tests.length + j) (0, 0, 0)).2.1 = _
    rw [e, e2]
    exact ⟨by show ((0 + t.liquids.length + j : Nat) : Int) = _; rw [Nat.zero_add], rfl⟩
end Go.Sp
