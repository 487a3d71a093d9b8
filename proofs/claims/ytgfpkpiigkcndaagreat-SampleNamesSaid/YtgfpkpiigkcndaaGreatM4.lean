
/-
  SampleLeft, walked.
-/
import Derived.Test.YtgfpkpiigkcndaaGreatM3
import Derived.Laws.AppendOwn
import Derived.Test.YtgfpkpiigkcndaaGreatRows
import Derived.ProofKit
import Derived.OpenShut
import Derived.Carry
import Derived.Deep.Fields
set_option linter.unusedVariables false
set_option linter.unusedSimpArgs false
set_option linter.deprecated false
namespace Go.Sp
open Go Go.Proofs
theorem leaveK_c {s : Smp} {L : List Int} (hv : VSm s) (hL : levL s = L) (hf : Few s) (tv pv gv : Value) (w : World) (hr : RdSm w s tv pv gv) :
    CnX Tryz.prog 31 #[smV s tv pv gv] w [] (fun y : Option Addr × Nat => .tuple #[slV L.length y, vi 0]) (fun y w' => RdI w' (slV L.length y) L) := by
  have h := leaveAll_c s hf tv pv gv w hr
  rw [hL, chkS_0.2 hv] at h
  exact h
end Go.Sp
/-
  SampleSealed.
-/
namespace Go.Sp
open Go Go.Proofs
/-- A slice of slices that lies apart from some blocks. -/
def RdLP {α : Type} (k : Nat) (enc : α → List Value) (S : List Nat) (w : World) (v : Value) (xss : List (List α)) : Prop := ∃ us : List Sv, (RdS 1 svE w v us ∧ sepS v S) ∧ (us.length = xss.length ∧ ∀ u ∈ us, sepS u.1 S) ∧ ∀ j, j < xss.length → RdS k enc w (us.getD j sv0).1 (xss.getD j [])
theorem RdLP.fr {α : Type} {k : Nat} {enc : α → List Value} {S : List Nat} {w w' : World} {v : Value} {xss : List (List α)} (h : RdLP k enc S w v xss) (f : Fr S w w') : RdLP k enc S w' v xss := by
  obtain ⟨us, ⟨h1, h2⟩, ⟨h3, h4⟩, h5⟩ := h
  exact ⟨us, ⟨h1.frS f h2, h2⟩, ⟨h3, h4⟩, fun j hj => (h5 j hj).frS f (h4 _ (getD_memG (by omega)))⟩
theorem RdLP.sub {α : Type} {k : Nat} {enc : α → List Value} {S S' : List Nat} {w : World} {v : Value} {xss : List (List α)} (h : RdLP k enc S w v xss) (hs : ∀ b ∈ S', b ∈ S) : RdLP k enc S' w v xss := by
  obtain ⟨us, ⟨h1, h2⟩, ⟨h3, h4⟩, h5⟩ := h
  exact ⟨us, ⟨h1, fun p m c e hm => h2 p m c e (hs _ hm)⟩, ⟨h3, fun u hu p m c e hm => h4 u hu p m c e (hs _ hm)⟩, h5⟩
theorem RdLP.ll {α : Type} {k : Nat} {enc : α → List Value} {S : List Nat} {w : World} {v : Value} {xss : List (List α)} (h : RdLP k enc S w v xss) : RdLL k enc w v xss := by
  obtain ⟨us, ⟨h1, h2⟩, ⟨h3, h4⟩, h5⟩ := h
  exact ⟨us, h1, h3, h5⟩
theorem sepS.sub {v : Value} {S S' : List Nat} (h : sepS v S) (hs : ∀ b ∈ S', b ∈ S) : sepS v S' := fun p m c e hm => h p m c e (hs _ hm)
theorem sepS.own {b n c : Nat} {S : List Nat} (h : b ∉ S) : sepS (.slice (some ⟨b, 0, none⟩) n c) S := fun p m c' e hm => by cases e; exact h hm
end Go.Sp
/-
  Appending to an own slice what another one holds, of any length.
-/
namespace Go.Sp
open Go Go.Proofs
end Go.Sp
/-
  SampleMore, walked.
-/
namespace Go.Sp
open Go Go.Proofs
/-- So many sights, and one more, are not too many bytes. -/
def BigOk (n : Nat) : Prop := (n + 1) * 24 ≤ 140737488355328
theorem BigOk.b {n : Nat} {x : Sgt} (h : BigOk n) : (0 + n + [x].length) * 24 ≤ 140737488355328 := Nat.le_trans (Nat.mul_le_mul_right 24 (by rw [List.length_singleton, Nat.zero_add]; exact Nat.le_refl _)) h
end Go.Sp
/-
  Sighted.
-/
namespace Go.Sp
open Go Go.Proofs
end Go.Sp
/-
  SampleOpened.
-/
namespace Go.Sp
open Go Go.Proofs
theorem RdS.openV {α : Type} {k : Nat} {enc : α → List Value} {w : World} {n : Nat} {y : Option Addr × Nat} {xs : List α} (h : RdS k enc w (slV n y) xs) (hk : ∀ x, (enc x).length = k) (d : α) :
    ∃ b o, (0 < xs.length → y.1 = some ⟨b, o, none⟩) ∧ ∀ w', Fr [] w w' → ∀ i, i < xs.length → CA (fun n => w'.cell? ⟨b, n, none⟩) (o + i * k) k (enc (xs.getD i d)) := by
  obtain ⟨ad, cap, b, o, e, had, hcell⟩ := h.open hk d
  injection e with e1 e2 e3
  subst e1
  exact ⟨b, o, had, fun w' f i hi => hcell w' [] f (by simp) i hi⟩
end Go.Sp
/-
  Package sample: lists of truths; what is played with a bottle.
-/
namespace Go.Sp
open Go Go.Proofs
theorem indexIn_c (g : FuncId) [GoFn Tryz.prog g] (first cap : Array Value) (p : Int → Bool) (xs : List Int) (hx : (xs.length : Int) ≤ 9000000000000000000) (sl : Value) (w : World) (hr : RdI w sl xs) (ht : TestsG Tryz.prog vi g first cap p w) :
    CnV Tryz.prog 145 #[sl, .func (.func g) first cap] w (vi (idxG xs p)) := by
  obtain ⟨ad, cp, b0, o, rfl, had, hcell⟩ := hr.open
  refine cnv (vs := [_, _]) Tryz.func145 rfl rfl ?_
  all_goals refine tc_seq fun K1 hK1 => ?_; refine tc_region ?_; refine tl_q (y_assign rfl) rfl ?_; refine tl_nil ?_; ((refine hK1 ?_; try (clear hK1; clear K1)))
  all_goals refine tc_seq fun K2 hK2 => ?_; refine tc_seq fun K3 hK3 => ?_; refine tc_region ?_; refine tl_q (y_move rfl) rfl ?_; refine tl_q (y_len rfl) rfl ?_; refine tl_q (y_move rfl) rfl ?_; refine tl_nil ?_; ((refine hK3 ?_; try (clear hK3; clear K3)))
  all_goals refine tc_block ?_
  all_goals (
   refine tc_loop (fun k : Nat => k ≤ xs.length ∧ ∀ j, j < k → p (xs.getD j 0) = false) (fun k => [(0, .slice ad xs.length cp), (1, .func (.func g) first cap), (7, vi xs.length), (8, vi k)]) (fun _ => [(w, [])]) (fun _ => []) (fun k => xs.length - k) ?_ ?_
   · exact tk_start 0 ⟨Nat.zero_le _, fun j hj => absurd hj (Nat.not_lt_zero j)⟩ (.cons rfl (.cons rfl (.cons rfl (.cons rfl .nil)))) (fun _ h => h)
   · rintro k ⟨hk, hj⟩
     all_goals refine tc_seq fun K4 hK4 => ?_; refine tc_region ?_; refine tl_q (y_lss rfl rfl) rfl ?_; refine tl_nil ?_; ((refine hK4 ?_; try (clear hK4; clear K4)))
     all_goals refine tc_seq fun K5 hK5 => ?_
     all_goals (
      refine tc_cond rfl (fun hc => ?_) (fun hc => ?_)
      · try simp only [decide_eq_true_eq, decide_eq_false_iff_not, Int.not_lt, Int.not_le, Bool.not_eq_true', Bool.not_eq_false', Decidable.not_not, not_true_eq_false] at hc
        all_goals refine tc_skip ?_; ((refine hK5 ?_; try (clear hK5; clear K5)))
        all_goals refine tc_seq fun K6 hK6 => ?_; refine tc_block ?_; refine tc_seq fun K7 hK7 => ?_; refine tc_region ?_; refine tl_q (y_move rfl) rfl ?_; refine tl_q (y_assign rfl) rfl ?_; refine tl_nil ?_; ((refine hK7 ?_; try (clear hK7; clear K7)))
        all_goals refine tc_seq fun K8 hK8 => ?_
        have had' := had (by omega)
        all_goals refine tc_region ?_; refine tl_q (y_move rfl) rfl ?_; refine tl_q (y_move rfl) rfl ?_; refine tl_q (y_move rfl) rfl ?_; refine tl_q (y_index rfl rfl (by omega) had') rfl ?_; ((refine tl_q (y_load1o (v := vi (xs.getD k 0)) rfl (fun w' hw' => by rw [show Int.toNat (k : Int) * 1 = k from by omega]; exact hcell w' (hw'.fr (by simp)) k (by omega))) rfl ?_))
        all_goals refine tl_e (e_callVf rfl rfl (.cons rfl .nil) (fun w' hw' => ht (xs.getD k 0) w' (hw'.fr (by simp)))) rfl (fun _ _ => ?_); refine tl_nil ?_; ((refine hK8 ?_; try (clear hK8; clear K8)))
        all_goals (
         refine tc_cond rfl (fun hc => ?_) (fun hc => ?_)
         · all_goals (skip)
           all_goals refine tc_seq fun K9 hK9 => ?_; refine tc_region ?_; refine tl_q (y_move rfl) rfl ?_; refine tl_q (y_assign rfl) rfl ?_; refine tl_nil ?_; ((refine hK9 ?_; try (clear hK9; clear K9)))
           all_goals refine tc_ret ?_; (repeat (first | refine tk_then_ret ?_ | refine tk_block_ret ?_))
           all_goals (refine tk_ret rfl rfl (.cons (.tmp rfl) .nil) ?_)
           all_goals (
            first | exact fun w' hw' => ⟨by rw [idxG_hit (k := k) (by omega) (by simpa using hc) hj]; rfl, hw'.fr (by simp)⟩ | exact fun w' hw' => ⟨by rw [idxG_miss (d := 0) (fun j hjj => hj j (by omega))]; rfl, hw'.fr (by simp)⟩)
         · all_goals (skip)
           all_goals refine tc_skip ?_; ((refine hK6 ?_; try (clear hK6; clear K6)))
           all_goals refine tc_region ?_; refine tl_q (y_add rfl rfl (by omega)) rfl ?_; refine tl_q (y_move rfl) rfl ?_; refine tl_nil ?_
           all_goals (
            exact tk_round (k + 1) ⟨by omega, fun j hj' => by rcases Nat.lt_succ_iff_lt_or_eq.1 hj' with h | rfl; exact hj j h; simpa using hc⟩ (by omega) (.cons rfl (.cons rfl (.cons rfl (.cons rfl .nil)))) (fun _ h => h)))
      · try simp only [decide_eq_true_eq, decide_eq_false_iff_not, Int.not_lt, Int.not_le, Bool.not_eq_true', Bool.not_eq_false', Decidable.not_not, not_true_eq_false] at hc
        all_goals refine tc_exit ?_; ((refine hK2 ?_; try (clear hK2; clear K2)))
        all_goals refine tc_seq fun K10 hK10 => ?_; refine tc_region ?_; refine tl_q (y_assign rfl) rfl ?_; refine tl_nil ?_; ((refine hK10 ?_; try (clear hK10; clear K10)))
        all_goals refine tc_ret ?_; (repeat (first | refine tk_then_ret ?_))
        all_goals (refine tk_ret rfl rfl (.cons (.tmp rfl) .nil) ?_)
        all_goals (
         first | exact fun w' hw' => ⟨by rw [idxG_hit (k := k) (by omega) (by simpa using hc) hj]; rfl, hw'.fr (by simp)⟩ | exact fun w' hw' => ⟨by rw [idxG_miss (d := 0) (fun j hjj => hj j (by omega))]; rfl, hw'.fr (by simp)⟩)))
theorem containsFuncIn_c (g : FuncId) [GoFn Tryz.prog g] (first cap : Array Value) (p : Int → Bool) (xs : List Int) (hx : (xs.length : Int) ≤ 9000000000000000000) (sl : Value) (w : World) (hr : RdI w sl xs) (ht : TestsG Tryz.prog vi g first cap p w) :
    CnV Tryz.prog 124 #[sl, .func (.func g) first cap] w (.bool (xs.any p)) := by
  refine cnv (vs := [_, _]) Tryz.func124 rfl rfl ?_
  all_goals refine tc_seq fun K1 hK1 => ?_; refine tc_region ?_; refine tl_q (y_assign rfl) rfl ?_; refine tl_nil ?_; ((refine hK1 ?_; try (clear hK1; clear K1)))
  all_goals refine tc_seq fun K2 hK2 => ?_; refine tc_region ?_; refine tl_q (y_move rfl) rfl ?_; refine tl_q (y_move rfl) rfl ?_; refine tl_e (e_callV rfl (.cons rfl (.cons rfl .nil)) (fun w' hw' => indexIn_c g first cap p xs hx _ w' (hr.fr (hw'.fr (by simp))) (ht.fr (hw'.fr (by simp))))) rfl (fun _ _ => ?_); refine tl_q (y_geq rfl rfl) rfl ?_; refine tl_q (y_assign rfl) rfl ?_; refine tl_nil ?_; ((refine hK2 ?_; try (clear hK2; clear K2)))
  all_goals refine tc_ret ?_; (repeat (first | refine tk_then_ret ?_))
  all_goals (refine tk_ret rfl rfl (.cons (.tmp rfl) .nil) ?_)
  all_goals (
   exact fun w' hw' => ⟨by rw [← idxG_any]; rfl, hw'.fr (by simp)⟩)
theorem allIn1_c (g : FuncId) [GoFn Tryz.prog g] (first cap : Array Value) (p : Int → Bool) (x : Int) (b : Nat) (w : World) (hb : w.cell? ⟨b, 0, none⟩ = some (.func (.func g) first cap)) (ht : TestsG Tryz.prog vi g first cap p w) :
    CnV Tryz.prog 125 #[vi x, .pointer (some ⟨b, 0, none⟩)] w (.bool (!(p x))) := by
  refine cnv (vs := [_, _]) Tryz.func125 rfl rfl ?_
  all_goals refine tc_seq fun K1 hK1 => ?_; refine tc_region ?_; refine tl_q (y_assign rfl) rfl ?_; refine tl_nil ?_; ((refine hK1 ?_; try (clear hK1; clear K1)))
  all_goals refine tc_seq fun K2 hK2 => ?_; refine tc_region ?_; refine tl_q (y_load1o rfl (fun w' hw' => (hw'.fr (S := []) (w0 := w) (by simp)).cell (by simp) hb)) rfl ?_; refine tl_q (y_move rfl) rfl ?_; refine tl_e (e_callVf rfl rfl (.cons rfl .nil) (fun w' hw' => ht x w' (hw'.fr (by simp)))) rfl (fun _ _ => ?_); refine tl_q (y_not rfl) rfl ?_; refine tl_q (y_assign rfl) rfl ?_; refine tl_nil ?_; ((refine hK2 ?_; try (clear hK2; clear K2)))
  all_goals refine tc_ret ?_; (repeat (first | refine tk_then_ret ?_))
  all_goals (refine tk_ret rfl rfl (.cons (.tmp rfl) .nil) ?_)
  all_goals (
   exact fun w' hw' => ⟨rfl, hw'.fr (by simp)⟩)
theorem allIn_c (g : FuncId) [GoFn Tryz.prog g] (first cap : Array Value) (p : Int → Bool) (xs : List Int) (hx : (xs.length : Int) ≤ 9000000000000000000) (sl : Value) (w : World) (hr : RdI w sl xs) (ht : TestsG Tryz.prog vi g first cap p w) :
    CnV Tryz.prog 99 #[sl, .func (.func g) first cap] w (.bool (xs.all p)) := by
  refine cnv (vs := [_, _]) Tryz.func99 rfl rfl ?_
  all_goals refine tc_seq fun K1 hK1 => ?_; refine tc_region ?_; refine tl_e (e_box rfl rfl rfl) rfl (fun b _ => ?_); refine tl_q (y_assign rfl) rfl ?_; refine tl_nil ?_; ((refine hK1 ?_; try (clear hK1; clear K1)))
  all_goals refine tc_seq fun K2 hK2 => ?_; refine tc_region ?_; refine tl_q (y_move rfl) rfl ?_; refine tl_q (y_fn .nil (.cons rfl .nil)) rfl ?_; refine tl_e (e_callV rfl (.cons rfl (.cons rfl .nil)) (fun w' hw' => containsFuncIn_c 125 #[] #[.pointer (some ⟨b, 0, none⟩)] (fun x => !(p x)) xs hx _ w' (hr.fr (hw'.fr (by simp))) (fun x w2 f => by simpa using allIn1_c g first cap p x b w2 (f.cell (by simp) (cellAt_cell? (hw'.heap _ (HM.mem (by repeat constructor))) rfl)) ((ht.fr (hw'.fr (by simp))).fr f)))) rfl (fun _ _ => ?_); refine tl_q (y_not rfl) rfl ?_; refine tl_q (y_assign rfl) rfl ?_; refine tl_nil ?_; ((refine hK2 ?_; try (clear hK2; clear K2)))
  all_goals refine tc_ret ?_; (repeat (first | refine tk_then_ret ?_))
  all_goals (refine tk_ret rfl rfl (.cons (.tmp rfl) .nil) ?_)
  all_goals (
   exact fun w' hw' => ⟨by simp [outV, List.all_eq_not_any_not], hw'.fr (by simp)⟩)
def TestsN (P : Program) (us : List Sv) (g : FuncId) (first cap : Array Value) (p : Nat → Bool) (w : World) : Prop := ∀ (i : Nat) (w' : World), i < us.length → Fr [] w w' → CnV P g (first ++ #[(us.getD i sv0).1] ++ cap) w' (.bool (p i))
theorem TestsN.fr {P : Program} {us : List Sv} {g : FuncId} {first cap : Array Value} {p : Nat → Bool} {w w1 : World} (h : TestsN P us g first cap p w) (f : Fr [] w w1) : TestsN P us g first cap p w1 := fun i w' hi f' => h i w' hi (f.trans f' (by simp))
theorem rangeD {n k : Nat} (h : k < n) : (List.range n).getD k 0 = k := by
  rw [List.getD_eq_getElem?_getD, List.getElem?_range h]; rfl
theorem indexSl_c (g : FuncId) [GoFn Tryz.prog g] (first cap : Array Value) (p : Nat → Bool) (us : List Sv) (hx : (us.length : Int) ≤ 9000000000000000000) (sl : Value) (w : World) (hr : RdS 1 svE w sl us) (ht : TestsN Tryz.prog us g first cap p w) :
    CnV Tryz.prog 144 #[sl, .func (.func g) first cap] w (vi (idxG (List.range us.length) p)) := by
  obtain ⟨ad, cp, b0, o, rfl, had, hcell⟩ := hr.open svE_len sv0
  refine cnv (vs := [_, _]) Tryz.func144 rfl rfl ?_
  all_goals refine tc_seq fun K1 hK1 => ?_; refine tc_region ?_; refine tl_q (y_assign rfl) rfl ?_; refine tl_nil ?_; ((refine hK1 ?_; try (clear hK1; clear K1)))
  all_goals refine tc_seq fun K2 hK2 => ?_; refine tc_seq fun K3 hK3 => ?_; refine tc_region ?_; refine tl_q (y_move rfl) rfl ?_; refine tl_q (y_len rfl) rfl ?_; refine tl_q (y_move rfl) rfl ?_; refine tl_nil ?_; ((refine hK3 ?_; try (clear hK3; clear K3)))
  all_goals refine tc_block ?_
  all_goals (
   refine tc_loop (fun k : Nat => k ≤ us.length ∧ ∀ j, j < k → p j = false) (fun k => [(0, .slice ad us.length cp), (1, .func (.func g) first cap), (7, vi us.length), (8, vi k)]) (fun _ => [(w, [])]) (fun _ => []) (fun k => us.length - k) ?_ ?_
   · exact tk_start 0 ⟨Nat.zero_le _, fun j hj => absurd hj (Nat.not_lt_zero j)⟩ (.cons rfl (.cons rfl (.cons rfl (.cons rfl .nil)))) (fun _ h => h)
   · rintro k ⟨hk, hj⟩
     all_goals refine tc_seq fun K4 hK4 => ?_; refine tc_region ?_; refine tl_q (y_lss rfl rfl) rfl ?_; refine tl_nil ?_; ((refine hK4 ?_; try (clear hK4; clear K4)))
     all_goals refine tc_seq fun K5 hK5 => ?_
     all_goals (
      refine tc_cond rfl (fun hc => ?_) (fun hc => ?_)
      · try simp only [decide_eq_true_eq, decide_eq_false_iff_not, Int.not_lt, Int.not_le, Bool.not_eq_true', Bool.not_eq_false', Decidable.not_not, not_true_eq_false] at hc
        all_goals refine tc_skip ?_; ((refine hK5 ?_; try (clear hK5; clear K5)))
        all_goals refine tc_seq fun K6 hK6 => ?_; refine tc_block ?_; refine tc_seq fun K7 hK7 => ?_; refine tc_region ?_; refine tl_q (y_move rfl) rfl ?_; refine tl_q (y_assign rfl) rfl ?_; refine tl_nil ?_; ((refine hK7 ?_; try (clear hK7; clear K7)))
        all_goals refine tc_seq fun K8 hK8 => ?_
        have had' := had (by omega)
        all_goals refine tc_region ?_; refine tl_q (y_move rfl) rfl ?_; refine tl_q (y_move rfl) rfl ?_; refine tl_q (y_move rfl) rfl ?_; refine tl_q (y_index rfl rfl (by omega) had') rfl ?_; ((refine tl_q (y_load1o (v := (us.getD k sv0).1) rfl (fun w' hw' => by have hx := (hcell w' [] (hw'.fr (by simp)) (by simp) k (by omega)).get 0 _ rfl; rw [show Int.toNat (k : Int) = k from by omega]; exact hx)) rfl ?_))
        all_goals refine tl_e (e_callVf rfl rfl (.cons rfl .nil) (fun w' hw' => ht k w' (by omega) (hw'.fr (by simp)))) rfl (fun _ _ => ?_); refine tl_nil ?_; ((refine hK8 ?_; try (clear hK8; clear K8)))
        all_goals (
         refine tc_cond rfl (fun hc => ?_) (fun hc => ?_)
         · all_goals (skip)
           all_goals refine tc_seq fun K9 hK9 => ?_; refine tc_region ?_; refine tl_q (y_move rfl) rfl ?_; refine tl_q (y_assign rfl) rfl ?_; refine tl_nil ?_; ((refine hK9 ?_; try (clear hK9; clear K9)))
           all_goals refine tc_ret ?_; (repeat (first | refine tk_then_ret ?_ | refine tk_block_ret ?_))
           all_goals (refine tk_ret rfl rfl (.cons (.tmp rfl) .nil) ?_)
           all_goals (
            first | exact fun w' hw' => ⟨by rw [idxG_hit (d := 0) (k := k) (by rw [List.length_range]; omega) (by rw [rangeD (by omega)]; simpa using hc) (fun j hjk => by rw [rangeD (by omega)]; exact hj j hjk)]; rfl, hw'.fr (by simp)⟩ | exact fun w' hw' => ⟨by rw [idxG_miss (d := 0) (fun j hjj => by rw [List.length_range] at hjj; rw [rangeD (by omega)]; exact hj j (by omega))]; rfl, hw'.fr (by simp)⟩)
         · all_goals (skip)
           all_goals refine tc_skip ?_; ((refine hK6 ?_; try (clear hK6; clear K6)))
           all_goals refine tc_region ?_; refine tl_q (y_add rfl rfl (by omega)) rfl ?_; refine tl_q (y_move rfl) rfl ?_; refine tl_nil ?_
           all_goals (
            exact tk_round (k + 1) ⟨by omega, fun j hj' => by rcases Nat.lt_succ_iff_lt_or_eq.1 hj' with h | rfl; exact hj j h; simpa using hc⟩ (by omega) (.cons rfl (.cons rfl (.cons rfl (.cons rfl .nil)))) (fun _ h => h)))
      · try simp only [decide_eq_true_eq, decide_eq_false_iff_not, Int.not_lt, Int.not_le, Bool.not_eq_true', Bool.not_eq_false', Decidable.not_not, not_true_eq_false] at hc
        all_goals refine tc_exit ?_; ((refine hK2 ?_; try (clear hK2; clear K2)))
        all_goals refine tc_seq fun K10 hK10 => ?_; refine tc_region ?_; refine tl_q (y_assign rfl) rfl ?_; refine tl_nil ?_; ((refine hK10 ?_; try (clear hK10; clear K10)))
        all_goals refine tc_ret ?_; (repeat (first | refine tk_then_ret ?_))
        all_goals (refine tk_ret rfl rfl (.cons (.tmp rfl) .nil) ?_)
        all_goals (
         first | exact fun w' hw' => ⟨by rw [idxG_hit (d := 0) (k := k) (by rw [List.length_range]; omega) (by rw [rangeD (by omega)]; simpa using hc) (fun j hjk => by rw [rangeD (by omega)]; exact hj j hjk)]; rfl, hw'.fr (by simp)⟩ | exact fun w' hw' => ⟨by rw [idxG_miss (d := 0) (fun j hjj => by rw [List.length_range] at hjj; rw [rangeD (by omega)]; exact hj j (by omega))]; rfl, hw'.fr (by simp)⟩)))
theorem containsFuncSl_c (g : FuncId) [GoFn Tryz.prog g] (first cap : Array Value) (p : Nat → Bool) (us : List Sv) (hx : (us.length : Int) ≤ 9000000000000000000) (sl : Value) (w : World) (hr : RdS 1 svE w sl us) (ht : TestsN Tryz.prog us g first cap p w) :
    CnV Tryz.prog 122 #[sl, .func (.func g) first cap] w (.bool ((List.range us.length).any p)) := by
  refine cnv (vs := [_, _]) Tryz.func122 rfl rfl ?_
  all_goals refine tc_seq fun K1 hK1 => ?_; refine tc_region ?_; refine tl_q (y_assign rfl) rfl ?_; refine tl_nil ?_; ((refine hK1 ?_; try (clear hK1; clear K1)))
  all_goals refine tc_seq fun K2 hK2 => ?_; refine tc_region ?_; refine tl_q (y_move rfl) rfl ?_; refine tl_q (y_move rfl) rfl ?_; refine tl_e (e_callV rfl (.cons rfl (.cons rfl .nil)) (fun w' hw' => indexSl_c g first cap p us hx _ w' (hr.fr (hw'.fr (by simp))) (ht.fr (hw'.fr (by simp))))) rfl (fun _ _ => ?_); refine tl_q (y_geq rfl rfl) rfl ?_; refine tl_q (y_assign rfl) rfl ?_; refine tl_nil ?_; ((refine hK2 ?_; try (clear hK2; clear K2)))
  all_goals refine tc_ret ?_; (repeat (first | refine tk_then_ret ?_))
  all_goals (refine tk_ret rfl rfl (.cons (.tmp rfl) .nil) ?_)
  all_goals (
   exact fun w' hw' => ⟨by rw [← idxG_any]; rfl, hw'.fr (by simp)⟩)
theorem allSl1_c (g : FuncId) [GoFn Tryz.prog g] (first cap : Array Value) (p : Nat → Bool) (us : List Sv) (i : Nat) (hi : i < us.length) (b : Nat) (w : World) (hb : w.cell? ⟨b, 0, none⟩ = some (.func (.func g) first cap)) (ht : TestsN Tryz.prog us g first cap p w) :
    CnV Tryz.prog 123 #[(us.getD i sv0).1, .pointer (some ⟨b, 0, none⟩)] w (.bool (!(p i))) := by
  refine cnv (vs := [_, _]) Tryz.func123 rfl rfl ?_
  all_goals refine tc_seq fun K1 hK1 => ?_; refine tc_region ?_; refine tl_q (y_assign rfl) rfl ?_; refine tl_nil ?_; ((refine hK1 ?_; try (clear hK1; clear K1)))
  all_goals refine tc_seq fun K2 hK2 => ?_; refine tc_region ?_; refine tl_q (y_load1o rfl (fun w' hw' => (hw'.fr (S := []) (w0 := w) (by simp)).cell (by simp) hb)) rfl ?_; refine tl_q (y_move rfl) rfl ?_; refine tl_e (e_callVf rfl rfl (.cons rfl .nil) (fun w' hw' => ht i w' hi (hw'.fr (by simp)))) rfl (fun _ _ => ?_); refine tl_q (y_not rfl) rfl ?_; refine tl_q (y_assign rfl) rfl ?_; refine tl_nil ?_; ((refine hK2 ?_; try (clear hK2; clear K2)))
  all_goals refine tc_ret ?_; (repeat (first | refine tk_then_ret ?_))
  all_goals (refine tk_ret rfl rfl (.cons (.tmp rfl) .nil) ?_)
  all_goals (
   exact fun w' hw' => ⟨rfl, hw'.fr (by simp)⟩)
theorem allSl_c (g : FuncId) [GoFn Tryz.prog g] (first cap : Array Value) (p : Nat → Bool) (us : List Sv) (hx : (us.length : Int) ≤ 9000000000000000000) (sl : Value) (w : World) (hr : RdS 1 svE w sl us) (ht : TestsN Tryz.prog us g first cap p w) :
    CnV Tryz.prog 97 #[sl, .func (.func g) first cap] w (.bool ((List.range us.length).all p)) := by
  refine cnv (vs := [_, _]) Tryz.func97 rfl rfl ?_
  all_goals refine tc_seq fun K1 hK1 => ?_; refine tc_region ?_; refine tl_e (e_box rfl rfl rfl) rfl (fun b _ => ?_); refine tl_q (y_assign rfl) rfl ?_; refine tl_nil ?_; ((refine hK1 ?_; try (clear hK1; clear K1)))
  all_goals refine tc_seq fun K2 hK2 => ?_; refine tc_region ?_; refine tl_q (y_move rfl) rfl ?_; refine tl_q (y_fn .nil (.cons rfl .nil)) rfl ?_; refine tl_e (e_callV rfl (.cons rfl (.cons rfl .nil)) (fun w' hw' => containsFuncSl_c 123 #[] #[.pointer (some ⟨b, 0, none⟩)] (fun x => !(p x)) us hx _ w' (hr.fr (hw'.fr (by simp))) (fun i w2 hi f => by simpa using allSl1_c g first cap p us i hi b w2 (f.cell (by simp) (cellAt_cell? (hw'.heap _ (HM.mem (by repeat constructor))) rfl)) ((ht.fr (hw'.fr (by simp))).fr f)))) rfl (fun _ _ => ?_); refine tl_q (y_not rfl) rfl ?_; refine tl_q (y_assign rfl) rfl ?_; refine tl_nil ?_; ((refine hK2 ?_; try (clear hK2; clear K2)))
  all_goals refine tc_ret ?_; (repeat (first | refine tk_then_ret ?_))
  all_goals (refine tk_ret rfl rfl (.cons (.tmp rfl) .nil) ?_)
  all_goals (
   exact fun w' hw' => ⟨by simp [outV, List.all_eq_not_any_not], hw'.fr (by simp)⟩)
theorem mrhas_c (lo hi n : Int) (w : World) : CnV Tryz.prog 95 #[.agg #[vi lo, vi hi], vi n] w (.bool (decide (lo ≤ n ∧ n ≤ hi))) := by
  refine cnv (vs := [_, _]) Tryz.func95 rfl rfl ?_
  all_goals refine tc_seq fun K1 hK1 => ?_; refine tc_region ?_; refine tl_e (e_box rfl rfl rfl) rfl (fun b2 _ => ?_); refine tl_q (y_assign rfl) rfl ?_; refine tl_nil ?_; ((refine hK1 ?_; try (clear hK1; clear K1)))
  all_goals refine tc_seq fun K2 hK2 => ?_; refine tc_region ?_; refine tl_q (y_move rfl) rfl ?_; refine tl_q (y_field rfl) rfl ?_; refine tl_q (y_load1 rfl (by repeat constructor) (by rfl)) rfl ?_; refine tl_q (y_field rfl) rfl ?_; refine tl_q (y_load1 rfl (by repeat constructor) (by rfl)) rfl ?_; refine tl_e (e_callV rfl (.cons rfl (.cons rfl (.cons rfl .nil))) (fun w' _ => mwithin_c _ _ _ w')) rfl (fun _ _ => ?_); refine tl_q (y_assign rfl) rfl ?_; refine tl_nil ?_; ((refine hK2 ?_; try (clear hK2; clear K2)))
  all_goals refine tc_ret ?_; (repeat (first | refine tk_then_ret ?_))
  all_goals (refine tk_ret rfl rfl (.cons (.tmp rfl) .nil) ?_)
  all_goals (
   exact fun w' hw' => ⟨rfl, hw'.fr (w0 := w) (S := []) (MI.m (by repeat constructor))⟩)
abbrev kindF (a : Int) : Bool := decide (0 ≤ a ∧ a ≤ 3)
theorem listed1_c (n : Int) (w : World) : CnV Tryz.prog 96 #[vi n] w (.bool (kindF n)) := by
  refine cnv (vs := [_]) Tryz.func96 rfl rfl ?_
  all_goals refine tc_seq fun K1 hK1 => ?_; refine tc_region ?_; refine tl_q (y_assign rfl) rfl ?_; refine tl_nil ?_; ((refine hK1 ?_; try (clear hK1; clear K1)))
  all_goals refine tc_seq fun K2 hK2 => ?_; refine tc_region ?_; refine tl_q (y_move rfl) rfl ?_; refine tl_e (e_callV rfl (.cons rfl (.cons rfl (.cons rfl .nil))) (fun w' _ => mwithin_c _ _ _ w')) rfl (fun _ _ => ?_); refine tl_q (y_assign rfl) rfl ?_; refine tl_nil ?_; ((refine hK2 ?_; try (clear hK2; clear K2)))
  all_goals refine tc_ret ?_; (repeat (first | refine tk_then_ret ?_))
  all_goals (refine tk_ret rfl rfl (.cons (.tmp rfl) .nil) ?_)
  all_goals (
   exact fun w' hw' => ⟨rfl, hw'.fr (w0 := w) (S := []) (MI.m (by repeat constructor))⟩)
def actsF (s : Smp) (l : List Int) : Bool := decide ((l.length : Int) = s.L + 1) && l.all kindF
theorem listed2_c (s : Smp) (hl : 0 ≤ s.L ∧ s.L ≤ 9) (tv pv gv : Value) (b2 b7 : Nat) (l : List Int) (hll : l.length ≤ 100) (lv : Value) (w : World) (h2 : w.heap[b2]? = some (smO s tv pv gv)) (h7 : w.heap[b7]? = some (.cells #[.func (.func 96) #[] #[]] 98 (0, 0))) (hr : RdI w lv l) :
    CnV Tryz.prog 98 #[lv, ptr b2, ptr b7] w (.bool (actsF s l)) := by
  have hr0 := hr
  obtain ⟨ad, cp, b0, o, rfl, had, hcell⟩ := hr.open
  refine cnv (vs := [_, _, _]) Tryz.func98 rfl rfl ?_
  all_goals refine tc_seq fun K1 hK1 => ?_; refine tc_region ?_; refine tl_q (y_assign rfl) rfl ?_; refine tl_nil ?_; ((refine hK1 ?_; try (clear hK1; clear K1)))
  all_goals refine tc_seq fun K2 hK2 => ?_; refine tc_region ?_; refine tl_q (y_move rfl) rfl ?_; refine tl_q (y_len rfl) rfl ?_; refine tl_q (y_field rfl) rfl ?_; refine tl_q (y_load1o (v := vi s.L) rfl (fun w' hw' => cell0 ((hw'.fr (w0 := w) (S := []) (MI.m (by repeat constructor))).keep h2) rfl)) rfl ?_; refine tl_q (y_add rfl rfl (by omega)) rfl ?_; refine tl_q (y_eql rfl rfl) rfl ?_; refine tl_q (y_move rfl) rfl ?_; ((refine tl_gs rfl rfl (fun hc => ?_) (fun hc => ?_) <;> (try simp only [decide_eq_true_eq, decide_eq_false_iff_not, Int.not_lt, Int.not_le, Bool.not_eq_true', Bool.not_eq_false', Decidable.not_not, not_true_eq_false] at hc) <;> (first | refine tl_sk rfl rfl rfl rfl ?_ | refine tl_qg rfl rfl (y_move rfl) rfl ?_)))
  all_goals (first | refine tl_sk rfl rfl rfl rfl ?_ | refine tl_qg rfl rfl (y_load1o (v := .func (.func 96) #[] #[]) rfl (fun w' hw' => cell0 ((hw'.fr (w0 := w) (S := []) (MI.m (by repeat constructor))).keep h7) rfl)) rfl ?_); (first | refine tl_sk rfl rfl rfl rfl ?_ | refine tl_eg rfl rfl rfl (e_callV rfl (.cons rfl (.cons rfl .nil)) (fun w' hw' => allIn_c 96 #[] #[] kindF l (by omega) _ w' (hr0.fr (hw'.fr (w0 := w) (S := []) (MI.m (by repeat constructor)))) (fun x w2 _ => by simpa using listed1_c x w2))) (fun _ _ => ?_)); (first | refine tl_q (y_pick_t rfl rfl) rfl ?_ | refine tl_q (y_pick_f rfl rfl) rfl ?_); refine tl_q (y_assign rfl) rfl ?_; refine tl_nil ?_; ((refine hK2 ?_; try (clear hK2; clear K2)))
  all_goals refine tc_ret ?_; (repeat (first | refine tk_then_ret ?_))
  all_goals (refine tk_ret rfl rfl (.cons (.tmp rfl) .nil) ?_)
  all_goals (
   refine fun w' hw' => ⟨congrArg (fun b => Ending.returned (Value.bool b)) ?_, hw'.fr (w0 := w) (S := []) (MI.m (by repeat constructor))⟩
   unfold actsF
   first
   | (rw [decide_eq_true (by assumption)]; rfl)
   | (rw [decide_eq_false (by assumption)]; rfl))
end Go.Sp
/-
  Package sample: listed; played.
-/
namespace Go.Sp
open Go Go.Proofs
/-- Not too large for a machine. -/
structure ThT (t : Tth) : Prop where
  hs : t.hs.length ≤ 9
  an : t.ac.length ≤ 5
  al : ∀ j, j < t.ac.length → (t.ac.getD j []).length ≤ 15
def hrB (s : Smp) (t : Tth) (i : Nat) : Bool := decide ((s.ps.getD i pas0).lo ≤ t.hs.getD i 0 ∧ t.hs.getD i 0 ≤ (s.ps.getD i pas0).hi)
def lstF (s : Smp) (t : Tth) : Bool := (decide (t.hs.length = s.ps.length ∧ (t.ac.length : Int) = s.B) && (List.range s.ps.length).all (hrB s t)) && (List.range t.ac.length).all fun j => actsF s (t.ac.getD j [])
theorem lstF_1 {s : Smp} {t : Tth} (h : ¬ (t.hs.length = s.ps.length ∧ (t.ac.length : Int) = s.B)) : lstF s t = false := by
  unfold lstF; rw [decide_eq_false h]; rfl
theorem lstF_2 {s : Smp} {t : Tth} {i : Nat} (hi : i < s.ps.length) (h : ¬ ((s.ps.getD i pas0).lo ≤ t.hs.getD i 0 ∧ t.hs.getD i 0 ≤ (s.ps.getD i pas0).hi)) : lstF s t = false := by
  have : (List.range s.ps.length).all (hrB s t) = false := by
    cases hq : (List.range s.ps.length).all (hrB s t) with
    | false => rfl
    | true => exact absurd (of_decide_eq_true (List.all_eq_true.1 hq i (List.mem_range.2 hi))) h
  unfold lstF; rw [this, Bool.and_false, Bool.false_and]
theorem lstF_3 {s : Smp} {t : Tth} (h1 : t.hs.length = s.ps.length ∧ (t.ac.length : Int) = s.B) (h2 : ∀ i, i < s.ps.length → hrB s t i = true) : lstF s t = (List.range t.ac.length).all fun j => actsF s (t.ac.getD j []) := by
  unfold lstF
  rw [decide_eq_true h1, List.all_eq_true.2 fun i hi => h2 i (List.mem_range.1 hi)]; rfl
theorem inR_of : ∀ {ps : List Pas} {hs : List Int}, hs.length = ps.length → (∀ i, i < ps.length → (ps.getD i pas0).lo ≤ hs.getD i 0 ∧ hs.getD i 0 ≤ (ps.getD i pas0).hi) → InR ps hs
  | [], hs, h, _ => List.length_eq_zero_iff.1 h
  | p :: ps, [], h, _ => by cases h
  | p :: ps, a :: hs, h, hh => ⟨a, hs, rfl, hh 0 (by simp), inR_of (by simpa using h) fun i hi => hh (i + 1) (by simpa using hi)⟩
structure LstOk (s : Smp) (t : Tth) : Prop where
  l : Lst s t
  r : InR s.ps t.hs
  a3 : ∀ j, j < t.ac.length → ∀ a ∈ t.ac.getD j [], 0 ≤ a ∧ a ≤ 3
theorem actsF_ok {s : Smp} {l : List Int} (h : actsF s l = true) : (l.length : Int) = s.L + 1 ∧ ∀ a ∈ l, 0 ≤ a ∧ a ≤ 3 := by
  unfold actsF at h
  rw [Bool.and_eq_true] at h
  exact ⟨of_decide_eq_true h.1, fun a ha => of_decide_eq_true (List.all_eq_true.1 h.2 a ha)⟩
theorem lstF_ok {s : Smp} {t : Tth} (h : lstF s t = true) : LstOk s t := by
  unfold lstF at h
  rw [Bool.and_eq_true, Bool.and_eq_true] at h
  obtain ⟨⟨h1, h2⟩, h3⟩ := h
  have h1' := of_decide_eq_true h1
  have h4 := fun j hj => actsF_ok (List.all_eq_true.1 h3 j (List.mem_range.2 hj))
  exact ⟨⟨h1'.1, h1'.2, fun j hj => (h4 j hj).1⟩, inR_of h1'.1 fun i hi => of_decide_eq_true (List.all_eq_true.1 h2 i (List.mem_range.2 hi)), fun j hj => (h4 j hj).2⟩
theorem listed_c (s : Smp) (hf : Few s) (hv : VSm s) (t : Tth) (ht : ThT t) (tv pv gv hvv avv : Value) (w : World) (hr : RdSm w s tv pv gv) (hrt : RdTh w t hvv avv) :
    CnV Tryz.prog 77 #[smV s tv pv gv, tV hvv avv] w (.bool (lstF s t)) := by
  have hr0 := hr
  have hl0 := hv.l0
  have hl9 := hv.l9
  have hn6 := hv.n6
  have hot := hr.st.one
  have hog := hr.sg.one
  have hth := ht.hs
  have hta := ht.an
  obtain ⟨adp, cpp, bp, op, rfl, hadp, hcp⟩ := hr.ps.open psE_len pas0
  obtain ⟨adh, cph, bh, oh, rfl, hadh, hch⟩ := hrt.hs.open
  obtain ⟨us, hus, hul, hue⟩ := hrt.ac
  have hus0 := hus
  obtain ⟨ada, cpa, _, _, rfl, _, _⟩ := hus.open svE_len sv0
  refine cnv (vs := [_, _]) Tryz.func77 rfl rfl ?_
  all_goals refine tc_seq fun K1 hK1 => ?_; refine tc_region ?_; refine tl_e (e_box rfl rfl rfl) rfl (fun b2 _ => ?_); refine tl_e (e_box rfl rfl rfl) rfl (fun b3 _ => ?_); refine tl_q (y_assign rfl) rfl ?_; refine tl_nil ?_; ((refine hK1 ?_; try (clear hK1; clear K1)))
  all_goals refine tc_seq fun K2 hK2 => ?_; refine tc_seq fun K3 hK3 => ?_; refine tc_region ?_; refine tl_q (y_field rfl) rfl ?_; refine tl_q (y_load1 rfl (by repeat constructor) (by rfl)) rfl ?_; refine tl_q (y_len rfl) rfl ?_; refine tl_q (y_field rfl) rfl ?_; refine tl_q (y_load1 rfl (by repeat constructor) (by rfl)) rfl ?_; refine tl_q (y_len rfl) rfl ?_; refine tl_q (y_neq rfl rfl) rfl ?_; refine tl_q (y_move rfl) rfl ?_; ((refine tl_gs rfl rfl (fun hc => ?_) (fun hc => ?_) <;> (try simp only [decide_eq_true_eq, decide_eq_false_iff_not, Int.not_lt, Int.not_le, Bool.not_eq_true', Bool.not_eq_false', Decidable.not_not, not_true_eq_false] at hc) <;> (first | refine tl_sk rfl rfl rfl rfl ?_ | refine tl_qg rfl rfl (y_field rfl) rfl ?_)))
  all_goals (first | refine tl_sk rfl rfl rfl rfl ?_ | refine tl_qg rfl rfl (y_load1 rfl (by repeat constructor) (by rfl)) rfl ?_); (first | refine tl_sk rfl rfl rfl rfl ?_ | refine tl_qg rfl rfl (y_len rfl) rfl ?_); (first | refine tl_sk rfl rfl rfl rfl ?_ | refine tl_qg rfl rfl (y_field rfl) rfl ?_); (first | refine tl_sk rfl rfl rfl rfl ?_ | refine tl_qg rfl rfl (y_load1 rfl (by repeat constructor) (by rfl)) rfl ?_); (first | refine tl_sk rfl rfl rfl rfl ?_ | refine tl_qg rfl rfl (y_neq rfl rfl) rfl ?_); (first | refine tl_q (y_pick_t rfl rfl) rfl ?_ | refine tl_q (y_pick_f rfl rfl) rfl ?_); refine tl_nil ?_; ((refine hK3 ?_; try (clear hK3; clear K3)))
  all_goals (
   refine tc_cond rfl (fun hc => ?_) (fun hc => ?_)
   · try simp only [decide_eq_true_eq, decide_eq_false_iff_not, Int.not_lt, Int.not_le, Bool.not_eq_true', Bool.not_eq_false', Decidable.not_not, not_true_eq_false] at hc
     all_goals refine tc_seq fun K4 hK4 => ?_; refine tc_region ?_; refine tl_q (y_assign rfl) rfl ?_; refine tl_nil ?_; ((refine hK4 ?_; try (clear hK4; clear K4)))
     all_goals refine tc_ret ?_; (repeat (refine tk_then_ret ?_))
     all_goals (refine tk_ret rfl rfl (.cons (.tmp rfl) .nil) ?_)
     all_goals (
      first
      | (have hE : lstF s t = false := lstF_1 (by omega)
         rw [hE]
         exact fun w' hw' => ⟨rfl, hw'.fr (w0 := w) (S := []) (MI.m (by repeat constructor))⟩)
      | (have hE : lstF s t = false := lstF_2 (i := k) (by omega) (by omega)
         rw [hE]
         exact fun w' hw' => ⟨rfl, hw'.fr (w0 := w) (S := []) (MI.m (by repeat constructor))⟩)
      | (have hE := lstF_3 (s := s) (t := t) ⟨by omega, by omega⟩ (fun i hi => hkj i (by omega))
         rw [hE, ← hul]
         exact fun w' hw' => ⟨rfl, hw'.fr (w0 := w) (S := []) (MI.m (by repeat constructor))⟩))
   · try simp only [decide_eq_true_eq, decide_eq_false_iff_not, Int.not_lt, Int.not_le, Bool.not_eq_true', Bool.not_eq_false', Decidable.not_not, not_true_eq_false] at hc
     all_goals ((first | (exfalso; with_reducible exact btf hc) | skip))
     all_goals refine tc_skip ?_; ((refine hK2 ?_; try (clear hK2; clear K2)))
     all_goals refine tc_seq fun K5 hK5 => ?_; refine tc_seq fun K6 hK6 => ?_; refine tc_region ?_; refine tl_q (y_field rfl) rfl ?_; refine tl_q (y_load1 rfl (by repeat constructor) (by rfl)) rfl ?_; refine tl_q (y_len rfl) rfl ?_; refine tl_q (y_move rfl) rfl ?_; refine tl_nil ?_; ((refine hK6 ?_; try (clear hK6; clear K6)))
     all_goals refine tc_block ?_
     all_goals (
      refine tc_loop (fun k : Nat => k ≤ s.ps.length ∧ ∀ j, j < k → hrB s t j = true) (fun k => [(2, ptr b2), (3, ptr b3), (24, .slice adp s.ps.length cpp), (25, vi s.ps.length), (26, vi k)]) (fun _ => [(w, [])]) (fun _ => [(b3, .cells #[.slice adh t.hs.length cph, .slice ada us.length cpa] 83 (0, 0)), (b2, .cells #[vi s.B, vi s.P, vi s.L, vi s.F, tv, .slice adp s.ps.length cpp, gv] 36 (0, 0))]) (fun k => s.ps.length - k) ?_ ?_
      · exact tk_start 0 ⟨Nat.zero_le _, fun j hj => absurd hj (Nat.not_lt_zero j)⟩ (.cons rfl (.cons rfl (.cons rfl (.cons rfl (.cons rfl .nil))))) (fun _ h => h.subl (SB.s (by repeat constructor)) (SB.s (by repeat constructor)))
      · rintro k ⟨hk, hkj⟩
        all_goals refine tc_seq fun K7 hK7 => ?_; refine tc_region ?_; refine tl_q (y_lss rfl rfl) rfl ?_; refine tl_nil ?_; ((refine hK7 ?_; try (clear hK7; clear K7)))
        all_goals refine tc_seq fun K8 hK8 => ?_
        all_goals (
         refine tc_cond rfl (fun hc => ?_) (fun hc => ?_)
         · try simp only [decide_eq_true_eq, decide_eq_false_iff_not, Int.not_lt, Int.not_le, Bool.not_eq_true', Bool.not_eq_false', Decidable.not_not, not_true_eq_false] at hc
           all_goals refine tc_skip ?_; ((refine hK8 ?_; try (clear hK8; clear K8)))
           all_goals refine tc_seq fun K9 hK9 => ?_; refine tc_block ?_; refine tc_seq fun K10 hK10 => ?_; refine tc_region ?_; refine tl_q (y_move rfl) rfl ?_; refine tl_q (y_index rfl rfl (by omega) (hadp (by omega))) rfl ?_; ((refine tl_q (y_loadNo (n := 5) (vs := [vi (s.ps.getD k pas0).b, vi (s.ps.getD k pas0).fr, vi (s.ps.getD k pas0).to, vi (s.ps.getD k pas0).lo, vi (s.ps.getD k pas0).hi]) rfl (fun w' hw' => by rw [show Int.toNat (k : Int) * 5 = k * 5 from by omega]; exact hcp w' [] (hw'.fr (w0 := w) (S := []) (MI.m (by repeat constructor))) (by simp) k (by omega))) rfl ?_))
           all_goals refine tl_e (e_allocN rfl) rfl (fun b6 _ => ?_); refine tl_q (y_assign rfl) rfl ?_; refine tl_e (e_storeW rfl rfl (by repeat constructor) (by rfl) (by rfl) (by simp [Value.oneCell'])) rfl (fun _ _ => ?_); refine tl_nil ?_; ((refine hK10 ?_; try (clear hK10; clear K10)))
           all_goals refine tc_seq fun K11 hK11 => ?_; refine tc_draw (by kernel_rfl) ?_; refine tx_p 0 rfl (by kernel_rfl) (y_field rfl) rfl (fun _ _ _ h => h) (fun _ h => h) ?_; ((refine tx_q 1 rfl (by kernel_rfl) (y_loadN rfl (by repeat constructor) (by (repeat (first | exact .nil | apply CA.cons rfl)); done)) rfl (fun _ _ _ h => h) (fun _ h => h) ?_))
           all_goals refine tx_p 2 rfl (by kernel_rfl) (y_field rfl) rfl (fun _ _ _ h => h) (fun _ h => h) ?_; refine tx_q 3 rfl (by kernel_rfl) (y_load1 rfl (by repeat constructor) (by rfl)) rfl (fun _ _ _ h => h) (fun _ h => h) ?_; refine tx_p 4 rfl (by kernel_rfl) (y_move rfl) rfl (fun _ _ _ h => h) (fun _ h => h) ?_; refine tx_p 5 rfl (by kernel_rfl) (y_index rfl rfl (by omega) (hadh (by omega))) rfl (fun _ _ _ h => h) (fun _ h => h) ?_; ((refine tx_q 6 rfl (by kernel_rfl) (y_load1o (v := vi (t.hs.getD k 0)) rfl (fun w' hw' => by rw [show Int.toNat (k : Int) * 1 = k from by omega]; exact hch w' (hw'.fr (w0 := w) (S := []) (MI.m (by repeat constructor))) k (by omega))) rfl (fun _ _ _ h => h) (fun _ h => h) ?_))
           all_goals refine tx_e 7 rfl (by kernel_rfl) rfl (e_callV rfl (.cons rfl (.cons rfl .nil)) (fun w' _ => mrhas_c _ _ _ w')) (.inr fun _ _ h => h) (fun _ _ => ?_); refine tx_p 8 rfl (by kernel_rfl) (y_not_dec rfl) rfl (fun _ _ _ h => h) (fun _ h => h) ?_; refine tx_done (by kernel_rfl) ?_; ((refine hK11 ?_; try (clear hK11; clear K11)))
           all_goals (
            refine tc_cond rfl (fun hc => ?_) (fun hc => ?_)
            · try simp only [decide_eq_true_eq, decide_eq_false_iff_not, Int.not_lt, Int.not_le, Bool.not_eq_true', Bool.not_eq_false', Decidable.not_not, not_true_eq_false] at hc
              all_goals refine tc_seq fun K12 hK12 => ?_; refine tc_region ?_; refine tl_q (y_assign rfl) rfl ?_; refine tl_nil ?_; ((refine hK12 ?_; try (clear hK12; clear K12)))
              all_goals refine tc_ret ?_; (repeat (first | refine tk_then_ret ?_ | refine tk_block_ret ?_))
              all_goals (refine tk_ret rfl rfl (.cons (.tmp rfl) .nil) ?_)
              all_goals (
               first
               | (have hE : lstF s t = false := lstF_1 (by omega)
                  rw [hE]
                  exact fun w' hw' => ⟨rfl, hw'.fr (w0 := w) (S := []) (MI.m (by repeat constructor))⟩)
               | (have hE : lstF s t = false := lstF_2 (i := k) (by omega) (by omega)
                  rw [hE]
                  exact fun w' hw' => ⟨rfl, hw'.fr (w0 := w) (S := []) (MI.m (by repeat constructor))⟩)
               | (have hE := lstF_3 (s := s) (t := t) ⟨by omega, by omega⟩ (fun i hi => hkj i (by omega))
                  rw [hE, ← hul]
                  exact fun w' hw' => ⟨rfl, hw'.fr (w0 := w) (S := []) (MI.m (by repeat constructor))⟩))
            · try simp only [decide_eq_true_eq, decide_eq_false_iff_not, Int.not_lt, Int.not_le, Bool.not_eq_true', Bool.not_eq_false', Decidable.not_not, not_true_eq_false] at hc
              all_goals refine tc_skip ?_; ((refine hK9 ?_; try (clear hK9; clear K9)))
              all_goals refine tc_region ?_; refine tl_q (y_add rfl rfl (by omega)) rfl ?_; refine tl_q (y_move rfl) rfl ?_; refine tl_nil ?_
              all_goals (
               exact tk_round (k + 1) ⟨by omega, fun j hj => by rcases Nat.lt_succ_iff_lt_or_eq.1 hj with h | rfl; exact hkj j h; exact decide_eq_true (by omega)⟩ (by omega) (.cons rfl (.cons rfl (.cons rfl (.cons rfl (.cons rfl .nil))))) (fun _ h => h.subl (SB.s (by repeat constructor)) (SB.s (by repeat constructor)))))
         · try simp only [decide_eq_true_eq, decide_eq_false_iff_not, Int.not_lt, Int.not_le, Bool.not_eq_true', Bool.not_eq_false', Decidable.not_not, not_true_eq_false] at hc
           all_goals refine tc_exit ?_; ((refine hK5 ?_; try (clear hK5; clear K5)))
           all_goals refine tc_seq fun K13 hK13 => ?_; refine tc_region ?_; refine tl_e (e_alloc1 rfl) rfl (fun b7 _ => ?_); refine tl_e (e_store1 rfl rfl (by repeat constructor) (by repeat constructor) (by rfl) (by rfl)) rfl (fun _ _ => ?_); refine tl_nil ?_; ((refine hK13 ?_; try (clear hK13; clear K13)))
           all_goals refine tc_seq fun K14 hK14 => ?_; refine tc_region ?_; refine tl_q (y_field rfl) rfl ?_; refine tl_q (y_load1 rfl (by repeat constructor) (by rfl)) rfl ?_; refine tl_q (y_fn .nil (.cons rfl (.cons rfl .nil))) rfl ?_; (refine tl_e (e_callV rfl (.cons rfl (.cons rfl .nil)) (fun w' hw' => allSl_c 98 #[] #[ptr b2, ptr b7] (fun j => actsF s (t.ac.getD j [])) us (by omega) _ w' (hus0.fr (hw'.fr (w0 := w) (S := []) (MI.m (by repeat constructor)))) (fun i w2 hi f => by have := ht.al i (by omega); have h := listed2_c s ⟨hl0, hl9⟩ tv (.slice adp s.ps.length cpp) gv b2 b7 (t.ac.getD i []) (by omega) (us.getD i sv0).1 w2 (f.keep (hw'.heap _ (HM.mem (b := b2) (by repeat constructor)))) (f.keep (hw'.heap _ (HM.mem (b := b7) (by repeat constructor)))) (((hue i (by omega)).fr (hw'.fr (w0 := w) (S := []) (MI.m (by repeat constructor)))).fr f).toI; simpa using h))) rfl (fun _ _ => ?_))
           all_goals refine tl_q (y_assign rfl) rfl ?_; refine tl_nil ?_; ((refine hK14 ?_; try (clear hK14; clear K14)))
           all_goals refine tc_ret ?_; (repeat (first | refine tk_then_ret ?_))
           all_goals (refine tk_ret rfl rfl (.cons (.tmp rfl) .nil) ?_)
           all_goals (
            first
            | (have hE : lstF s t = false := lstF_1 (by omega)
               rw [hE]
               exact fun w' hw' => ⟨rfl, hw'.fr (w0 := w) (S := []) (MI.m (by repeat constructor))⟩)
            | (have hE : lstF s t = false := lstF_2 (i := k) (by omega) (by omega)
               rw [hE]
               exact fun w' hw' => ⟨rfl, hw'.fr (w0 := w) (S := []) (MI.m (by repeat constructor))⟩)
            | (have hE := lstF_3 (s := s) (t := t) ⟨by omega, by omega⟩ (fun i hi => hkj i (by omega))
               rw [hE, ← hul]
               exact fun w' hw' => ⟨rfl, hw'.fr (w0 := w) (S := []) (MI.m (by repeat constructor))⟩)))))
theorem whN_pad {s : Smp} {b : Int} {l acts : List Int} : ∀ h, h ≤ l.length → whN s b (padC l) acts h = whN s b l acts h
  | 0, _ => rfl
  | h + 1, hh => by rw [whN, whN, whN_pad h (by omega), stB_pad (c := l) (by omega)]
theorem y_fieldAct {F : List (Nat × Value)} {bs : List (World × List Nat)} {H : List (Nat × Obj)} {d : Option Tmp} {ty : TypeId} {pos : String} {after : Array Edge} {g : Option (Nat × Bool)} {x : Operand} {v c : Value} (hx : evalO F x = some (.agg #[v, c])) :
    OpY Tryz.prog ⟨d, .field 145 x 0, ty, pos, after, g⟩ F bs H v := by
  unfold OpY
  intro N a w ht hw
  have hp : (part 143 #[v, c] 0).run Tryz.prog w = .ok v w := by simp [part, isAgg_run Tryz.underlying143, aggD, Result.andThen]
  simp [execOp, ht.eval hx, Instr.field, underlying_run Tryz.underlying145, Result.andThen, asAgg, hp]
theorem played_c (s : Smp) (hf : Few s) (hv : VSm s) (b : Int) (c : List Int) (hco : ChOk s c) (acts : List Int) (hal : (acts.length : Int) = s.L + 1) (ha3 : ∀ a ∈ acts, 0 ≤ a ∧ a ≤ 3) (tv pv gv av : Value) (w : World) (hr : RdSm w s tv pv gv) (hra : RdI w av acts) :
    CnX Tryz.prog 79 #[smV s tv pv gv, vi b, .agg (isV c), av] w [] (fun y : Option Addr × Nat => .tuple #[slV (((whN s b c acts acts.length).map Prod.fst).getD []).length y, .bool (whN s b c acts acts.length).isSome])
      (fun y w' => RdS 1 boE w' (slV (((whN s b c acts acts.length).map Prod.fst).getD []).length y) (((whN s b c acts acts.length).map Prod.fst).getD []) ∧ NewS w (slV (((whN s b c acts acts.length).map Prod.fst).getD []).length y)) := by
  have hr0 := hr
  have hl0 := hv.l0
  have hl9 := hv.l9
  have hstl := hv.st
  have hcl := hco.len
  obtain ⟨adt, cpt, bt, ot, rfl, hadt, hct⟩ := hr.st.open boE_len false
  obtain ⟨ada, cpa, ba, oa, rfl, hada, hca⟩ := hra.open
  have hone : (Value.oneCell' (.slice adt s.st.length cpt) = true ∧ pv.oneCell' = true) ∧ gv.oneCell' = true := ⟨⟨rfl, hr.ps.one⟩, hr.sg.one⟩
  refine cnx0 (vs := [_, _, _, _]) Tryz.func79 rfl rfl ?_
  all_goals refine tc_seq fun K1 hK1 => ?_; refine tc_region ?_; refine tl_e (e_box rfl rfl rfl) rfl (fun b4 _ => ?_); refine tl_e (e_box rfl rfl rfl) rfl (fun b6 _ => ?_); refine tl_q (y_assign rfl) rfl ?_; refine tl_q (y_assign rfl) rfl ?_; refine tl_nil ?_; ((refine hK1 ?_; try (clear hK1; clear K1)))
  all_goals refine tc_seq fun K2 hK2 => ?_; refine tc_region ?_; refine tl_q (y_assign rfl) rfl ?_; refine tl_nil ?_; ((refine hK2 ?_; try (clear hK2; clear K2)))
  all_goals refine tc_seq fun K3 hK3 => ?_; refine tc_seq fun K4 hK4 => ?_; refine tc_region ?_; refine tl_q (y_move rfl) rfl ?_; refine tl_q (y_len rfl) rfl ?_; refine tl_q (y_move rfl) rfl ?_; refine tl_nil ?_; ((refine hK4 ?_; try (clear hK4; clear K4)))
  all_goals refine tc_block ?_
  all_goals (
   refine tc_loop (fun p : Nat × (List Bool × Bool) × OwnB => (p.1 ≤ acts.length ∧ whN s b c acts p.1 = some p.2.1) ∧ okE 1 p.2.1.1 p.2.2) (fun p => [(1, vi b), (4, ptr b4), (6, ptr b6), (8, ouV p.2.1.1.length p.2.2), (10, .bool p.2.1.2), (13, .slice ada acts.length cpa), (14, vi acts.length), (15, vi p.1)]) (fun _ => [(w, [])]) (fun p => (b6, .cells (isV c) 124 (0, 0)) :: (b4, .cells #[vi s.B, vi s.P, vi s.L, vi s.F, .slice adt s.st.length cpt, pv, gv] 36 (0, 0)) :: slE 4 boE p.2.1.1 p.2.2) (fun p => acts.length - p.1) ?_ ?_
   · exact tk_start (0, ([], false), none) ⟨⟨Nat.zero_le _, rfl⟩, rfl⟩ (.cons rfl (.cons rfl (.cons rfl (.cons rfl (.cons rfl (.cons rfl (.cons rfl (.cons rfl .nil)))))))) (fun _ h => by rw [slE_none]; exact h.subl (SB.s (by repeat constructor)) (SB.s (by repeat constructor)))
   · rintro ⟨h, ⟨ws, br⟩, oo⟩ ⟨⟨hh, hwn⟩, hok⟩
     dsimp only at hh hwn hok ⊢
     have hwl := whN_len hwn
     dsimp only at hwl
     all_goals refine tc_seq fun K5 hK5 => ?_; refine tc_region ?_; refine tl_q (y_lss rfl rfl) rfl ?_; refine tl_nil ?_; ((refine hK5 ?_; try (clear hK5; clear K5)))
     all_goals refine tc_seq fun K6 hK6 => ?_
     all_goals (
      refine tc_cond rfl (fun hc => ?_) (fun hc => ?_)
      · try simp only [decide_eq_true_eq, decide_eq_false_iff_not, Int.not_lt, Int.not_le, Bool.not_eq_true', Bool.not_eq_false', Decidable.not_not, not_true_eq_false] at hc
        all_goals refine tc_skip ?_; ((refine hK6 ?_; try (clear hK6; clear K6)))
        all_goals refine tc_seq fun K7 hK7 => ?_; refine tc_block ?_; refine tc_seq fun K8 hK8 => ?_; ((have hlt : h < acts.length := (by omega); have hpp := hco.pp h (by omega); have h3 := ha3 _ (getD_memG (d := 0) hlt)))
        all_goals (obtain ⟨n, hn⟩ : ∃ n : Nat, (n : Int) = acts.getD h 0 := ⟨(acts.getD h 0).toNat, by omega⟩)
        all_goals ((have hn4 : n < 4 := (by omega); haveI := actId_fn n; obtain ⟨st, hst⟩ : ∃ st, stB s c h = st := ⟨_, rfl⟩))
        all_goals ((have hcell : ∀ w', Fr [] w w' → w'.cell? ⟨bt, ot + (c.getD h 0).toNat * 1, none⟩ = some (.bool st) := fun w' f => by have hx := (hct w' [] f (by simp) (c.getD h 0).toNat (by omega)).get 0 _ rfl; rw [← hst]; exact hx))
        all_goals (have hcs := cellAt_is (l := c) (e := 124) (f := (0, 0)) (o := h) (by omega))
        all_goals refine tc_region ?_; refine tl_q (y_move rfl) rfl ?_; refine tl_q (y_index rfl rfl (by omega) (hada (by omega))) rfl ?_; ((refine tl_q (y_load1o (v := vi (acts.getD h 0)) rfl (fun w' hw' => by rw [show Int.toNat (h : Int) * 1 = h from by omega]; exact hca w' (hw'.fr (w0 := w) (S := []) (MI.m (by repeat constructor))) h hlt)) rfl ?_))
        all_goals refine tl_q (y_assign rfl) rfl ?_; refine tl_q (y_assign rfl) rfl ?_; refine tl_nil ?_; ((refine hK8 ?_; try (clear hK8; clear K8)))
        all_goals refine tc_seq fun K9 hK9 => ?_; refine tc_seq fun K10 hK10 => ?_; refine tc_draw (by kernel_rfl) ?_; refine tx_p 1 rfl (by kernel_rfl) (y_move rfl) rfl (fun _ _ _ h => h) (fun _ h => h) ?_; refine tx_p 4 rfl (by kernel_rfl) (y_move rfl) rfl (fun _ _ _ h => h) (fun _ h => h) ?_; refine tx_p 5 rfl (by kernel_rfl) (y_field rfl) rfl (fun _ _ _ h => h) (fun _ h => h) ?_; refine tx_q 6 rfl (by kernel_rfl) (y_load1 rfl (by repeat constructor) (by rfl)) rfl (fun _ _ _ h => h) (fun _ h => h) ?_; refine tx_p 7 rfl (by kernel_rfl) (y_move rfl) rfl (fun _ _ _ h => h) (fun _ h => h) ?_; refine tx_p 8 rfl (by kernel_rfl) (y_indexA rfl rfl (by omega)) rfl (fun _ _ _ h => h) (fun _ h => h) ?_; ((refine tx_q 9 rfl (by kernel_rfl) (y_load1 (v := vi (c.getD h 0)) rfl (by repeat constructor) (by rw [show 0 + Int.toNat (h : Int) * 1 = h from by omega]; exact hcs)) rfl (fun _ _ _ h => h) (fun _ h => h) ?_))
        all_goals (refine tx_p 10 rfl (by kernel_rfl) (y_index rfl rfl (by omega) (hadt (by omega))) rfl (fun _ _ _ h => h) (fun _ h => h) ?_); refine tx_q 11 rfl (by kernel_rfl) (y_load1o (v := .bool st) rfl (fun w' hw' => hcell w' (hw'.fr (w0 := w) (S := []) (MI.m (by repeat constructor))))) rfl (fun _ _ _ h => h) (fun _ h => h) ?_; refine tx_p 12 rfl (by kernel_rfl) (y_build_g (by repeat constructor)) rfl (fun _ _ _ h => h) (fun _ h => h) ?_; refine tx_e 0 rfl (by kernel_rfl) rfl (e_callV rfl .nil (fun w' _ => acts_c w')) (.inr fun _ _ h => h) (fun _ _ => ?_); refine tx_q 2 rfl (by kernel_rfl) (y_indexG rfl rfl (by omega) (acts_at (n := n) hn4 hn.symm)) rfl (fun _ _ _ h => h) (fun _ h => h) ?_; refine tx_q 3 rfl (by kernel_rfl) (y_fieldAct rfl) rfl (fun _ _ _ h => h) (fun _ h => h) ?_; refine tx_e 13 rfl (by kernel_rfl) rfl (e_callVf rfl rfl (.cons rfl .nil) (fun w' _ => act_c n br st w')) (.inr fun _ _ h => h) (fun _ _ => ?_); refine tx_p 14 rfl (by kernel_rfl) (y_move rfl) rfl (fun _ _ _ h => h) (fun _ h => h) ?_; refine tx_p 15 rfl (by kernel_rfl) (y_extract rfl rfl) rfl (fun _ _ _ h => h) (fun _ h => h) ?_; refine tx_p 16 rfl (by kernel_rfl) (y_extract rfl rfl) rfl (fun _ _ _ h => h) (fun _ h => h) ?_; refine tx_p 17 rfl (by kernel_rfl) (y_assign rfl) rfl (fun _ _ _ h => h) (fun _ h => h) ?_; refine tx_p 18 rfl (by kernel_rfl) (y_assign rfl) rfl (fun _ _ _ h => h) (fun _ h => h) ?_; refine tx_done (by kernel_rfl) ?_; ((refine hK10 ?_; try (clear hK10; clear K10)))
        all_goals refine tc_seq fun K11 hK11 => ?_; refine tc_region ?_; refine tl_q (y_move rfl) rfl ?_; refine tl_q (y_not rfl) rfl ?_; refine tl_q (y_move rfl) rfl ?_; ((refine tl_gs rfl rfl (fun hc => ?_) (fun hc => ?_) <;> (try simp only [decide_eq_true_eq, decide_eq_false_iff_not, Int.not_lt, Int.not_le, Bool.not_eq_true', Bool.not_eq_false', Decidable.not_not, not_true_eq_false] at hc) <;> (first | refine tl_sk rfl rfl rfl rfl ?_ | refine tl_qg rfl rfl (y_loadW rfl (by repeat constructor) (by rfl)) rfl ?_)))
        all_goals (first | refine tl_sk rfl rfl rfl rfl ?_ | refine tl_qg rfl rfl (y_move rfl) rfl ?_); (first | refine tl_sk rfl rfl rfl rfl ?_ | refine tl_qg rfl rfl (y_move rfl) rfl ?_); (first | refine tl_sk rfl rfl rfl rfl ?_ | refine tl_qg rfl rfl (y_move rfl) rfl ?_); (first | refine tl_sk rfl rfl rfl rfl ?_ | refine tl_eg rfl rfl rfl (e_callV rfl (.cons rfl (.cons rfl (.cons rfl (.cons rfl .nil)))) (fun w' hw' => seen_c s hf.sg b h (actY br n) _ pv gv hone w' (hr0.sg.fr (hw'.fr (w0 := w) (S := []) (MI.m (by repeat constructor)))))) (fun _ _ => ?_)); (first | refine tl_sk rfl rfl rfl rfl ?_ | refine tl_qg rfl rfl (y_not rfl) rfl ?_); (first | refine tl_q (y_pick_t rfl rfl) rfl ?_ | refine tl_q (y_pick_f rfl rfl) rfl ?_); refine tl_nil ?_; ((refine hK11 ?_; try (clear hK11; clear K11)))
        all_goals (
         refine tc_cond rfl (fun hc => ?_) (fun hc => ?_)
         · try simp only [decide_eq_true_eq, decide_eq_false_iff_not, Int.not_lt, Int.not_le, Bool.not_eq_true', Bool.not_eq_false', Decidable.not_not, not_true_eq_false] at hc
           all_goals refine tc_seq fun K12 hK12 => ?_; refine tc_region ?_; refine tl_q (y_assign rfl) rfl ?_; refine tl_q (y_assign rfl) rfl ?_; refine tl_nil ?_; ((refine hK12 ?_; try (clear hK12; clear K12)))
           all_goals refine tc_ret ?_; (repeat (first | refine tk_then_ret ?_ | refine tk_block_ret ?_))
           all_goals (refine tk_ret rfl rfl (.cons (.tmp rfl) (.cons (.tmp rfl) .nil)) ?_)
           all_goals (
            first
            | (obtain rfl : h = acts.length := by omega
               rw [hwn]
               exact fun w' hw' => ⟨ouA oo, rfl, hw'.fr (w0 := w) (S := []) (MI.m (by repeat constructor)), RdS.ofO boE_len hok hw' (by repeat constructor), NewS.ofO hw' (by repeat constructor) (MI.m (by repeat constructor))⟩)
            | (have hs : whN s b c acts (h + 1) = none := by
                 rw [whN, hwn]
                 simp only
                 rw [← hn, acIs_nat br _ hn4, acY_nat br hn4, hst]
                 exact if_neg (fun g => by simp_all)
               rw [whN_none hs _ (by omega)]
               exact fun w' hw' => ⟨(none, 0), rfl, hw'.fr (w0 := w) (S := []) (MI.m (by repeat constructor)), RdS.nil _ _ _ _, NewS.nil _ _ _⟩))
         · try simp only [decide_eq_true_eq, decide_eq_false_iff_not, Int.not_lt, Int.not_le, Bool.not_eq_true', Bool.not_eq_false', Decidable.not_not, not_true_eq_false] at hc
           all_goals ((first | (exfalso; with_reducible exact btf hc) | skip))
           all_goals refine tc_skip ?_; ((refine hK9 ?_; try (clear hK9; clear K9)))
           all_goals refine tc_region ?_; refine tl_q (y_move rfl) rfl ?_; refine tl_q (y_move rfl) rfl ?_; refine tl_q (y_not rfl) rfl ?_; ((refine tl_e (e_bslice rfl (by (repeat (first | exact .nil | apply PV.one rfl rfl)); done) rfl rfl) rfl (fun _ _ => ?_)))
           all_goals (refine tl_e (e_appendE (enc := boE) (xs := ws) (ys := [!actY br n]) boE_len boE_one rfl rfl rfl hok (fun _ => by repeat constructor) (fun w' hw' => RdS.own0 boE_len hw' (by repeat constructor)) (by simp only [List.length_cons, List.length_nil]; omega) rfl) rfl (fun oo' hok' => ?_))
           all_goals refine tl_q (y_assign rfl) rfl ?_; refine tl_nil ?_; ((refine hK7 ?_; try (clear hK7; clear K7)))
           all_goals refine tc_region ?_; refine tl_q (y_add rfl rfl (by omega)) rfl ?_; refine tl_q (y_move rfl) rfl ?_; refine tl_nil ?_
           all_goals (
            have hs : whN s b c acts (h + 1) = some (ws ++ [!actY br n], actY br n) := by
              rw [whN, hwn]
              simp only
              rw [← hn, acIs_nat br _ hn4, acY_nat br hn4, hst]
              exact if_pos ⟨by assumption, by assumption⟩
            exact tk_round (h + 1, (ws ++ [!actY br n], actY br n), oo') ⟨⟨by dsimp only; omega, hs⟩, hok'⟩ (by dsimp only; omega) (.cons rfl (.cons rfl (.cons rfl (.cons rfl (.cons rfl (.cons rfl (.cons rfl (.cons rfl .nil)))))))) (fun _ h => h.subl (SB.s (by repeat constructor)) (SB.s (by repeat constructor)))))
      · try simp only [decide_eq_true_eq, decide_eq_false_iff_not, Int.not_lt, Int.not_le, Bool.not_eq_true', Bool.not_eq_false', Decidable.not_not, not_true_eq_false] at hc
        all_goals refine tc_exit ?_; ((refine hK3 ?_; try (clear hK3; clear K3)))
        all_goals refine tc_seq fun K13 hK13 => ?_; refine tc_region ?_; refine tl_q (y_move rfl) rfl ?_; refine tl_q (y_assign rfl) rfl ?_; refine tl_q (y_assign rfl) rfl ?_; refine tl_nil ?_; ((refine hK13 ?_; try (clear hK13; clear K13)))
        all_goals refine tc_ret ?_; (repeat (first | refine tk_then_ret ?_))
        all_goals (refine tk_ret rfl rfl (.cons (.tmp rfl) (.cons (.tmp rfl) .nil)) ?_)
        all_goals (
         first
         | (obtain rfl : h = acts.length := by omega
            rw [hwn]
            exact fun w' hw' => ⟨ouA oo, rfl, hw'.fr (w0 := w) (S := []) (MI.m (by repeat constructor)), RdS.ofO boE_len hok hw' (by repeat constructor), NewS.ofO hw' (by repeat constructor) (MI.m (by repeat constructor))⟩)
         | (have hs : whN s b c acts (h + 1) = none := by
              rw [whN, hwn]
              simp only
              rw [← hn, acIs_nat br _ hn4, acY_nat br hn4, hst]
              exact if_neg (fun g => by simp_all)
            rw [whN_none hs _ (by omega)]
            exact fun w' hw' => ⟨(none, 0), rfl, hw'.fr (w0 := w) (S := []) (MI.m (by repeat constructor)), RdS.nil _ _ _ _, NewS.nil _ _ _⟩))))
theorem cloneX_c (b cap : Nat) (xs : List Int) (hx : xs.length ≤ 1000) (w : World) (hr : RdI w (.slice (some ⟨b, 0, none⟩) xs.length cap) xs) :
    CnX Tryz.prog 80 #[.slice (some ⟨b, 0, none⟩) xs.length cap] w [] (fun y : Option Addr × Nat => slV xs.length y) (fun y w' => RdI w' (slV xs.length y) xs ∧ NewS w (slV xs.length y)) :=
  (clone_own b cap xs hx w hr).imp (fun r => (some ⟨r.1, 0, none⟩, r.2.1)) (fun _ => rfl) (fun _ h => h) (fun r w' _ h => ⟨by
    refine ⟨by simp, some ⟨r.1, 0, none⟩, r.2.1, rfl, fun _ => ⟨r.1, 0, rfl, ?_⟩⟩
    have := CA_pre (xs.map vi) r.2.2 3 (0, 0)
    rw [List.length_map] at this
    rw [Nat.mul_one]
    exact this.cells h.2.2, fun p m c e => by cases e; exact h.2.1⟩)
end Go.Sp
/-
  Package sample: Play, ProveTruth.
-/
namespace Go.Sp
open Go Go.Proofs
theorem chF_held (s : Smp) (b : Int) (ts : List Int) : chF s b ts = (heldF s b ts).map padC := by
  unfold chF heldF
  rw [Option.map_map]; rfl
theorem played_none {s : Smp} (hf : Few s) (hv : VSm s) {b : Int} {c : List Int} (hco : ChOk s c) {acts : List Int} (hal : (acts.length : Int) = s.L + 1) (ha3 : ∀ a ∈ acts, 0 ≤ a ∧ a ≤ 3) (hW : whN s b c acts acts.length = none) (tv pv gv av : Value) (w : World) (hr : RdSm w s tv pv gv) (hra : RdI w av acts) :
    CnX Tryz.prog 79 #[smV s tv pv gv, vi b, .agg (isV c), av] w [] (fun y : Option Addr × Nat => .tuple #[slV ([] : List Bool).length y, .bool false]) (fun _ _ => True) := by
  have h := played_c s hf hv b c hco acts hal ha3 tv pv gv av w hr hra
  rw [hW] at h
  exact h.imp id (fun _ => rfl) (fun _ h => h) (fun _ _ _ _ => trivial)
theorem played_some {s : Smp} (hf : Few s) (hv : VSm s) {b : Int} {c : List Int} (hco : ChOk s c) {acts : List Int} (hal : (acts.length : Int) = s.L + 1) (ha3 : ∀ a ∈ acts, 0 ≤ a ∧ a ≤ 3) {qq : List Bool × Bool} (hW : whN s b c acts acts.length = some qq) (tv pv gv av : Value) (w : World) (hr : RdSm w s tv pv gv) (hra : RdI w av acts) :
    CnX Tryz.prog 79 #[smV s tv pv gv, vi b, .agg (isV c), av] w [] (fun y : Option Addr × Nat => .tuple #[slV qq.1.length y, .bool true]) (fun y w' => RdS 1 boE w' (slV qq.1.length y) qq.1 ∧ NewS w (slV qq.1.length y)) := by
  have h := played_c s hf hv b c hco acts hal ha3 tv pv gv av w hr hra
  rw [hW] at h
  exact h
theorem chain_rd {bs : List (World × List Nat)} {H : List (Nat × Obj)} {w : World} {b : Nat} {l : List Int} {e : TypeId} (hw : HG bs H w) (hm : HM b (.cells (isV (padC l)) e (0, 0)) H) : RdI w (.slice (some ⟨b, 0, none⟩) l.length 10) l := by
  refine ⟨by simp, some ⟨b, 0, none⟩, 10, rfl, fun _ => ⟨b, 0, rfl, ?_⟩⟩
  have h1 := CA_pre (l.map vi) ((List.replicate (10 - l.length) (0 : Int)).map vi) e (0, 0)
  rw [List.length_map] at h1
  rw [Nat.mul_one]
  have h2 := hw.heap _ hm.mem
  have h3 : isV (padC l) = (l.map vi ++ (List.replicate (10 - l.length) (0 : Int)).map vi).toArray := by unfold isV padC; rw [List.map_append]
  rw [h3] at h2
  exact h1.cells h2
def plE (s : Smp) (t : Tth) : Int := if ¬ chkS s = 0 then chkS s else if lstF s t = false then 2 else if (playF s t).isSome = true then 0 else 11
def plQ (s : Smp) (t : Tth) : List (List Int) × List (List Bool) := if plE s t = 0 then (playF s t).getD ([], []) else ([], [])
theorem plE_1 {s : Smp} {t : Tth} (h : ¬ chkS s = 0) : plE s t = chkS s ∧ plQ s t = ([], []) := by
  have : plE s t = chkS s := if_pos h
  exact ⟨this, if_neg (by rw [this]; exact h)⟩
theorem plE_2 {s : Smp} {t : Tth} (h : chkS s = 0) (h2 : lstF s t = false) : plE s t = 2 ∧ plQ s t = ([], []) := by
  have : plE s t = 2 := by unfold plE; rw [if_neg (fun g => g h), if_pos h2]
  exact ⟨this, if_neg (by rw [this]; decide)⟩
theorem plE_3 {s : Smp} {t : Tth} (h : chkS s = 0) (h2 : lstF s t = true) (h3 : playF s t = none) : plE s t = 11 ∧ plQ s t = ([], []) := by
  have : plE s t = 11 := by unfold plE; rw [if_neg (fun g => g h), h2, if_neg (by decide), h3, if_neg (by decide)]
  exact ⟨this, if_neg (by rw [this]; decide)⟩
theorem plE_4 {s : Smp} {t : Tth} (h : chkS s = 0) (h2 : lstF s t = true) {q : List (List Int) × List (List Bool)} (h3 : playF s t = some q) : plE s t = 0 ∧ plQ s t = q := by
  have : plE s t = 0 := by unfold plE; rw [if_neg (fun g => g h), h2, if_neg (by decide), h3]; rfl
  refine ⟨this, ?_⟩
  unfold plQ
  rw [if_pos this, h3]; rfl
set_option maxHeartbeats 8000000 in
theorem sPlay_c (s : Smp) (hf : Few s) (t : Tth) (hth : ThT t) (tv pv gv hvv avv : Value) (w : World) (hr : RdSm w s tv pv gv) (hrt : RdTh w t hvv avv) :
    CnX Tryz.prog 43 #[smV s tv pv gv, tV hvv avv] w [] (fun y : (Option Addr × Nat) × (Option Addr × Nat) => .tuple #[slV (plQ s t).1.length y.1, slV (plQ s t).2.length y.2, vi (plE s t)])
      (fun y w' => RdLN 1 inE w w' (slV (plQ s t).1.length y.1) (plQ s t).1 ∧ RdLN 1 boE w w' (slV (plQ s t).2.length y.2) (plQ s t).2) := by
  have hr0 := hr
  have ht0 := hrt
  have hot := hr.st.one
  have hop := hr.ps.one
  have hog := hr.sg.one
  obtain ⟨_, _, _, _, rfl, _, _⟩ := hrt.hs.open
  obtain ⟨ada, cpa, ba, oa, aus, rfl, hada, hca, hra⟩ := hrt.ac.open
  refine cnx0 (vs := [_, _]) Tryz.func43 rfl rfl ?_
  all_goals refine tc_seq fun K1 hK1 => ?_; refine tc_region ?_; refine tl_e (e_box rfl rfl rfl) rfl (fun b2 _ => ?_); refine tl_e (e_box rfl rfl rfl) rfl (fun b3 _ => ?_); refine tl_q (y_assign rfl) rfl ?_; refine tl_q (y_assign rfl) rfl ?_; refine tl_q (y_assign rfl) rfl ?_; refine tl_nil ?_; ((refine hK1 ?_; try (clear hK1; clear K1)))
  all_goals refine tc_seq fun K2 hK2 => ?_; refine tc_seq fun K3 hK3 => ?_; refine tc_lay ([]) (SB.s .nil) (fun wl1 hl1 => ?_); refine tc_region ?_; refine tl_q (y_loadWf rfl (hl1.at (by repeat constructor)) (MI.m (by repeat constructor)) (by simp) (by rfl)) rfl ?_; refine tl_e (e_callV rfl (.cons rfl .nil) (fun w' hw' => checkSample_c s hf _ _ _ w' (hr0.fr (hw'.fr (w0 := w) (S := []) (MI.m (by repeat constructor)))))) rfl (fun _ _ => ?_); refine tl_q (y_assign rfl) rfl ?_; refine tl_nil ?_; ((refine hK3 ?_; try (clear hK3; clear K3)))
  all_goals refine tc_block ?_; refine tc_seq fun K4 hK4 => ?_; refine tc_region ?_; refine tl_q (y_move rfl) rfl ?_; refine tl_q (y_neq rfl rfl) rfl ?_; refine tl_q (y_assign rfl) rfl ?_; refine tl_nil ?_; ((refine hK4 ?_; try (clear hK4; clear K4)))
  all_goals (
   refine tc_cond rfl (fun hc => ?_) (fun hc => ?_)
   · try simp only [decide_eq_true_eq, decide_eq_false_iff_not, Int.not_lt, Int.not_le, Bool.not_eq_true', Bool.not_eq_false', Decidable.not_not, not_true_eq_false] at hc
     all_goals refine tc_seq fun K5 hK5 => ?_; refine tc_region ?_; refine tl_q (y_move rfl) rfl ?_; refine tl_q (y_assign rfl) rfl ?_; refine tl_q (y_assign rfl) rfl ?_; refine tl_q (y_assign rfl) rfl ?_; refine tl_nil ?_; ((refine hK5 ?_; try (clear hK5; clear K5)))
     all_goals refine tc_ret ?_; (repeat (first | refine tk_then_ret ?_ | refine tk_block_ret ?_))
     all_goals (refine tk_ret rfl rfl (.cons (.tmp rfl) (.cons (.tmp rfl) (.cons (.tmp rfl) .nil))) ?_)
     all_goals (
      first
      | (have hE1 := plE_1 (s := s) (t := t) (by assumption)
         rw [hE1.1, hE1.2]
         exact fun w' hw' => ⟨((none, 0), (none, 0)), rfl, hw'.fr (w0 := w) (S := []) (MI.m (by repeat constructor)), RdLN.nil _ _ _ _ _, RdLN.nil _ _ _ _ _⟩)
      | (have hE1 := plE_2 (s := s) (t := t) (by assumption) (by assumption)
         rw [hE1.1, hE1.2]
         exact fun w' hw' => ⟨((none, 0), (none, 0)), rfl, hw'.fr (w0 := w) (S := []) (MI.m (by repeat constructor)), RdLN.nil _ _ _ _ _, RdLN.nil _ _ _ _ _⟩)
      | (have h1 : playB s t n = none := by unfold playB; rw [hhf]
         have h2 : playN s t (n + 1) = none := by rw [playN, hpn]; simp only; rw [h1]
         have hE1 := plE_3 (s := s) (t := t) hk0 hls (playN_none h2 _ (by omega))
         rw [hE1.1, hE1.2]
         exact fun w' hw' => ⟨((none, 0), (none, 0)), rfl, hw'.fr (w0 := w) (S := []) (MI.m (by repeat constructor)), RdLN.nil _ _ _ _ _, RdLN.nil _ _ _ _ _⟩)
      | (have h1 : playB s t n = none := by unfold playB; rw [hhf]; simp only; rw [hwh]
         have h2 : playN s t (n + 1) = none := by rw [playN, hpn]; simp only; rw [h1]
         have hE1 := plE_3 (s := s) (t := t) hk0 hls (playN_none h2 _ (by omega))
         rw [hE1.1, hE1.2]
         exact fun w' hw' => ⟨((none, 0), (none, 0)), rfl, hw'.fr (w0 := w) (S := []) (MI.m (by repeat constructor)), RdLN.nil _ _ _ _ _, RdLN.nil _ _ _ _ _⟩)
      | (obtain rfl : n = s.B.toNat := by omega
         have hE1 := plE_4 (s := s) (t := t) hk0 hls (q := q) hpn
         rw [hE1.1, hE1.2]
         refine fun w' hw' => ⟨(ouA o1, ouA o2), ?_, hw'.fr (w0 := w) (S := []) (MI.m (by repeat constructor)), ?_, ?_⟩
         · show Ending.returned (outV [ouV us.length o1, ouV vs.length o2, vi 0]) = _
           rw [hul, hvl]; rfl
         · have := RdLN.ofO hok1 hu hnu hw' (hw'.fr (w0 := wz) (S := S) (MI.m (by repeat constructor))) (w0 := w) (MI.m (by repeat constructor)) (by repeat constructor)
           rw [hul] at this; exact this
         · have := RdLN.ofO hok2 hvv hnv hw' (hw'.fr (w0 := wz) (S := S) (MI.m (by repeat constructor))) (w0 := w) (MI.m (by repeat constructor)) (by repeat constructor)
           rw [hvl] at this; exact this))
   · try simp only [decide_eq_true_eq, decide_eq_false_iff_not, Int.not_lt, Int.not_le, Bool.not_eq_true', Bool.not_eq_false', Decidable.not_not, not_true_eq_false] at hc
     all_goals refine tc_seq fun K6 hK6 => ?_; refine tc_region ?_; refine tl_q (y_loadWf rfl (hl1.at (by repeat constructor)) (MI.m (by repeat constructor)) (by simp) (by rfl)) rfl ?_; refine tl_q (y_loadWf rfl (hl1.at (by repeat constructor)) (MI.m (by repeat constructor)) (by simp) (by rfl)) rfl ?_; refine tl_e (e_callV rfl (.cons rfl (.cons rfl .nil)) (fun w' hw' => listed_c s hf (chkS_0.1 (by assumption)) t hth _ _ _ _ _ w' (hr0.fr (hw'.fr (w0 := w) (S := []) (MI.m (by repeat constructor)))) (ht0.fr (hw'.fr (w0 := w) (S := []) (MI.m (by repeat constructor)))))) rfl (fun _ _ => ?_); refine tl_q (y_not rfl) rfl ?_; refine tl_q (y_assign rfl) rfl ?_; refine tl_nil ?_; ((refine hK6 ?_; try (clear hK6; clear K6)))
     all_goals (
      refine tc_cond rfl (fun hc => ?_) (fun hc => ?_)
      · try simp only [decide_eq_true_eq, decide_eq_false_iff_not, Int.not_lt, Int.not_le, Bool.not_eq_true', Bool.not_eq_false', Decidable.not_not, not_true_eq_false] at hc
        all_goals refine tc_seq fun K7 hK7 => ?_; refine tc_region ?_; refine tl_q (y_assign rfl) rfl ?_; refine tl_q (y_assign rfl) rfl ?_; refine tl_q (y_assign rfl) rfl ?_; refine tl_nil ?_; ((refine hK7 ?_; try (clear hK7; clear K7)))
        all_goals refine tc_ret ?_; (repeat (first | refine tk_then_ret ?_ | refine tk_block_ret ?_))
        all_goals (refine tk_ret rfl rfl (.cons (.tmp rfl) (.cons (.tmp rfl) (.cons (.tmp rfl) .nil))) ?_)
        all_goals (
         first
         | (have hE1 := plE_1 (s := s) (t := t) (by assumption)
            rw [hE1.1, hE1.2]
            exact fun w' hw' => ⟨((none, 0), (none, 0)), rfl, hw'.fr (w0 := w) (S := []) (MI.m (by repeat constructor)), RdLN.nil _ _ _ _ _, RdLN.nil _ _ _ _ _⟩)
         | (have hE1 := plE_2 (s := s) (t := t) (by assumption) (by assumption)
            rw [hE1.1, hE1.2]
            exact fun w' hw' => ⟨((none, 0), (none, 0)), rfl, hw'.fr (w0 := w) (S := []) (MI.m (by repeat constructor)), RdLN.nil _ _ _ _ _, RdLN.nil _ _ _ _ _⟩)
         | (have h1 : playB s t n = none := by unfold playB; rw [hhf]
            have h2 : playN s t (n + 1) = none := by rw [playN, hpn]; simp only; rw [h1]
            have hE1 := plE_3 (s := s) (t := t) hk0 hls (playN_none h2 _ (by omega))
            rw [hE1.1, hE1.2]
            exact fun w' hw' => ⟨((none, 0), (none, 0)), rfl, hw'.fr (w0 := w) (S := []) (MI.m (by repeat constructor)), RdLN.nil _ _ _ _ _, RdLN.nil _ _ _ _ _⟩)
         | (have h1 : playB s t n = none := by unfold playB; rw [hhf]; simp only; rw [hwh]
            have h2 : playN s t (n + 1) = none := by rw [playN, hpn]; simp only; rw [h1]
            have hE1 := plE_3 (s := s) (t := t) hk0 hls (playN_none h2 _ (by omega))
            rw [hE1.1, hE1.2]
            exact fun w' hw' => ⟨((none, 0), (none, 0)), rfl, hw'.fr (w0 := w) (S := []) (MI.m (by repeat constructor)), RdLN.nil _ _ _ _ _, RdLN.nil _ _ _ _ _⟩)
         | (obtain rfl : n = s.B.toNat := by omega
            have hE1 := plE_4 (s := s) (t := t) hk0 hls (q := q) hpn
            rw [hE1.1, hE1.2]
            refine fun w' hw' => ⟨(ouA o1, ouA o2), ?_, hw'.fr (w0 := w) (S := []) (MI.m (by repeat constructor)), ?_, ?_⟩
            · show Ending.returned (outV [ouV us.length o1, ouV vs.length o2, vi 0]) = _
              rw [hul, hvl]; rfl
            · have := RdLN.ofO hok1 hu hnu hw' (hw'.fr (w0 := wz) (S := S) (MI.m (by repeat constructor))) (w0 := w) (MI.m (by repeat constructor)) (by repeat constructor)
              rw [hul] at this; exact this
            · have := RdLN.ofO hok2 hvv hnv hw' (hw'.fr (w0 := wz) (S := S) (MI.m (by repeat constructor))) (w0 := w) (MI.m (by repeat constructor)) (by repeat constructor)
              rw [hvl] at this; exact this))
      · try simp only [decide_eq_true_eq, decide_eq_false_iff_not, Int.not_lt, Int.not_le, Bool.not_eq_true', Bool.not_eq_false', Decidable.not_not, not_true_eq_false] at hc
        all_goals refine tc_skip ?_; ((refine hK2 ?_; try (clear hK2; clear K2)))
        all_goals refine tc_seq fun K8 hK8 => ?_; refine tc_seq fun K9 hK9 => ?_; (have hk0 : chkS s = 0 := by assumption)
        all_goals (have hls : lstF s t = true := by assumption)
        all_goals ((have hv := chkS_0.1 hk0; have hlo := lstF_ok hls; have hb1 := hv.b1; have hb3 := hv.b3; have hl0 := hv.l0; have hl9 := hv.l9; have hla := hlo.l.an))
        all_goals refine tc_region ?_; refine tl_q (y_field rfl) rfl ?_; refine tl_q (y_load1f rfl (hl1.at (by repeat constructor)) (MI.m (by repeat constructor)) (by simp) (by rfl)) rfl ?_; refine tl_q (y_move rfl) rfl ?_; refine tl_nil ?_; ((refine hK9 ?_; try (clear hK9; clear K9)))
        all_goals refine tc_block ?_
        all_goals (
         refine tc_loop (fun p : Nat × (List (List Int) × List (List Bool)) × (List Sv × List Sv) × (OwnB × OwnB) × World => (p.1 : Int) ≤ s.B ∧ playN s t p.1 = some p.2.1 ∧ (okE 1 p.2.2.1.1 p.2.2.2.1.1 ∧ okE 1 p.2.2.1.2 p.2.2.2.1.2) ∧ OKV 1 inE p.2.2.2.2 ((slE 29 svE p.2.2.1.1 p.2.2.2.1.1 ++ slE 22 svE p.2.2.1.2 p.2.2.2.1.2).map Prod.fst) p.2.2.1.1 p.2.1.1 ∧ OKV 1 boE p.2.2.2.2 ((slE 29 svE p.2.2.1.1 p.2.2.2.1.1 ++ slE 22 svE p.2.2.1.2 p.2.2.2.1.2).map Prod.fst) p.2.2.1.2 p.2.1.2 ∧ NewV w p.2.2.1.1 ∧ NewV w p.2.2.1.2) (fun p => [(2, ptr b2), (3, ptr b3), (4, ouV p.2.2.1.1.length p.2.2.2.1.1), (5, ouV p.2.2.1.2.length p.2.2.2.1.2), (25, vi s.B), (26, vi p.1)]) (fun p => [(p.2.2.2.2, (slE 29 svE p.2.2.1.1 p.2.2.2.1.1 ++ slE 22 svE p.2.2.1.2 p.2.2.2.1.2).map Prod.fst), (wl1, []), (w, [])]) (fun p => slE 29 svE p.2.2.1.1 p.2.2.2.1.1 ++ slE 22 svE p.2.2.1.2 p.2.2.2.1.2) (fun p => s.B.toNat - p.1) ?_ ?_
         · exact tk_lay [] (SB.s .nil) fun wl2 hl2 => tk_start (0, ([], []), ([], []), (none, none), wl2) ⟨by dsimp only; omega, rfl, ⟨rfl, rfl⟩, OKV.nil, OKV.nil, NewV.nil _, NewV.nil _⟩ (.cons rfl (.cons rfl (.cons rfl (.cons rfl (.cons rfl (.cons rfl .nil)))))) (fun _ h => by rw [slE_none, slE_none]; exact h.subl (SB.s (by repeat constructor)) (SB.s (by repeat constructor)))
         · rintro ⟨n, q, ⟨us, vs⟩, ⟨o1, o2⟩, wz⟩ ⟨hn, hpn, ⟨hok1, hok2⟩, hu, hvv, hnu, hnv⟩
           dsimp only at hn hpn hok1 hok2 hu hvv hnu hnv ⊢
           obtain ⟨S, hS⟩ : ∃ S, S = (slE 29 svE us o1 ++ slE 22 svE vs o2).map Prod.fst := ⟨_, rfl⟩
           rw [← hS] at hu hvv ⊢
           have hpl := playN_len hpn
           have hul := hu.1
           have hvl := hvv.1
           all_goals refine tc_seq fun K10 hK10 => ?_; refine tc_region ?_; refine tl_q (y_lss rfl rfl) rfl ?_; refine tl_nil ?_; ((refine hK10 ?_; try (clear hK10; clear K10)))
           all_goals refine tc_seq fun K11 hK11 => ?_
           all_goals (
            refine tc_cond rfl (fun hc => ?_) (fun hc => ?_)
            · try simp only [decide_eq_true_eq, decide_eq_false_iff_not, Int.not_lt, Int.not_le, Bool.not_eq_true', Bool.not_eq_false', Decidable.not_not, not_true_eq_false] at hc
              all_goals refine tc_skip ?_; ((refine hK11 ?_; try (clear hK11; clear K11)))
              all_goals refine tc_seq fun K12 hK12 => ?_; refine tc_block ?_; refine tc_seq fun K13 hK13 => ?_; refine tc_region ?_; refine tl_q (y_move rfl) rfl ?_; refine tl_q (y_assign rfl) rfl ?_; refine tl_nil ?_; ((refine hK13 ?_; try (clear hK13; clear K13)))
              all_goals refine tc_seq fun K14 hK14 => ?_; (rcases hhf : heldF s (n : Nat) t.hs with _ | l)
              all_goals ((have hE := congrArg Option.isSome ((chF_held s (n : Nat) t.hs).trans (congrArg (Option.map padC) hhf)); simp only [Option.map_none, Option.map_some, Option.isSome_none, Option.isSome_some] at hE))
              all_goals refine tc_region ?_; refine tl_q (y_loadWf rfl (hl1.at (by repeat constructor)) (MI.m (by repeat constructor)) (by simp) (by rfl)) rfl ?_; refine tl_q (y_move rfl) rfl ?_; refine tl_q (y_field rfl) rfl ?_; refine tl_q (y_load1f rfl (hl1.at (by repeat constructor)) (MI.m (by repeat constructor)) (by simp) (by rfl)) rfl ?_; refine tl_e (e_callX rfl (.cons rfl (.cons rfl (.cons rfl .nil))) (fun w' hw' => chained_c s hf hv (n : Nat) t.hs hlo.l.hs _ _ _ _ w' (hr0.fr (hw'.fr (w0 := w) (S := []) (MI.m (by repeat constructor)))) (ht0.hs.fr (hw'.fr (w0 := w) (S := []) (MI.m (by repeat constructor)))))) rfl (fun y hy => ?_); ((obtain ⟨⟨hy1, hy2⟩, hyw⟩ := hy; rw [hE]))
              all_goals refine tl_q (y_move rfl) rfl ?_; refine tl_q (y_extract rfl rfl) rfl ?_; refine tl_q (y_extract rfl rfl) rfl ?_; refine tl_e (e_allocN rfl) rfl (fun b9 _ => ?_); refine tl_e (e_storeW rfl rfl (by repeat constructor) (by first | rfl | rw [isV_size, hy1]) (by first | rfl | rw [isV_size, hy1]) (isV_one _)) rfl (fun _ _ => ?_); refine tl_q (y_assign rfl) rfl ?_; refine tl_nil ?_; ((refine hK14 ?_; try (clear hK14; clear K14)))
              all_goals refine tc_seq fun K15 hK15 => ?_; refine tc_seq fun K16 hK16 => ?_; refine tc_region ?_; refine tl_q (y_move rfl) rfl ?_; refine tl_q (y_not rfl) rfl ?_; refine tl_nil ?_; ((refine hK16 ?_; try (clear hK16; clear K16)))
              all_goals (
               refine tc_cond rfl (fun hc => ?_) (fun hc => ?_)
               · try simp only [decide_eq_true_eq, decide_eq_false_iff_not, Int.not_lt, Int.not_le, Bool.not_eq_true', Bool.not_eq_false', Decidable.not_not, not_true_eq_false] at hc
                 all_goals ((first | (exfalso; with_reducible exact btf hc) | skip))
                 all_goals refine tc_seq fun K17 hK17 => ?_; refine tc_region ?_; refine tl_q (y_assign rfl) rfl ?_; refine tl_q (y_assign rfl) rfl ?_; refine tl_q (y_assign rfl) rfl ?_; refine tl_nil ?_; ((refine hK17 ?_; try (clear hK17; clear K17)))
                 all_goals refine tc_ret ?_; (repeat (first | refine tk_then_ret ?_ | refine tk_block_ret ?_))
                 all_goals (refine tk_ret rfl rfl (.cons (.tmp rfl) (.cons (.tmp rfl) (.cons (.tmp rfl) .nil))) ?_)
                 all_goals (
                  first
                  | (have hE1 := plE_1 (s := s) (t := t) (by assumption)
                     rw [hE1.1, hE1.2]
                     exact fun w' hw' => ⟨((none, 0), (none, 0)), rfl, hw'.fr (w0 := w) (S := []) (MI.m (by repeat constructor)), RdLN.nil _ _ _ _ _, RdLN.nil _ _ _ _ _⟩)
                  | (have hE1 := plE_2 (s := s) (t := t) (by assumption) (by assumption)
                     rw [hE1.1, hE1.2]
                     exact fun w' hw' => ⟨((none, 0), (none, 0)), rfl, hw'.fr (w0 := w) (S := []) (MI.m (by repeat constructor)), RdLN.nil _ _ _ _ _, RdLN.nil _ _ _ _ _⟩)
                  | (have h1 : playB s t n = none := by unfold playB; rw [hhf]
                     have h2 : playN s t (n + 1) = none := by rw [playN, hpn]; simp only; rw [h1]
                     have hE1 := plE_3 (s := s) (t := t) hk0 hls (playN_none h2 _ (by omega))
                     rw [hE1.1, hE1.2]
                     exact fun w' hw' => ⟨((none, 0), (none, 0)), rfl, hw'.fr (w0 := w) (S := []) (MI.m (by repeat constructor)), RdLN.nil _ _ _ _ _, RdLN.nil _ _ _ _ _⟩)
                  | (have h1 : playB s t n = none := by unfold playB; rw [hhf]; simp only; rw [hwh]
                     have h2 : playN s t (n + 1) = none := by rw [playN, hpn]; simp only; rw [h1]
                     have hE1 := plE_3 (s := s) (t := t) hk0 hls (playN_none h2 _ (by omega))
                     rw [hE1.1, hE1.2]
                     exact fun w' hw' => ⟨((none, 0), (none, 0)), rfl, hw'.fr (w0 := w) (S := []) (MI.m (by repeat constructor)), RdLN.nil _ _ _ _ _, RdLN.nil _ _ _ _ _⟩)
                  | (obtain rfl : n = s.B.toNat := by omega
                     have hE1 := plE_4 (s := s) (t := t) hk0 hls (q := q) hpn
                     rw [hE1.1, hE1.2]
                     refine fun w' hw' => ⟨(ouA o1, ouA o2), ?_, hw'.fr (w0 := w) (S := []) (MI.m (by repeat constructor)), ?_, ?_⟩
                     · show Ending.returned (outV [ouV us.length o1, ouV vs.length o2, vi 0]) = _
                       rw [hul, hvl]; rfl
                     · have := RdLN.ofO hok1 hu hnu hw' (hw'.fr (w0 := wz) (S := S) (MI.m (by repeat constructor))) (w0 := w) (MI.m (by repeat constructor)) (by repeat constructor)
                       rw [hul] at this; exact this
                     · have := RdLN.ofO hok2 hvv hnv hw' (hw'.fr (w0 := wz) (S := S) (MI.m (by repeat constructor))) (w0 := w) (MI.m (by repeat constructor)) (by repeat constructor)
                       rw [hvl] at this; exact this))
               · try simp only [decide_eq_true_eq, decide_eq_false_iff_not, Int.not_lt, Int.not_le, Bool.not_eq_true', Bool.not_eq_false', Decidable.not_not, not_true_eq_false] at hc
                 all_goals ((first | (exfalso; with_reducible exact bft hc) | skip))
                 all_goals refine tc_skip ?_; ((refine hK15 ?_; try (clear hK15; clear K15)))
                 all_goals refine tc_seq fun K18 hK18 => ?_; (have hyl : y.1 = padC l := hy2 _ ((chF_held s (n : Nat) t.hs).trans (congrArg (Option.map padC) hhf)))
                 all_goals ((have hco : ChOk s y.1 := chF_ok hv (by rw [hyl]; exact (chF_held s (n : Nat) t.hs).trans (congrArg (Option.map padC) hhf)); have hlo2 := heldF_ok hv hhf))
                 all_goals (have hnB : n < t.ac.length := by omega)
                 all_goals ((have hal := hlo.l.al n hnB; have ha3 := hlo.a3 n hnB; obtain ⟨adn, cpn, bn, on, hen, hadn, hcn⟩ := (hra w (Fr.refl _ _) n hnB).open inE_len 0))
                 all_goals (have hWl : (t.ac.getD n []).length = (s.L + 1).toNat := by omega)
                 all_goals ((have hWp : whN s (n : Nat) y.1 (t.ac.getD n []) (t.ac.getD n []).length = whN s (n : Nat) l (t.ac.getD n []) (s.L + 1).toNat := by rw [hyl, hWl]; exact whN_pad _ (by omega)))
                 all_goals ((have hrn : ∀ w', Fr [] w w' → RdI w' (.slice adn (t.ac.getD n []).length cpn) (t.ac.getD n []) := fun w' f => by rw [← hen]; exact (hra w' f n hnB).toI))
                 all_goals (rcases hwh : whN s (n : Nat) l (t.ac.getD n []) (s.L + 1).toNat with _ | qq)
                 all_goals refine tc_draw (by kernel_rfl) ?_; refine tx_q 0 rfl (by kernel_rfl) (y_loadWf rfl (hl1.at (by repeat constructor)) (MI.m (by repeat constructor)) (by simp) (by rfl)) rfl (fun _ _ _ h => h) (fun _ h => h) ?_; refine tx_p 1 rfl (by kernel_rfl) (y_move rfl) rfl (fun _ _ _ h => h) (fun _ h => h) ?_; refine tx_q 2 rfl (by kernel_rfl) (y_loadW rfl (by repeat constructor) (by rw [isV_size, hy1])) rfl (fun _ _ _ h => h) (fun _ h => h) ?_; refine tx_p 3 rfl (by kernel_rfl) (y_field rfl) rfl (fun _ _ _ h => h) (fun _ h => h) ?_; refine tx_q 4 rfl (by kernel_rfl) (y_load1f rfl (hl1.at (by repeat constructor)) (MI.m (by repeat constructor)) (by simp) (by rfl)) rfl (fun _ _ _ h => h) (fun _ h => h) ?_; refine tx_p 5 rfl (by kernel_rfl) (y_move rfl) rfl (fun _ _ _ h => h) (fun _ h => h) ?_; refine tx_p 6 rfl (by kernel_rfl) (y_index rfl rfl (by omega) (hada (by omega))) rfl (fun _ _ _ h => h) (fun _ h => h) ?_; ((refine tx_q 7 rfl (by kernel_rfl) (y_load1o (v := .slice adn (t.ac.getD n []).length cpn) rfl (fun w' hw' => by rw [show Int.toNat (n : Int) * 1 = n from by omega, ← hen]; exact hca w' (hw'.fr (w0 := w) (S := []) (MI.m (by repeat constructor))) n hnB)) rfl (fun _ _ _ h => h) (fun _ h => h) ?_))
                 all_goals (first | refine tx_e 8 rfl (by kernel_rfl) rfl (e_callX rfl (.cons rfl (.cons rfl (.cons rfl (.cons rfl .nil)))) (fun w' hw' => played_none hf hv hco hal ha3 (hWp.trans hwh) _ _ _ _ w' (hr0.fr (hw'.fr (w0 := w) (S := []) (MI.m (by repeat constructor)))) (hrn w' (hw'.fr (w0 := w) (S := []) (MI.m (by repeat constructor)))))) (.inr fun _ _ h => h.sub (fun _ h => List.mem_cons_of_mem _ h) (List.Sublist.refl _)) (fun y12 hy12 => ?_) | refine tx_e 8 rfl (by kernel_rfl) rfl (e_callX rfl (.cons rfl (.cons rfl (.cons rfl (.cons rfl .nil)))) (fun w' hw' => (played_some hf hv hco hal ha3 (hWp.trans hwh) _ _ _ _ w' (hr0.fr (hw'.fr (w0 := w) (S := []) (MI.m (by repeat constructor)))) (hrn w' (hw'.fr (w0 := w) (S := []) (MI.m (by repeat constructor))))).imp (val' := fun y : Option Addr × Nat => .tuple #[slV qq.1.length y, .bool true]) (p' := fun y w2 => RdS 1 boE w2 (slV qq.1.length y) qq.1 ∧ sepS (slV qq.1.length y) (b9 :: (slE 29 svE us o1 ++ slE 22 svE vs o2).map Prod.fst) ∧ NewS w (slV qq.1.length y)) id (fun _ => rfl) (fun _ h => h) (fun _ _ _ hp => ⟨hp.1, hp.2.sep hw', hp.2.le (hw'.fr (w0 := w) (S := []) (MI.m (by repeat constructor))).size⟩))) (.inr fun _ _ h => h.sub (fun _ h => List.mem_cons_of_mem _ h) (List.Sublist.refl _)) (fun y12 hy12 => ?_)); refine tx_p 9 rfl (by kernel_rfl) (y_move rfl) rfl (fun _ _ _ h => h) (fun _ h => h) ?_; refine tx_p 10 rfl (by kernel_rfl) (y_extract rfl rfl) rfl (fun _ _ _ h => h) (fun _ h => h) ?_; refine tx_p 11 rfl (by kernel_rfl) (y_extract rfl rfl) rfl (fun _ _ _ h => h) (fun _ h => h) ?_; refine tx_p 12 rfl (by kernel_rfl) (y_assign rfl) rfl (fun _ _ _ h => h) (fun _ h => h) ?_; refine tx_p 13 rfl (by kernel_rfl) (y_assign rfl) rfl (fun _ _ _ h => h) (fun _ h => h) ?_; refine tx_done (by kernel_rfl) ?_; ((refine hK18 ?_; try (clear hK18; clear K18)))
                 all_goals refine tc_seq fun K19 hK19 => ?_; refine tc_seq fun K20 hK20 => ?_; refine tc_region ?_; refine tl_q (y_move rfl) rfl ?_; refine tl_q (y_not rfl) rfl ?_; refine tl_nil ?_; ((refine hK20 ?_; try (clear hK20; clear K20)))
                 all_goals (
                  refine tc_cond rfl (fun hc => ?_) (fun hc => ?_)
                  · try simp only [decide_eq_true_eq, decide_eq_false_iff_not, Int.not_lt, Int.not_le, Bool.not_eq_true', Bool.not_eq_false', Decidable.not_not, not_true_eq_false] at hc
                    all_goals ((first | (exfalso; with_reducible exact btf hc) | skip))
                    all_goals refine tc_seq fun K21 hK21 => ?_; refine tc_region ?_; refine tl_q (y_assign rfl) rfl ?_; refine tl_q (y_assign rfl) rfl ?_; refine tl_q (y_assign rfl) rfl ?_; refine tl_nil ?_; ((refine hK21 ?_; try (clear hK21; clear K21)))
                    all_goals refine tc_ret ?_; (repeat (first | refine tk_then_ret ?_ | refine tk_block_ret ?_))
                    all_goals (refine tk_ret rfl rfl (.cons (.tmp rfl) (.cons (.tmp rfl) (.cons (.tmp rfl) .nil))) ?_)
                    all_goals (
                     first
                     | (have hE1 := plE_1 (s := s) (t := t) (by assumption)
                        rw [hE1.1, hE1.2]
                        exact fun w' hw' => ⟨((none, 0), (none, 0)), rfl, hw'.fr (w0 := w) (S := []) (MI.m (by repeat constructor)), RdLN.nil _ _ _ _ _, RdLN.nil _ _ _ _ _⟩)
                     | (have hE1 := plE_2 (s := s) (t := t) (by assumption) (by assumption)
                        rw [hE1.1, hE1.2]
                        exact fun w' hw' => ⟨((none, 0), (none, 0)), rfl, hw'.fr (w0 := w) (S := []) (MI.m (by repeat constructor)), RdLN.nil _ _ _ _ _, RdLN.nil _ _ _ _ _⟩)
                     | (have h1 : playB s t n = none := by unfold playB; rw [hhf]
                        have h2 : playN s t (n + 1) = none := by rw [playN, hpn]; simp only; rw [h1]
                        have hE1 := plE_3 (s := s) (t := t) hk0 hls (playN_none h2 _ (by omega))
                        rw [hE1.1, hE1.2]
                        exact fun w' hw' => ⟨((none, 0), (none, 0)), rfl, hw'.fr (w0 := w) (S := []) (MI.m (by repeat constructor)), RdLN.nil _ _ _ _ _, RdLN.nil _ _ _ _ _⟩)
                     | (have h1 : playB s t n = none := by unfold playB; rw [hhf]; simp only; rw [hwh]
                        have h2 : playN s t (n + 1) = none := by rw [playN, hpn]; simp only; rw [h1]
                        have hE1 := plE_3 (s := s) (t := t) hk0 hls (playN_none h2 _ (by omega))
                        rw [hE1.1, hE1.2]
                        exact fun w' hw' => ⟨((none, 0), (none, 0)), rfl, hw'.fr (w0 := w) (S := []) (MI.m (by repeat constructor)), RdLN.nil _ _ _ _ _, RdLN.nil _ _ _ _ _⟩)
                     | (obtain rfl : n = s.B.toNat := by omega
                        have hE1 := plE_4 (s := s) (t := t) hk0 hls (q := q) hpn
                        rw [hE1.1, hE1.2]
                        refine fun w' hw' => ⟨(ouA o1, ouA o2), ?_, hw'.fr (w0 := w) (S := []) (MI.m (by repeat constructor)), ?_, ?_⟩
                        · show Ending.returned (outV [ouV us.length o1, ouV vs.length o2, vi 0]) = _
                          rw [hul, hvl]; rfl
                        · have := RdLN.ofO hok1 hu hnu hw' (hw'.fr (w0 := wz) (S := S) (MI.m (by repeat constructor))) (w0 := w) (MI.m (by repeat constructor)) (by repeat constructor)
                          rw [hul] at this; exact this
                        · have := RdLN.ofO hok2 hvv hnv hw' (hw'.fr (w0 := wz) (S := S) (MI.m (by repeat constructor))) (w0 := w) (MI.m (by repeat constructor)) (by repeat constructor)
                          rw [hvl] at this; exact this))
                  · try simp only [decide_eq_true_eq, decide_eq_false_iff_not, Int.not_lt, Int.not_le, Bool.not_eq_true', Bool.not_eq_false', Decidable.not_not, not_true_eq_false] at hc
                    all_goals ((first | (exfalso; with_reducible exact bft hc) | skip))
                    all_goals refine tc_skip ?_; ((refine hK19 ?_; try (clear hK19; clear K19)))
                    all_goals refine tc_region ?_; refine tl_q (y_move rfl) rfl ?_; refine tl_q (y_field rfl) rfl ?_; refine tl_q (y_load1f rfl (hl1.at (by repeat constructor)) (MI.m (by repeat constructor)) (by simp) (by rfl)) rfl ?_; refine tl_q (y_add rfl rfl (by omega)) rfl ?_; ((refine tl_q (y_sliceAT (m := l.length) rfl (by rw [hlo2.1]; rfl) (by omega)) rfl ?_))
                    all_goals (refine tl_e (e_callX rfl (.cons rfl .nil) (fun w' hw' => (cloneX_c b9 10 l (by omega) w' (chain_rd hw' (by rw [← hyl]; exact (by repeat constructor)))).imp (val' := fun y : Option Addr × Nat => slV l.length y) (p' := fun y w2 => RdI w2 (slV l.length y) l ∧ sepS (slV l.length y) (b9 :: (slE 29 svE us o1 ++ slE 22 svE vs o2).map Prod.fst) ∧ NewS w (slV l.length y)) id (fun _ => rfl) (fun _ h => h) (fun _ _ _ hp => ⟨hp.1, hp.2.sep hw', hp.2.le (hw'.fr (w0 := w) (S := []) (MI.m (by repeat constructor))).size⟩))) rfl (fun y15 hy15 => ?_))
                    all_goals (refine tl_e (e_bslice rfl (by (repeat (first | exact .nil | apply PV.one rfl rfl)); done) rfl rfl) rfl (fun b15 _ => ?_))
                    all_goals ((refine tl_e (e_appendE (enc := svE) (xs := us) (ys := [svS l.length y15.1]) svE_len svE_one rfl rfl rfl hok1 (fun _ => by repeat constructor) (fun w' hw' => RdS.own0 svE_len hw' (by repeat constructor)) (by simp only [List.length_cons, List.length_nil]; omega) rfl) rfl (fun o1' hok1' => ?_)))
                    all_goals refine tl_q (y_move rfl) rfl ?_; refine tl_q (y_move rfl) rfl ?_; (refine tl_e (e_bslice rfl (by (repeat (first | exact .nil | apply PV.one rfl rfl)); done) rfl rfl) rfl (fun b16 _ => ?_))
                    all_goals ((refine tl_e (e_appendE (enc := svE) (xs := vs) (ys := [svS qq.1.length y12.1]) svE_len svE_one rfl rfl rfl hok2 (fun _ => by repeat constructor) (fun w' hw' => RdS.own0 svE_len hw' (by repeat constructor)) (by simp only [List.length_cons, List.length_nil]; omega) rfl) rfl (fun o2' hok2' => ?_)))
                    all_goals refine tl_q (y_assign rfl) rfl ?_; refine tl_q (y_assign rfl) rfl ?_; refine tl_nil ?_; ((refine hK12 ?_; try (clear hK12; clear K12)))
                    all_goals refine tc_lay (slE 29 svE (us ++ [svS l.length y15.1]) o1' ++ slE 22 svE (vs ++ [svS qq.1.length y12.1]) o2') ((((List.Sublist.refl _).cons _).cons _).cons _) (fun wl16 hl16 => ?_); refine tc_region ?_; refine tl_q (y_add rfl rfl (by omega)) rfl ?_; refine tl_q (y_move rfl) rfl ?_; refine tl_nil ?_
                    all_goals (
                     have hpb : playB s t n = some (l, qq.1) := by unfold playB; rw [hhf]; simp only; rw [hwh]
                     have hpn1 : playN s t (n + 1) = some (q.1 ++ [l], q.2 ++ [qq.1]) := by rw [playN, hpn]; simp only; rw [hpb]
                     have hfz : Fr S wz wl16 := hl16.fr (w0 := wz) (S := S) (MI.m (by repeat constructor))
                     have hoz := hl16.ownsK ((((List.Sublist.refl (slE 29 svE (us ++ [svS l.length y15.1]) o1' ++ slE 22 svE (vs ++ [svS qq.1.length y12.1]) o2')).cons _).cons _).cons _) (w0 := wz) (S := S) (MI.m (by repeat constructor))
                     have hol : OKS 1 inE wl16 ((slE 29 svE (us ++ [svS l.length y15.1]) o1' ++ slE 22 svE (vs ++ [svS qq.1.length y12.1]) o2').map Prod.fst) (svS l.length y15.1).1 l := OKS.mk' inE_len (by decide) hl16 ((((List.Sublist.refl _).cons _).cons _).cons _) (x2 := y15.2) (S0 := b9 :: (slE 29 svE us o1 ++ slE 22 svE vs o2).map Prod.fst) (MI.m (by repeat constructor)) hy15.1.2.1 (RdS.int.2 hy15.1.1)
                     have how : OKS 1 boE wl16 ((slE 29 svE (us ++ [svS l.length y15.1]) o1' ++ slE 22 svE (vs ++ [svS qq.1.length y12.1]) o2').map Prod.fst) (svS qq.1.length y12.1).1 qq.1 := OKS.mk' boE_len (by decide) hl16 ((((List.Sublist.refl _).cons _).cons _).cons _) (x2 := y12.2) (S0 := b9 :: (slE 29 svE us o1 ++ slE 22 svE vs o2).map Prod.fst) (MI.m (by repeat constructor)) hy12.1.2.1 hy12.1.1
                     exact tk_round (n + 1, (q.1 ++ [l], q.2 ++ [qq.1]), (us ++ [svS l.length y15.1], vs ++ [svS qq.1.length y12.1]), (o1', o2'), wl16) ⟨by dsimp only; omega, hpn1, ⟨hok1', hok2'⟩, (hu.step hfz hoz).snoc hol, (hvv.step hfz hoz).snoc how, hnu.snoc hy15.1.2.2, hnv.snoc hy12.1.2.2⟩ (by dsimp only; omega) (.cons rfl (.cons rfl (.cons rfl (.cons rfl (.cons rfl (.cons rfl .nil)))))) (fun _ h => h.subl (SB.s (by repeat constructor)) (SB.s (by repeat constructor))))))
            · try simp only [decide_eq_true_eq, decide_eq_false_iff_not, Int.not_lt, Int.not_le, Bool.not_eq_true', Bool.not_eq_false', Decidable.not_not, not_true_eq_false] at hc
              all_goals refine tc_exit ?_; ((refine hK8 ?_; try (clear hK8; clear K8)))
              all_goals refine tc_seq fun K22 hK22 => ?_; refine tc_region ?_; refine tl_q (y_move rfl) rfl ?_; refine tl_q (y_move rfl) rfl ?_; refine tl_q (y_assign rfl) rfl ?_; refine tl_q (y_assign rfl) rfl ?_; refine tl_q (y_assign rfl) rfl ?_; refine tl_nil ?_; ((refine hK22 ?_; try (clear hK22; clear K22)))
              all_goals refine tc_ret ?_; (repeat (first | refine tk_then_ret ?_))
              all_goals (refine tk_ret rfl rfl (.cons (.tmp rfl) (.cons (.tmp rfl) (.cons (.tmp rfl) .nil))) ?_)
              all_goals (
               first
               | (have hE1 := plE_1 (s := s) (t := t) (by assumption)
                  rw [hE1.1, hE1.2]
                  exact fun w' hw' => ⟨((none, 0), (none, 0)), rfl, hw'.fr (w0 := w) (S := []) (MI.m (by repeat constructor)), RdLN.nil _ _ _ _ _, RdLN.nil _ _ _ _ _⟩)
               | (have hE1 := plE_2 (s := s) (t := t) (by assumption) (by assumption)
                  rw [hE1.1, hE1.2]
                  exact fun w' hw' => ⟨((none, 0), (none, 0)), rfl, hw'.fr (w0 := w) (S := []) (MI.m (by repeat constructor)), RdLN.nil _ _ _ _ _, RdLN.nil _ _ _ _ _⟩)
               | (have h1 : playB s t n = none := by unfold playB; rw [hhf]
                  have h2 : playN s t (n + 1) = none := by rw [playN, hpn]; simp only; rw [h1]
                  have hE1 := plE_3 (s := s) (t := t) hk0 hls (playN_none h2 _ (by omega))
                  rw [hE1.1, hE1.2]
                  exact fun w' hw' => ⟨((none, 0), (none, 0)), rfl, hw'.fr (w0 := w) (S := []) (MI.m (by repeat constructor)), RdLN.nil _ _ _ _ _, RdLN.nil _ _ _ _ _⟩)
               | (have h1 : playB s t n = none := by unfold playB; rw [hhf]; simp only; rw [hwh]
                  have h2 : playN s t (n + 1) = none := by rw [playN, hpn]; simp only; rw [h1]
                  have hE1 := plE_3 (s := s) (t := t) hk0 hls (playN_none h2 _ (by omega))
                  rw [hE1.1, hE1.2]
                  exact fun w' hw' => ⟨((none, 0), (none, 0)), rfl, hw'.fr (w0 := w) (S := []) (MI.m (by repeat constructor)), RdLN.nil _ _ _ _ _, RdLN.nil _ _ _ _ _⟩)
               | (obtain rfl : n = s.B.toNat := by omega
                  have hE1 := plE_4 (s := s) (t := t) hk0 hls (q := q) hpn
                  rw [hE1.1, hE1.2]
                  refine fun w' hw' => ⟨(ouA o1, ouA o2), ?_, hw'.fr (w0 := w) (S := []) (MI.m (by repeat constructor)), ?_, ?_⟩
                  · show Ending.returned (outV [ouV us.length o1, ouV vs.length o2, vi 0]) = _
                    rw [hul, hvl]; rfl
                  · have := RdLN.ofO hok1 hu hnu hw' (hw'.fr (w0 := wz) (S := S) (MI.m (by repeat constructor))) (w0 := w) (MI.m (by repeat constructor)) (by repeat constructor)
                    rw [hul] at this; exact this
                  · have := RdLN.ofO hok2 hvv hnv hw' (hw'.fr (w0 := wz) (S := S) (MI.m (by repeat constructor))) (w0 := w) (MI.m (by repeat constructor)) (by repeat constructor)
                    rw [hvl] at this; exact this))))))
theorem sPlayL_c (s : Smp) (hf : Few s) (t : Tth) (hth : ThT t) (tv pv gv hvv avv : Value) (w : World) (hr : RdSm w s tv pv gv) (hrt : RdTh w t hvv avv) :
    CnX Tryz.prog 43 #[smV s tv pv gv, tV hvv avv] w [] (fun y : (Option Addr × Nat) × (Option Addr × Nat) => .tuple #[slV (plQ s t).1.length y.1, slV (plQ s t).2.length y.2, vi (plE s t)])
      (fun y w' => RdLL 1 inE w' (slV (plQ s t).1.length y.1) (plQ s t).1 ∧ RdLL 1 boE w' (slV (plQ s t).2.length y.2) (plQ s t).2) :=
  (sPlay_c s hf t hth tv pv gv hvv avv w hr hrt).imp id (fun _ => rfl) (fun _ h => h) (fun _ _ _ h => ⟨h.1.ll, h.2.ll⟩)
theorem proveTruth_c (s : Smp) (hf : Few s) (t : Tth) (hth : ThT t) (tv pv gv hvv avv : Value) (w : World) (hr : RdSm w s tv pv gv) (hrt : RdTh w t hvv avv) :
    CnV Tryz.prog 45 #[smV s tv pv gv, tV hvv avv] w (.bool (decide (plE s t = 0))) := by
  have hr0 := hr
  have ht0 := hrt
  obtain ⟨_, _, _, _, rfl, _, _⟩ := hr.st.open boE_len false
  obtain ⟨_, _, _, _, rfl, _, _⟩ := hr.ps.open psE_len pas0
  obtain ⟨_, _, _, _, rfl, _, _⟩ := hr.sg.open sgE_len sgt0
  obtain ⟨_, _, _, _, rfl, _, _⟩ := hrt.hs.open
  obtain ⟨_, _, _, _, _, rfl, _, _, _⟩ := hrt.ac.open
  refine cnv (vs := [_, _]) Tryz.func45 rfl rfl ?_
  all_goals refine tc_seq fun K1 hK1 => ?_; refine tc_region ?_; refine tl_e (e_box rfl rfl rfl) rfl (fun b2 _ => ?_); refine tl_e (e_box rfl rfl rfl) rfl (fun b3 _ => ?_); refine tl_q (y_assign rfl) rfl ?_; refine tl_nil ?_; ((refine hK1 ?_; try (clear hK1; clear K1)))
  all_goals refine tc_seq fun K2 hK2 => ?_; refine tc_region ?_; refine tl_q (y_loadW rfl (by repeat constructor) (by rfl)) rfl ?_; refine tl_q (y_loadW rfl (by repeat constructor) (by rfl)) rfl ?_; refine tl_e (e_callX rfl (.cons rfl (.cons rfl .nil)) (fun w' hw' => sPlayL_c s hf t hth _ _ _ _ _ w' (hr0.fr (hw'.fr (w0 := w) (S := []) (MI.m (by repeat constructor)))) (ht0.fr (hw'.fr (w0 := w) (S := []) (MI.m (by repeat constructor)))))) rfl (fun _ _ => ?_); refine tl_q (y_move rfl) rfl ?_; refine tl_q (y_extract rfl rfl) rfl ?_; refine tl_q (y_extract rfl rfl) rfl ?_; refine tl_q (y_extract rfl rfl) rfl ?_; refine tl_q (y_assign rfl) rfl ?_; refine tl_q (y_assign rfl) rfl ?_; refine tl_q (y_assign rfl) rfl ?_; refine tl_nil ?_; ((refine hK2 ?_; try (clear hK2; clear K2)))
  all_goals refine tc_seq fun K3 hK3 => ?_; refine tc_region ?_; refine tl_q (y_move rfl) rfl ?_; refine tl_q (y_eql rfl rfl) rfl ?_; refine tl_q (y_assign rfl) rfl ?_; refine tl_nil ?_; ((refine hK3 ?_; try (clear hK3; clear K3)))
  all_goals refine tc_ret ?_; (repeat (first | refine tk_then_ret ?_))
  all_goals (refine tk_ret rfl rfl (.cons (.tmp rfl) .nil) ?_)
  all_goals (
   exact fun w' hw' => ⟨rfl, hw'.fr (w0 := w) (S := []) (MI.m (by repeat constructor))⟩)
end Go.Sp
/-
  Law's helpers: truths for the program; what is thin; the reference's IsListed.
-/
namespace Go.Sp
open Go Go.Proofs
end Go.Sp
/-
  SampleTruth.
-/
namespace Go.Sp
open Go Go.Proofs
theorem RdLL.openV {α : Type} {k : Nat} {enc : α → List Value} {w : World} {n : Nat} {y : Option Addr × Nat} {xss : List (List α)} (h : RdLL k enc w (slV n y) xss) :
    ∃ b o, ∃ us : List Sv, (0 < xss.length → y.1 = some ⟨b, o, none⟩) ∧ (∀ w', Fr [] w w' → ∀ i, i < xss.length → w'.cell? ⟨b, o + i, none⟩ = some (us.getD i sv0).1) ∧ ∀ w', Fr [] w w' → ∀ i, i < xss.length → RdS k enc w' (us.getD i sv0).1 (xss.getD i []) := by
  obtain ⟨ad, cap, b, o, us, e, had, hc, hr⟩ := h.open
  injection e with e1 e2 e3
  subst e1
  exact ⟨b, o, us, had, hc, hr⟩
end Go.Sp
/-
  SamplePlays.
-/
namespace Go.Sp
open Go Go.Proofs
theorem sPlayE_c {s : Smp} {t : Tth} {e : Int} {qq : List (List Int) × List (List Bool)} (hE : plE s t = e) (hQ : plQ s t = qq) (hf : Few s) (hth : ThT t) (tv pv gv hvv avv : Value) (w : World) (hr : RdSm w s tv pv gv) (hrt : RdTh w t hvv avv) :
    CnX Tryz.prog 43 #[smV s tv pv gv, tV hvv avv] w [] (fun y : (Option Addr × Nat) × (Option Addr × Nat) => .tuple #[slV qq.1.length y.1, slV qq.2.length y.2, vi e])
      (fun y w' => RdLL 1 inE w' (slV qq.1.length y.1) qq.1 ∧ RdLL 1 boE w' (slV qq.2.length y.2) qq.2) := by
  have h := sPlayL_c s hf t hth tv pv gv hvv avv w hr hrt
  rw [hE, hQ] at h
  exact h
theorem proveTruthE_c {s : Smp} {t : Tth} {e : Int} (hE : plE s t = e) (hf : Few s) (hth : ThT t) (tv pv gv hvv avv : Value) (w : World) (hr : RdSm w s tv pv gv) (hrt : RdTh w t hvv avv) :
    CnV Tryz.prog 45 #[smV s tv pv gv, tV hvv avv] w (.bool (decide (e = 0))) := by
  have h := proveTruth_c s hf t hth tv pv gv hvv avv w hr hrt
  rw [hE] at h
  exact h
theorem sameL2_v {a : List Int} (ha : a.length ≤ 1000) (av bv : Value) (w : World) (hra : RdI w av a) (hrb : RdI w bv a) : CnV Tryz.prog 24 #[av, bv] w (.bool true) := by
  have := rSame_c a a (by omega) (by omega) av bv w hra hrb
  rw [decide_eq_true rfl] at this
  exact this
end Go.Sp
/-
  The document's examples, computed; two, with its blocks known.
-/
namespace Go.Sp
open Go Go.Proofs
/-- A value of several cells, stored in the middle of a block. -/
theorem e_storeP {P : Program} {N : NN} {F : List (Nat × Value)} {bs : List (World × List Nat)} {H : List (Nat × Obj)} {ty : TypeId} {pos : String} {after : Array Edge} {g : Option (Nat × Bool)} {t : TypeId} {n : Nat} {zs : Array Value} [h : TyAgg P t n zs] {x y : Operand} {b o : Nat} {cs l l' : List Value} {e : TypeId} {H' : List (Nat × Obj)}
    (hx : evalO F x = some (.pointer (some ⟨b, o, none⟩))) (hy : evalO F y = some (.agg cs.toArray)) (hu : HU b (.cells l.toArray e (0, 0)) (.cells l'.toArray e (0, 0)) H H')
    (hn : cs.length = n) (hl : l' = l.take o ++ (cs ++ l.drop (o + cs.length))) (hlt : o + cs.length ≤ l.length) (ho : ∀ v ∈ cs, v.oneCell' = true) :
    OpE P ⟨none, .store t x y, ty, pos, after, g⟩ N F bs H (fun _ : Unit => True) (fun _ => F) (fun _ => bs) (fun _ => H') := by
  unfold OpE
  intro a w ht hw K Q hK
  obtain ⟨i, hi, hs, _⟩ := h.info
  have hb := hw.heap _ hu.mem
  have hz : (sizeOf t).run P w = .ok n w := sizeOf_run (by simp [hi, hs]) w
  obtain ⟨w', c', h1, h2, h3, h4, h5, h6, h7⟩ := storeCells_at (P := P) (b := b) (o := o) (e := e) cs 0 w l.toArray hb (by simp; omega) ho
  have hcc : c' = l'.toArray := by
    apply Array.ext_getElem?
    intro k
    rw [h7 k, hl, List.getElem?_toArray, List.getElem?_toArray]
    have hlo : (l.take o).length = o := by rw [List.length_take]; omega
    by_cases hk : o + 0 ≤ k ∧ k < o + 0 + cs.length
    · rw [if_pos hk, List.getElem?_append_right (by omega), hlo, List.getElem?_append_left (by omega)]; rfl
    · rw [if_neg hk]
      by_cases hk2 : k < o
      · rw [List.getElem?_append_left (by omega), List.getElem?_take_of_lt hk2]
      · rw [List.getElem?_append_right (by omega), hlo, List.getElem?_append_right (by omega), List.getElem?_drop]
        congr 1; omega
  subst hcc
  unfold Oper.wp
  simp only [execOp, Instr.storeAt, Instr.sureAddr, Sem.run_bind, ht.eval hx, ht.eval hy, Result.andThen, Sem.run_pure, storeVar, hz, Value.cells, List.size_toArray, hn, ne_eq, not_true, if_false, h1, Oper.upon]
  exact hK () _ _ trivial ht (hw.set hu ⟨h2, h3, h4, h5⟩)
theorem HG.add3 {bs : List (World × List Nat)} {H : List (Nat × Obj)} {w w' : World} (h : HG bs H w) (f : Fr [] w w') {L : List (Nat × Obj)} (hn : (L.map Prod.fst).Nodup) (hL : ∀ q ∈ L, w.heap.size ≤ q.1 ∧ w'.heap[q.1]? = some q.2) : HG bs (L ++ H) w' := by
  have h' := h.call f
  refine ⟨h'.base, fun p hp => ?_, ?_, fun p hp β hβ => ?_⟩
  · rcases List.mem_append.1 hp with hp | hp
    · exact (hL p hp).2
    · exact h'.heap p hp
  · rw [List.map_append, List.nodup_append]
    refine ⟨hn, h.nodup, fun a ha b hb e => ?_⟩
    subst e
    obtain ⟨p, hp, e1⟩ := List.mem_map.1 ha
    obtain ⟨q, hq, e2⟩ := List.mem_map.1 hb
    have h1 := (hL p hp).1
    have h2 := h.lt hq
    omega
  · rcases List.mem_append.1 hp with hp | hp
    · exact .inr (Nat.le_trans (h.base β hβ).size (hL p hp).1)
    · exact h.own p hp β hβ
/-- A call whose three blocks are known. -/
theorem e_callB3 {P : Program} {N : NN} {F : List (Nat × Value)} {bs : List (World × List Nat)} {H : List (Nat × Obj)} {d : Tmp} {ty : TypeId} {pos : String} {after : Array Edge} {g : Option (Nat × Bool)} {f : FuncId} [GoFn P f] {xs : List Operand} {tys : Array TypeId} {vs : List Value} {α : Type} {val : α → Value} {b1 b2 b3 : α → Nat} {o1 o2 o3 : α → Obj}
    (hd : Nat.blt d N.n = true) (hxs : EA F xs vs) (hc : ∀ w, HG bs H w → CnX P f vs.toArray w [] val (fun x w' => ([b1 x, b2 x, b3 x] : List Nat).Nodup ∧ ∀ q ∈ [(b1 x, o1 x), (b2 x, o2 x), (b3 x, o3 x)], w.heap.size ≤ q.1 ∧ w'.heap[q.1]? = some q.2)) :
    OpE P ⟨some d, .call ⟨.value (.func f), xs.toArray, tys⟩, ty, pos, after, g⟩ N F bs H (fun _ : α => True) (fun y => (d, val y) :: F) (fun _ => bs) (fun y => (b1 y, o1 y) :: (b2 y, o2 y) :: (b3 y, o3 y) :: H) := by
  unfold OpE
  intro a w ht hw K Q hK
  unfold Oper.wp
  rw [exec_call (x := .func f) rfl hxs ht w]
  simp only [Oper.upon]
  simp only [Array.empty_append, Array.append_empty]
  have hcc := hc w hw
  unfold CnX at hcc
  refine hcc.mono fun e w' he => ?_
  obtain ⟨x, rfl, hf, hn, hL⟩ := he
  have hg := hw.add3 hf (L := [(b1 x, o1 x), (b2 x, o2 x), (b3 x, o3 x)]) hn hL
  exact hK x _ _ trivial (ht.put hd _) hg
abbrev twPs : List Value := [vi 0, vi 0, vi 1, vi 1, vi 2, vi 0, vi 1, vi 2, vi 3, vi 3, vi 1, vi 0, vi 1, vi 2, vi 2]
set_option maxHeartbeats 1000000 in
theorem twoK_c (w : World) :
    CnX Tryz.prog 48 #[.slice none 0 0] w [] (fun y : Nat × Nat × Nat × Nat × List Value => smV (twoS []) (.slice (some ⟨y.1, 0, none⟩) 3 3) (.slice (some ⟨y.2.1, 0, none⟩) 3 3) (.slice (some ⟨y.2.2.1, 0, none⟩) 2 y.2.2.2.1))
      (fun y w' => ([y.1, y.2.1, y.2.2.1] : List Nat).Nodup ∧ ∀ q ∈ [(y.1, Obj.cells [.bool false, .bool false, .bool true].toArray 4 (0, 0)), (y.2.1, Obj.cells twPs.toArray 92 (0, 0)), (y.2.2.1, Obj.cells (vi 0 :: vi 2 :: .bool true :: vi 1 :: vi 4 :: .bool true :: y.2.2.2.2).toArray 89 (0, 0))], w.heap.size ≤ q.1 ∧ w'.heap[q.1]? = some q.2) := by
  refine cnx0 (vs := [_]) Tryz.func48 rfl rfl ?_
  all_goals refine tc_seq fun K1 hK1 => ?_; refine tc_region ?_; refine tl_e (e_allocN rfl) rfl (fun b2 _ => ?_); refine tl_nil ?_; ((refine hK1 ?_; try (clear hK1; clear K1)))
  all_goals refine tc_seq fun K2 hK2 => ?_; refine tc_region ?_; ((refine tl_e (e_bslice rfl (by (repeat (first | exact .nil | apply PV.one rfl rfl)); done) rfl rfl) rfl (fun b3 _ => ?_)))
  all_goals refine tl_e (e_callV rfl (.cons rfl (.cons rfl .nil)) (fun w' _ => between_c _ _ w')) rfl (fun _ _ => ?_); refine tl_q (y_build_g (by repeat constructor)) rfl ?_; refine tl_e (e_callV rfl (.cons rfl (.cons rfl .nil)) (fun w' _ => between_c _ _ w')) rfl (fun _ _ => ?_); refine tl_q (y_build_g (by repeat constructor)) rfl ?_; refine tl_e (e_callV rfl (.cons rfl (.cons rfl .nil)) (fun w' _ => between_c _ _ w')) rfl (fun _ _ => ?_); refine tl_q (y_build_g (by repeat constructor)) rfl ?_; refine tl_e (e_bsliceG rfl (.agg rfl rfl (.agg rfl rfl (.agg rfl rfl .nil))) rfl rfl) rfl (fun b10 _ => ?_); refine tl_q (y_build_g (by repeat constructor)) rfl ?_; refine tl_q (y_build_g (by repeat constructor)) rfl ?_; refine tl_e (e_bsliceG rfl (.agg rfl rfl (.agg rfl rfl .nil)) rfl rfl) rfl (fun b13 _ => ?_); refine tl_q (y_move rfl) rfl ?_; refine tl_e (e_append_own (old := [vi 0, vi 2, .bool true, vi 1, vi 4, .bool true]) (junk := []) (vs := []) (n := 0) rfl rfl rfl (by repeat constructor) rfl rfl (Nat.le_refl 2) (fun w' hw' => RdS.nil 3 sgE w' 0) (fun u hu => by cases hu) (by omega) rfl) rfl (fun r hq => ?_); refine tl_q (y_build_g (by repeat constructor)) rfl ?_; refine tl_e (e_storeW rfl rfl (by repeat constructor) (by rfl) (by rfl) (by simp [Value.oneCell'])) rfl (fun _ _ => ?_); refine tl_nil ?_; ((refine hK2 ?_; try (clear hK2; clear K2)))
  all_goals refine tc_ret ?_; (repeat (first | refine tk_then_ret ?_))
  all_goals (refine tk_ret rfl rfl (.cons (.agg inferInstance rfl (by repeat constructor) (by rfl)) .nil) ?_)
  all_goals (
   refine fun w' hw' => ⟨(b3, b10, r.1, r.2.1, r.2.2), rfl, hw'.fr (w0 := w) (S := []) (MI.m (by repeat constructor)), ?_, ?_⟩
   · have hh := hw'.nodup
     simp only [List.map_cons, List.map_nil, List.nodup_cons, List.mem_cons, not_or, List.not_mem_nil, not_false_eq_true, and_true, List.nodup_nil] at hh ⊢
     omega
   · intro q hq2
     rcases List.mem_cons.1 hq2 with rfl | hq2
     · exact ⟨(hw'.own _ (HM.mem (b := b3) (by repeat constructor)) (w, []) (MI.m (by repeat constructor))).resolve_left (by simp), hw'.heap _ (HM.mem (b := b3) (by repeat constructor))⟩
     · rcases List.mem_cons.1 hq2 with rfl | hq2
       · exact ⟨(hw'.own _ (HM.mem (b := b10) (by repeat constructor)) (w, []) (MI.m (by repeat constructor))).resolve_left (by simp), hw'.heap _ (HM.mem (b := b10) (by repeat constructor))⟩
       · obtain rfl := List.mem_singleton.1 hq2
         exact ⟨(hw'.own _ (HM.mem (b := r.1) (by repeat constructor)) (w, []) (MI.m (by repeat constructor))).resolve_left (by simp), hw'.heap _ (HM.mem (b := r.1) (by repeat constructor))⟩)
def nmT (r : List Int) : Tth := ⟨[1, 3, 2], [r, [0, 0, 0, 0, 0]]⟩
theorem nm_th {r : List Int} (h : r.length = 5) : ThT (nmT r) := ⟨by simp [nmT], by simp [nmT], fun j hj => by
  have hj' : j < 2 := hj
  match j, hj' with
  | 0, _ => show r.length ≤ 15; omega
  | 1, _ => show (5 : Nat) ≤ 15; omega⟩
abbrev nmQ : List (List Int) × List (List Bool) := ([[0, 1, 1, 2, 2], [0, 0, 1, 1, 1]], [[true, true, true, true, false], [true, true, true, true, true]])
theorem nm_h : hdE (twoS []) 0 4 = 0 ∧ hdL (twoS []) 0 4 = [2] := by decide +kernel
theorem nm_o : opE (twoS []) 1 = 0 ∧ opL (twoS []) 1 = [] := by decide +kernel
theorem nm_x : chkS (twoS []) = 0 ∧ lvN (twoS []) 2 = [] := by decide +kernel
theorem nm_x2 : levL (twoS []) = [] := by
  unfold levL lvS
  rw [if_pos nm_x.1, show (twoS []).B.toNat = 2 from rfl, nm_x.2]
  simp
theorem nm_p0 : plE (twoS []) (nmT [0, 0, 0, 3, 1]) = 0 ∧ plQ (twoS []) (nmT [0, 0, 0, 3, 1]) = nmQ := by decide +kernel
theorem nm_p1 : plE (twoS []) (nmT [0, 0, 1, 3, 1]) = 11 ∧ plQ (twoS []) (nmT [0, 0, 1, 3, 1]) = ([], []) := by decide +kernel
theorem nm_p2 : plE (twoS []) (nmT [0, 0, 4, 3, 1]) = 2 ∧ plQ (twoS []) (nmT [0, 0, 4, 3, 1]) = ([], []) := by decide +kernel
theorem nm_h2 : (hdE (twoS []) 2 0 = 2 ∧ hdL (twoS []) 2 0 = []) ∧ hdE (twoS []) 0 5 = 2 ∧ hdL (twoS []) 0 5 = [] := by decide +kernel
theorem nm_j : (opE (twoS [badG]) 1 = 9 ∧ opL (twoS [badG]) 1 = []) ∧ opE (twoS [badG]) 2 = 2 ∧ opL (twoS [badG]) 2 = [] := by decide +kernel
theorem nm_f : frsE (twoS []) = (0, 7) := by decide +kernel
theorem nm_m : alF (twoS [badG]) = 0 ∧ vdE (twoS [badG]) = 9 := by decide +kernel
def selfS : Smp := { twoS [] with ps := [⟨0, 0, 0, 1, 2⟩, ⟨0, 1, 2, 3, 3⟩, ⟨1, 0, 1, 2, 2⟩] }
def stmpS : Smp := { twoS [] with st := [true] }
def hourS : Smp := { twoS [] with ps := [⟨0, 0, 1, 1, 5⟩, ⟨0, 1, 2, 3, 3⟩, ⟨1, 0, 1, 2, 2⟩] }
def botlS : Smp := { twoS [] with sg := [⟨2, 2, true⟩, ⟨1, 4, true⟩] }
def manyB : Smp := { twoS [] with B := 4 }
def wideS : Smp := { twoS [] with L := 9, ps := [⟨0, 0, 1, 0, 9⟩, ⟨0, 0, 1, 0, 9⟩, ⟨0, 0, 1, 0, 9⟩, ⟨0, 0, 1, 0, 1⟩] }
def zeroS : Smp := ⟨0, 0, 0, 0, [], [], []⟩
theorem nm_chk : chkS selfS = 1 ∧ chkS stmpS = 1 ∧ chkS hourS = 1 ∧ chkS botlS = 1 ∧ chkS manyB = 3 ∧ chkS wideS = 3 ∧ chkS zeroS = 1 := by decide +kernel
theorem chk_v {s : Smp} {e : Int} (hE : chkS s = e) (hf : Few s) (tv pv gv : Value) (w : World) (hr : RdSm w s tv pv gv) : CnV Tryz.prog 46 #[smV s tv pv gv] w (vi e) := by
  have h := checkSample_c s hf tv pv gv w hr
  rw [hE] at h
  exact h
theorem openE_c {s : Smp} {b e : Int} {L : List Int} (hE : opE s b = e) (hL : opL s b = L) (hf : Few s) (tv pv gv : Value) (w : World) (hr : RdSm w s tv pv gv) :
    CnX Tryz.prog 19 #[smV s tv pv gv, vi b] w [] (fun y : Option Addr × Nat => .tuple #[slV L.length y, vi e]) (fun y w' => RdI w' (slV L.length y) L) := by
  have h := openers_c s hf b tv pv gv w hr
  rw [hE, hL] at h
  exact h.imp id (fun _ => rfl) (fun _ h => h) (fun _ _ _ h => h.toI)
theorem holdE_c {s : Smp} {b h e : Int} {L : List Int} (hE : hdE s b h = e) (hL : hdL s b h = L) (hf : Few s) (tv pv gv : Value) (w : World) (hr : RdSm w s tv pv gv) :
    CnX Tryz.prog 17 #[smV s tv pv gv, vi b, vi h] w [] (fun y : Option Addr × Nat => .tuple #[slV L.length y, vi e]) (fun y w' => RdI w' (slV L.length y) L) := by
  have h := holders_c s hf b h tv pv gv w hr
  rw [hE, hL] at h
  exact h.imp id (fun _ => rfl) (fun _ h => h) (fun _ _ _ h => h.toI)
theorem firstE_c {s : Smp} {n e : Int} (hE : frsE s = (n, e)) (hf : Few s) (tv pv gv : Value) (w : World) (hr : RdSm w s tv pv gv) : CnV Tryz.prog 30 #[smV s tv pv gv] w (.tuple #[vi n, vi e]) := by
  have h := first_c s hf tv pv gv w hr
  rw [hE] at h
  exact h
theorem alikE_c {s : Smp} {a e : Int} (h1 : alF s = a) (h2 : vdE s = e) (hf : Few s) (tv pv gv : Value) (w : World) (hr : RdSm w s tv pv gv) : CnV Tryz.prog 27 #[smV s tv pv gv] w (.tuple #[vi a, vi e]) := by
  have h := alike_c s hf tv pv gv w hr
  rw [h1, h2] at h
  exact h
theorem RdS.ofHeap {α : Type} {k : Nat} {enc : α → List Value} (hk : ∀ x, (enc x).length = k) {w : World} {b cap : Nat} {xs : List α} {junk : List Value} {e : TypeId} {f : Nat × Nat} (h : w.heap[b]? = some (.cells (xs.flatMap enc ++ junk).toArray e f)) : RdS k enc w (.slice (some ⟨b, 0, none⟩) xs.length cap) xs := by
  refine ⟨flatS_len hk xs, some ⟨b, 0, none⟩, cap, rfl, fun _ => ⟨b, 0, rfl, ?_⟩⟩
  have := CA_pre (xs.flatMap enc) junk e f
  rw [flatS_len hk] at this
  exact this.cells h
theorem map_flatI : ∀ r : List Int, r.map vi = r.flatMap inE
  | [] => rfl
  | a :: l => by rw [List.map_cons, List.flatMap_cons, map_flatI l]; rfl
theorem nm_rd {bs : List (World × List Nat)} {H : List (Nat × Obj)} {w w' : World} {b40 b41 b42 b43 : Nat} (hw : HG bs H w) (h40 : HM b40 (.cells [vi 1, vi 3, vi 2].toArray 3 (0, 0)) H) (h42 : HM b42 (.cells [vi 0, vi 0, vi 0, vi 0, vi 0].toArray 3 (0, 0)) H)
    (h43 : HM b43 (.cells [.slice (some ⟨b41, 0, none⟩) 5 5, .slice (some ⟨b42, 0, none⟩) 5 5].toArray 29 (0, 0)) H) (hn : (¬ b40 = b41 ∧ ¬ b42 = b41) ∧ ¬ b43 = b41) (f : Fr [b41] w w') {r : List Int} (hr : r.length = 5) (h41 : w'.heap[b41]? = some (.cells (r.map vi).toArray 3 (0, 0))) :
    RdTh w' (nmT r) (.slice (some ⟨b40, 0, none⟩) 3 3) (.slice (some ⟨b43, 0, none⟩) 2 2) := by
  have g40 := f.keepS (by simpa using hn.1.1) (hw.heap _ h40.mem)
  have g42 := f.keepS (by simpa using hn.1.2) (hw.heap _ h42.mem)
  have g43 := f.keepS (by simpa using hn.2) (hw.heap _ h43.mem)
  refine ⟨(RdS.ofHeap (xs := [1, 3, 2]) (junk := []) inE_len g40).toI, [⟨.slice (some ⟨b41, 0, none⟩) 5 5, rfl⟩, ⟨.slice (some ⟨b42, 0, none⟩) 5 5, rfl⟩], RdS.ofHeap (xs := [⟨.slice (some ⟨b41, 0, none⟩) 5 5, rfl⟩, ⟨.slice (some ⟨b42, 0, none⟩) 5 5, rfl⟩]) (junk := []) svE_len g43, rfl, fun j hj => ?_⟩
  have hj' : j < 2 := hj
  have e1 : (r.map vi) = r.flatMap inE ++ [] := by rw [List.append_nil, map_flatI]
  match j, hj' with
  | 0, _ =>
    rw [e1] at h41
    have := RdS.ofHeap (cap := 5) inE_len h41
    rw [hr] at this
    exact this
  | 1, _ => exact RdS.ofHeap (xs := [0, 0, 0, 0, 0]) (junk := []) inE_len g42
end Go.Sp
/-
  SampleNames.
-/
namespace Go.Sp
open Go Go.Proofs
theorem selfF : Few selfS := ⟨by decide, by decide, by decide⟩
theorem stmpF : Few stmpS := ⟨by decide, by decide, by decide⟩
theorem hourF : Few hourS := ⟨by decide, by decide, by decide⟩
theorem botlF : Few botlS := ⟨by decide, by decide, by decide⟩
theorem manyF : Few manyB := ⟨by decide, by decide, by decide⟩
theorem wideF : Few wideS := ⟨by decide, by decide, by decide⟩
theorem zeroF : Few zeroS := ⟨by decide, by decide, by decide⟩
set_option maxHeartbeats 16000000 in
theorem snames_c (w : World) : CnV Tryz.prog 13 #[] w (.bool true) := by
  refine cnv (vs := []) Tryz.func13 rfl rfl ?_
  all_goals refine tc_seq fun K1 hK1 => ?_; refine tc_region ?_; refine tl_q (y_assign rfl) rfl ?_; refine tl_nil ?_; ((refine hK1 ?_; try (clear hK1; clear K1)))
  all_goals refine tc_seq fun K2 hK2 => ?_; refine tc_lay ([]) (SB.s .nil) (fun wl1 hl1 => ?_); refine tc_region ?_; refine tl_e (e_callX rfl (.cons rfl .nil) (fun w' hw' => two_c [] (by simp) (.slice none 0 0) w' (RdS.nil _ _ _ _))) rfl (fun x1 hx1 => ?_); refine tl_e (e_callX rfl (.cons rfl (.cons rfl (.cons rfl .nil))) (fun w' hw' => holdE_c nm_h.1 nm_h.2 two0 _ _ _ w' (hx1.1.fr (hw'.calm hx1.2 (MI.m (by repeat constructor)) (List.Sublist.refl _))))) rfl (fun y1 hy1 => ?_); refine tl_q (y_move rfl) rfl ?_; refine tl_q (y_extract rfl rfl) rfl ?_; refine tl_q (y_extract rfl rfl) rfl ?_; refine tl_q (y_assign rfl) rfl ?_; refine tl_q (y_assign rfl) rfl ?_; refine tl_nil ?_; ((refine hK2 ?_; try (clear hK2; clear K2)))
  all_goals refine tc_seq fun K3 hK3 => ?_; refine tc_lay ([]) (SB.s .nil) (fun wl2 hl2 => ?_); refine tc_region ?_; refine tl_e (e_callX rfl (.cons rfl .nil) (fun w' hw' => two_c [] (by simp) (.slice none 0 0) w' (RdS.nil _ _ _ _))) rfl (fun x2 hx2 => ?_); refine tl_e (e_callX rfl (.cons rfl (.cons rfl .nil)) (fun w' hw' => openE_c nm_o.1 nm_o.2 two0 _ _ _ w' (hx2.1.fr (hw'.calm hx2.2 (MI.m (by repeat constructor)) (List.Sublist.refl _))))) rfl (fun y2 hy2 => ?_); refine tl_q (y_move rfl) rfl ?_; refine tl_q (y_extract rfl rfl) rfl ?_; refine tl_q (y_extract rfl rfl) rfl ?_; refine tl_q (y_assign rfl) rfl ?_; refine tl_q (y_assign rfl) rfl ?_; refine tl_nil ?_; ((refine hK3 ?_; try (clear hK3; clear K3)))
  all_goals refine tc_seq fun K4 hK4 => ?_; refine tc_lay ([]) (SB.s .nil) (fun wl3 hl3 => ?_); refine tc_region ?_; refine tl_e (e_callX rfl (.cons rfl .nil) (fun w' hw' => two_c [] (by simp) (.slice none 0 0) w' (RdS.nil _ _ _ _))) rfl (fun x3 hx3 => ?_); refine tl_e (e_callX rfl (.cons rfl .nil) (fun w' hw' => leaveK_c (chkS_0.1 nm_x.1) nm_x2 two0 _ _ _ w' (hx3.1.fr (hw'.calm hx3.2 (MI.m (by repeat constructor)) (List.Sublist.refl _))))) rfl (fun y3 hy3 => ?_); refine tl_q (y_move rfl) rfl ?_; refine tl_q (y_extract rfl rfl) rfl ?_; refine tl_q (y_extract rfl rfl) rfl ?_; refine tl_q (y_assign rfl) rfl ?_; refine tl_q (y_assign rfl) rfl ?_; refine tl_nil ?_; ((refine hK4 ?_; try (clear hK4; clear K4)))
  all_goals refine tc_seq fun K5 hK5 => ?_; refine tc_region ?_; ((refine tl_e (e_bslice rfl (by (repeat (first | exact .nil | apply PV.one rfl rfl)); done) rfl rfl) rfl (fun b40 _ => ?_)))
  all_goals ((refine tl_e (e_bslice rfl (by (repeat (first | exact .nil | apply PV.one rfl rfl)); done) rfl rfl) rfl (fun b41 _ => ?_)))
  all_goals ((refine tl_e (e_bslice rfl (by (repeat (first | exact .nil | apply PV.one rfl rfl)); done) rfl rfl) rfl (fun b42 _ => ?_)))
  all_goals ((refine tl_e (e_bslice rfl (by (repeat (first | exact .nil | apply PV.one rfl rfl)); done) rfl rfl) rfl (fun b43 _ => ?_)))
  all_goals (refine tl_q (y_build_g (by repeat constructor)) rfl ?_); refine tl_e (e_allocN rfl) rfl (fun b7 _ => ?_); refine tl_e (e_storeW rfl rfl (by repeat constructor) (by rfl) (by rfl) (two_ones rfl rfl)) rfl (fun _ _ => ?_); refine tl_nil ?_; ((refine hK5 ?_; try (clear hK5; clear K5)))
  all_goals refine tc_seq fun K6 hK6 => ?_; refine tc_lay ([(b41, .cells [vi 0, vi 0, vi 0, vi 3, vi 1].toArray 3 (0, 0))]) (SB.s (by repeat constructor)) (fun wl5 hl5 => ?_); ((have hnn : (¬ b40 = b41 ∧ ¬ b42 = b41) ∧ ¬ b43 = b41 ∧ ¬ b7 = b41 := by have hh := hl5.nodup; simp only [List.map_cons, List.map_nil, List.nodup_cons, List.mem_cons, not_or, List.not_mem_nil, not_false_eq_true, and_true] at hh; omega))
  all_goals ((have hn7 := hnn.2.2; have hn43 := hnn.2.1))
  all_goals refine tc_draw (by kernel_rfl) ?_; ((refine tx_q 1 rfl (by kernel_rfl) (y_loadWf rfl (hl5.at (by repeat constructor)) (MI.m (by repeat constructor)) (by first | (simp; done) | (simp; omega)) (by rfl)) rfl (fun _ _ _ h => h) (fun _ h => h) ?_))
  all_goals (refine tx_e 0 rfl (by kernel_rfl) rfl (e_callX rfl (.cons rfl .nil) (fun w' hw' => two_c [] (by simp) (.slice none 0 0) w' (RdS.nil _ _ _ _))) (.inr fun _ _ h => h.sub (fun _ h => List.mem_cons_of_mem _ h) (List.Sublist.refl _)) (fun x5 hx5 => ?_)); refine tx_e 2 rfl (by kernel_rfl) rfl (e_callX rfl (.cons rfl (.cons rfl .nil)) (fun w' hw' => sPlayE_c nm_p0.1 nm_p0.2 two0 (nm_th rfl) _ _ _ _ _ w' (hx5.1.fr (hw'.calm hx5.2 (MI.m (by repeat constructor)) (List.Sublist.refl _))) (nm_rd hl5 (by repeat constructor) (by repeat constructor) (by repeat constructor) ⟨hnn.1, hnn.2.1⟩ (hw'.fr (w0 := wl5) (S := [b41]) (MI.m (by repeat constructor))) (r := [0, 0, 0, 3, 1]) rfl (hw'.heap _ (HM.mem (b := b41) (by repeat constructor)))))) (.inr fun _ _ h => h.sub (fun _ h => List.mem_cons_of_mem _ h) (List.Sublist.refl _)) (fun p5 hp5 => ?_); refine tx_p 3 rfl (by kernel_rfl) (y_move rfl) rfl (fun _ _ _ h => h) (fun _ h => h) ?_; refine tx_p 4 rfl (by kernel_rfl) (y_extract rfl rfl) rfl (fun _ _ _ h => h) (fun _ h => h) ?_; refine tx_p 5 rfl (by kernel_rfl) (y_extract rfl rfl) rfl (fun _ _ _ h => h) (fun _ h => h) ?_; refine tx_p 6 rfl (by kernel_rfl) (y_extract rfl rfl) rfl (fun _ _ _ h => h) (fun _ h => h) ?_; refine tx_p 7 rfl (by kernel_rfl) (y_assign rfl) rfl (fun _ _ _ h => h) (fun _ h => h) ?_; refine tx_p 8 rfl (by kernel_rfl) (y_assign rfl) rfl (fun _ _ _ h => h) (fun _ h => h) ?_; refine tx_p 9 rfl (by kernel_rfl) (y_assign rfl) rfl (fun _ _ _ h => h) (fun _ h => h) ?_; refine tx_done (by kernel_rfl) ?_; ((refine hK6 ?_; try (clear hK6; clear K6)))
  all_goals refine tc_seq fun K7 hK7 => ?_; refine tc_seq fun K8 hK8 => ?_; ((obtain ⟨⟨hp1, hp2⟩, hpw⟩ := hp5; obtain ⟨hb0, ho0, hus, hadh, hch, hrh⟩ := hp1.openV; obtain ⟨wb0, wo0, wus, hadw, hcw, hrw⟩ := hp2.openV))
  all_goals (obtain ⟨ad1, cp1, c1, o1, hen1, had1, hcn1⟩ := (hrh p5.2 (Fr.refl _ _) 0 (by decide)).open inE_len 0)
  all_goals (obtain ⟨ad2, cp2, c2, o2, hen2, had2, hcn2⟩ := (hrh p5.2 (Fr.refl _ _) 1 (by decide)).open inE_len 0)
  all_goals (obtain ⟨ad3, cp3, c3, o3, hen3, had3, hcn3⟩ := (hrw p5.2 (Fr.refl _ _) 0 (by decide)).open boE_len false)
  all_goals ((have hr1 : ∀ w', Fr [] p5.2 w' → RdI w' (.slice ad1 5 cp1) [0, 1, 1, 2, 2] := fun w' f => by have h := (hrh w' f 0 (by decide)).toI; rw [hen1] at h; exact h))
  all_goals ((have hr2 : ∀ w', Fr [] p5.2 w' → RdI w' (.slice ad2 5 cp2) [0, 0, 1, 1, 1] := fun w' f => by have h := (hrh w' f 1 (by decide)).toI; rw [hen2] at h; exact h))
  all_goals refine tc_drawS ([(b41, .cells [vi 0, vi 0, vi 0, vi 3, vi 1].toArray 3 (0, 0))]) (by kernel_rfl) ?_; refine tx_p 0 rfl (by kernel_rfl) (y_move rfl) rfl (fun _ _ _ h => h) (fun _ h => h.subl (SB.s (by repeat constructor)) (SB.s (by repeat constructor))) ?_; refine tx_p 1 rfl (by kernel_rfl) (y_neq rfl rfl) rfl (fun _ _ _ h => h) (fun _ h => h.subl (SB.s (by repeat constructor)) (SB.s (by repeat constructor))) ?_; refine tx_p 2 rfl (by kernel_rfl) (y_move rfl) rfl (fun _ _ _ h => h) (fun _ h => h.subl (SB.s (by repeat constructor)) (SB.s (by repeat constructor))) ?_; refine tx_pg 3 rfl (by kernel_rfl) rfl rfl (y_move rfl) rfl (fun _ _ _ h => h) (fun _ h => h.subl (SB.s (by repeat constructor)) (SB.s (by repeat constructor))) ?_; ((refine tx_single 4 (by kernel_rfl) (to_eg rfl rfl rfl rfl (e_bslice rfl (by (repeat (first | exact .nil | apply PV.one rfl rfl)); done) rfl rfl) (.inr ⟨fun _ _ h => h.subl (SB.s (by repeat constructor)) (SB.s (by repeat constructor)), fun _ h => h⟩) (fun _ _ => ?_))))
  all_goals (refine tx_single 5 (by kernel_rfl) (to_eg rfl rfl rfl rfl (e_callV rfl (.cons rfl (.cons rfl .nil)) (fun w' hw' => sameL2_v (a := [2]) (by decide) _ _ w' (hy1.1.fr (hw'.fr (w0 := y1.2) (S := []) (MI.m (by repeat constructor)))) (RdI.own0 hw' (by repeat constructor)))) (.inr ⟨fun _ _ h => h.subl (SB.s (by repeat constructor)) (SB.s (by repeat constructor)), fun _ h => h⟩) (fun _ _ => ?_))); refine tx_norm (L' := [true, true, true, true, true, true, false, false, false, false, false, false, false, false, false, false, false, false, false, false, false, false, false, false, false, false, false, false, false, false, false, false, false, false, false, false, false, false, false, false, false, false, false, false, false, false, false, false, false, false, false, false, false, false, false, false, false, false, false, false, false, false, false, false, false, false, false, false, false, false, false, false, false, false, false, false, false, false, false, false, false, false, false, false]) (by kernel_rfl) ?_; refine tx_pg 6 rfl (by kernel_rfl) rfl rfl (y_not rfl) rfl (fun _ _ _ h => h) (fun _ h => h.subl (SB.s (by repeat constructor)) (SB.s (by repeat constructor))) ?_; refine tx_p 7 rfl (by kernel_rfl) (y_pick_f rfl rfl) rfl (fun _ _ _ h => h) (fun _ h => h.subl (SB.s (by repeat constructor)) (SB.s (by repeat constructor))) ?_; refine tx_p 8 rfl (by kernel_rfl) (y_move rfl) rfl (fun _ _ _ h => h) (fun _ h => h.subl (SB.s (by repeat constructor)) (SB.s (by repeat constructor))) ?_; refine tx_pg 9 rfl (by kernel_rfl) rfl rfl (y_move rfl) rfl (fun _ _ _ h => h) (fun _ h => h.subl (SB.s (by repeat constructor)) (SB.s (by repeat constructor))) ?_; refine tx_pg 10 rfl (by kernel_rfl) rfl rfl (y_neq rfl rfl) rfl (fun _ _ _ h => h) (fun _ h => h.subl (SB.s (by repeat constructor)) (SB.s (by repeat constructor))) ?_; refine tx_p 11 rfl (by kernel_rfl) (y_pick_f rfl rfl) rfl (fun _ _ _ h => h) (fun _ h => h.subl (SB.s (by repeat constructor)) (SB.s (by repeat constructor))) ?_; refine tx_norm (L' := [true, true, true, true, true, true, true, true, true, true, true, true, false, false, false, false, false, false, false, false, false, false, false, false, false, false, false, false, false, false, false, false, false, false, false, false, false, false, false, false, false, false, false, false, false, false, false, false, false, false, false, false, false, false, false, false, false, false, false, false, false, false, false, false, false, false, false, false, false, false, false, false, false, false, false, false, false, false, false, false, false, false, false, false]) (by kernel_rfl) ?_; refine tx_p 12 rfl (by kernel_rfl) (y_move rfl) rfl (fun _ _ _ h => h) (fun _ h => h.subl (SB.s (by repeat constructor)) (SB.s (by repeat constructor))) ?_; refine tx_pg 13 rfl (by kernel_rfl) rfl rfl (y_move rfl) rfl (fun _ _ _ h => h) (fun _ h => h.subl (SB.s (by repeat constructor)) (SB.s (by repeat constructor))) ?_; refine tx_qg 14 rfl (by kernel_rfl) rfl rfl (y_len rfl) rfl (fun _ _ _ h => h) (fun _ h => h.subl (SB.s (by repeat constructor)) (SB.s (by repeat constructor))) ?_; refine tx_pg 15 rfl (by kernel_rfl) rfl rfl (y_neq rfl rfl) rfl (fun _ _ _ h => h) (fun _ h => h.subl (SB.s (by repeat constructor)) (SB.s (by repeat constructor))) ?_; refine tx_p 16 rfl (by kernel_rfl) (y_pick_f rfl rfl) rfl (fun _ _ _ h => h) (fun _ h => h.subl (SB.s (by repeat constructor)) (SB.s (by repeat constructor))) ?_; refine tx_p 17 rfl (by kernel_rfl) (y_move rfl) rfl (fun _ _ _ h => h) (fun _ h => h.subl (SB.s (by repeat constructor)) (SB.s (by repeat constructor))) ?_; refine tx_norm (L' := [true, true, true, true, true, true, true, true, true, true, true, true, true, true, true, true, true, true, false, false, false, false, false, false, false, false, false, false, false, false, false, false, false, false, false, false, false, false, false, false, false, false, false, false, false, false, false, false, false, false, false, false, false, false, false, false, false, false, false, false, false, false, false, false, false, false, false, false, false, false, false, false, false, false, false, false, false, false, false, false, false, false, false, false]) (by kernel_rfl) ?_; refine tx_pg 18 rfl (by kernel_rfl) rfl rfl (y_move rfl) rfl (fun _ _ _ h => h) (fun _ h => h.subl (SB.s (by repeat constructor)) (SB.s (by repeat constructor))) ?_; refine tx_pg 19 rfl (by kernel_rfl) rfl rfl (y_neq rfl rfl) rfl (fun _ _ _ h => h) (fun _ h => h.subl (SB.s (by repeat constructor)) (SB.s (by repeat constructor))) ?_; refine tx_p 20 rfl (by kernel_rfl) (y_pick_f rfl rfl) rfl (fun _ _ _ h => h) (fun _ h => h.subl (SB.s (by repeat constructor)) (SB.s (by repeat constructor))) ?_; refine tx_p 21 rfl (by kernel_rfl) (y_move rfl) rfl (fun _ _ _ h => h) (fun _ h => h.subl (SB.s (by repeat constructor)) (SB.s (by repeat constructor))) ?_; refine tx_pg 22 rfl (by kernel_rfl) rfl rfl (y_move rfl) rfl (fun _ _ _ h => h) (fun _ h => h.subl (SB.s (by repeat constructor)) (SB.s (by repeat constructor))) ?_; refine tx_qg 23 rfl (by kernel_rfl) rfl rfl (y_len rfl) rfl (fun _ _ _ h => h) (fun _ h => h.subl (SB.s (by repeat constructor)) (SB.s (by repeat constructor))) ?_; refine tx_norm (L' := [true, true, true, true, true, true, true, true, true, true, true, true, true, true, true, true, true, true, true, true, true, true, true, true, false, false, false, false, false, false, false, false, false, false, false, false, false, false, false, false, false, false, false, false, false, false, false, false, false, false, false, false, false, false, false, false, false, false, false, false, false, false, false, false, false, false, false, false, false, false, false, false, false, false, false, false, false, false, false, false, false, false, false, false]) (by kernel_rfl) ?_; refine tx_pg 24 rfl (by kernel_rfl) rfl rfl (y_neq rfl rfl) rfl (fun _ _ _ h => h) (fun _ h => h.subl (SB.s (by repeat constructor)) (SB.s (by repeat constructor))) ?_; refine tx_p 25 rfl (by kernel_rfl) (y_pick_f rfl rfl) rfl (fun _ _ _ h => h) (fun _ h => h.subl (SB.s (by repeat constructor)) (SB.s (by repeat constructor))) ?_; refine tx_p 26 rfl (by kernel_rfl) (y_move rfl) rfl (fun _ _ _ h => h) (fun _ h => h.subl (SB.s (by repeat constructor)) (SB.s (by repeat constructor))) ?_; refine tx_pg 27 rfl (by kernel_rfl) rfl rfl (y_move rfl) rfl (fun _ _ _ h => h) (fun _ h => h.subl (SB.s (by repeat constructor)) (SB.s (by repeat constructor))) ?_; refine tx_pg 28 rfl (by kernel_rfl) rfl rfl (y_neq rfl rfl) rfl (fun _ _ _ h => h) (fun _ h => h.subl (SB.s (by repeat constructor)) (SB.s (by repeat constructor))) ?_; refine tx_p 29 rfl (by kernel_rfl) (y_pick_f rfl rfl) rfl (fun _ _ _ h => h) (fun _ h => h.subl (SB.s (by repeat constructor)) (SB.s (by repeat constructor))) ?_; refine tx_norm (L' := [true, true, true, true, true, true, true, true, true, true, true, true, true, true, true, true, true, true, true, true, true, true, true, true, true, true, true, true, true, true, false, false, false, false, false, false, false, false, false, false, false, false, false, false, false, false, false, false, false, false, false, false, false, false, false, false, false, false, false, false, false, false, false, false, false, false, false, false, false, false, false, false, false, false, false, false, false, false, false, false, false, false, false, false]) (by kernel_rfl) ?_; refine tx_p 30 rfl (by kernel_rfl) (y_move rfl) rfl (fun _ _ _ h => h) (fun _ h => h.subl (SB.s (by repeat constructor)) (SB.s (by repeat constructor))) ?_; refine tx_pg 31 rfl (by kernel_rfl) rfl rfl (y_move rfl) rfl (fun _ _ _ h => h) (fun _ h => h.subl (SB.s (by repeat constructor)) (SB.s (by repeat constructor))) ?_; refine tx_qg 32 rfl (by kernel_rfl) rfl rfl (y_len rfl) rfl (fun _ _ _ h => h) (fun _ h => h.subl (SB.s (by repeat constructor)) (SB.s (by repeat constructor))) ?_; refine tx_pg 33 rfl (by kernel_rfl) rfl rfl (y_neq rfl rfl) rfl (fun _ _ _ h => h) (fun _ h => h.subl (SB.s (by repeat constructor)) (SB.s (by repeat constructor))) ?_; refine tx_p 34 rfl (by kernel_rfl) (y_pick_f rfl rfl) rfl (fun _ _ _ h => h) (fun _ h => h.subl (SB.s (by repeat constructor)) (SB.s (by repeat constructor))) ?_; refine tx_p 35 rfl (by kernel_rfl) (y_move rfl) rfl (fun _ _ _ h => h) (fun _ h => h.subl (SB.s (by repeat constructor)) (SB.s (by repeat constructor))) ?_; refine tx_norm (L' := [true, true, true, true, true, true, true, true, true, true, true, true, true, true, true, true, true, true, true, true, true, true, true, true, true, true, true, true, true, true, true, true, true, true, true, true, false, false, false, false, false, false, false, false, false, false, false, false, false, false, false, false, false, false, false, false, false, false, false, false, false, false, false, false, false, false, false, false, false, false, false, false, false, false, false, false, false, false, false, false, false, false, false, false]) (by kernel_rfl) ?_; refine tx_pg 36 rfl (by kernel_rfl) rfl rfl (y_move rfl) rfl (fun _ _ _ h => h) (fun _ h => h.subl (SB.s (by repeat constructor)) (SB.s (by repeat constructor))) ?_; refine tx_pg 37 rfl (by kernel_rfl) rfl rfl (y_index rfl rfl (by decide) (hadh (by decide))) rfl (fun _ _ _ h => h) (fun _ h => h.subl (SB.s (by repeat constructor)) (SB.s (by repeat constructor))) ?_; ((refine tx_qg 38 rfl (by kernel_rfl) rfl rfl (y_load1o (v := .slice ad1 5 cp1) rfl (fun w' hw' => by have h := hch w' (hw'.calm hpw (MI.m (by repeat constructor)) (SB.s (by repeat constructor))) 0 (by decide); rw [hen1] at h; exact h)) rfl (fun _ _ _ h => h) (fun _ h => h.subl (SB.s (by repeat constructor)) (SB.s (by repeat constructor))) ?_))
  all_goals ((refine tx_single 39 (by kernel_rfl) (to_eg rfl rfl rfl rfl (e_bslice rfl (by (repeat (first | exact .nil | apply PV.one rfl rfl)); done) rfl rfl) (.inr ⟨fun _ _ h => h.subl (SB.s (by repeat constructor)) (SB.s (by repeat constructor)), fun _ h => h⟩) (fun _ _ => ?_))))
  all_goals (refine tx_single 40 (by kernel_rfl) (to_eg rfl rfl rfl rfl (e_callV rfl (.cons rfl (.cons rfl .nil)) (fun w' hw' => sameL2_v (a := [0, 1, 1, 2, 2]) (by decide) _ _ w' (hr1 w' (hw'.calm hpw (MI.m (by repeat constructor)) (SB.s (by repeat constructor)))) (RdI.own0 hw' (by repeat constructor)))) (.inr ⟨fun _ _ h => h.subl (SB.s (by repeat constructor)) (SB.s (by repeat constructor)), fun _ h => h⟩) (fun _ _ => ?_))); refine tx_pg 41 rfl (by kernel_rfl) rfl rfl (y_not rfl) rfl (fun _ _ _ h => h) (fun _ h => h.subl (SB.s (by repeat constructor)) (SB.s (by repeat constructor))) ?_; refine tx_norm (L' := [true, true, true, true, true, true, true, true, true, true, true, true, true, true, true, true, true, true, true, true, true, true, true, true, true, true, true, true, true, true, true, true, true, true, true, true, true, true, true, true, true, true, false, false, false, false, false, false, false, false, false, false, false, false, false, false, false, false, false, false, false, false, false, false, false, false, false, false, false, false, false, false, false, false, false, false, false, false, false, false, false, false, false, false]) (by kernel_rfl) ?_; refine tx_p 42 rfl (by kernel_rfl) (y_pick_f rfl rfl) rfl (fun _ _ _ h => h) (fun _ h => h.subl (SB.s (by repeat constructor)) (SB.s (by repeat constructor))) ?_; refine tx_p 43 rfl (by kernel_rfl) (y_move rfl) rfl (fun _ _ _ h => h) (fun _ h => h.subl (SB.s (by repeat constructor)) (SB.s (by repeat constructor))) ?_; refine tx_pg 44 rfl (by kernel_rfl) rfl rfl (y_move rfl) rfl (fun _ _ _ h => h) (fun _ h => h.subl (SB.s (by repeat constructor)) (SB.s (by repeat constructor))) ?_; refine tx_pg 45 rfl (by kernel_rfl) rfl rfl (y_index rfl rfl (by decide) (hadh (by decide))) rfl (fun _ _ _ h => h) (fun _ h => h.subl (SB.s (by repeat constructor)) (SB.s (by repeat constructor))) ?_; ((refine tx_qg 46 rfl (by kernel_rfl) rfl rfl (y_load1o (v := .slice ad2 5 cp2) rfl (fun w' hw' => by have h := hch w' (hw'.calm hpw (MI.m (by repeat constructor)) (SB.s (by repeat constructor))) 1 (by decide); rw [hen2] at h; exact h)) rfl (fun _ _ _ h => h) (fun _ h => h.subl (SB.s (by repeat constructor)) (SB.s (by repeat constructor))) ?_))
  all_goals ((refine tx_single 47 (by kernel_rfl) (to_eg rfl rfl rfl rfl (e_bslice rfl (by (repeat (first | exact .nil | apply PV.one rfl rfl)); done) rfl rfl) (.inr ⟨fun _ _ h => h.subl (SB.s (by repeat constructor)) (SB.s (by repeat constructor)), fun _ h => h⟩) (fun _ _ => ?_))))
  all_goals refine tx_norm (L' := [true, true, true, true, true, true, true, true, true, true, true, true, true, true, true, true, true, true, true, true, true, true, true, true, true, true, true, true, true, true, true, true, true, true, true, true, true, true, true, true, true, true, true, true, true, true, true, true, false, false, false, false, false, false, false, false, false, false, false, false, false, false, false, false, false, false, false, false, false, false, false, false, false, false, false, false, false, false, false, false, false, false, false, false]) (by kernel_rfl) ?_; refine tx_single 48 (by kernel_rfl) (to_eg rfl rfl rfl rfl (e_callV rfl (.cons rfl (.cons rfl .nil)) (fun w' hw' => sameL2_v (a := [0, 0, 1, 1, 1]) (by decide) _ _ w' (hr2 w' (hw'.calm hpw (MI.m (by repeat constructor)) (SB.s (by repeat constructor)))) (RdI.own0 hw' (by repeat constructor)))) (.inr ⟨fun _ _ h => h.subl (SB.s (by repeat constructor)) (SB.s (by repeat constructor)), fun _ h => h⟩) (fun _ _ => ?_)); refine tx_pg 49 rfl (by kernel_rfl) rfl rfl (y_not rfl) rfl (fun _ _ _ h => h) (fun _ h => h.subl (SB.s (by repeat constructor)) (SB.s (by repeat constructor))) ?_; refine tx_p 50 rfl (by kernel_rfl) (y_pick_f rfl rfl) rfl (fun _ _ _ h => h) (fun _ h => h.subl (SB.s (by repeat constructor)) (SB.s (by repeat constructor))) ?_; refine tx_p 51 rfl (by kernel_rfl) (y_move rfl) rfl (fun _ _ _ h => h) (fun _ h => h.subl (SB.s (by repeat constructor)) (SB.s (by repeat constructor))) ?_; refine tx_pg 52 rfl (by kernel_rfl) rfl rfl (y_move rfl) rfl (fun _ _ _ h => h) (fun _ h => h.subl (SB.s (by repeat constructor)) (SB.s (by repeat constructor))) ?_; refine tx_qg 53 rfl (by kernel_rfl) rfl rfl (y_len rfl) rfl (fun _ _ _ h => h) (fun _ h => h.subl (SB.s (by repeat constructor)) (SB.s (by repeat constructor))) ?_; refine tx_norm (L' := [true, true, true, true, true, true, true, true, true, true, true, true, true, true, true, true, true, true, true, true, true, true, true, true, true, true, true, true, true, true, true, true, true, true, true, true, true, true, true, true, true, true, true, true, true, true, true, true, true, true, true, true, true, true, false, false, false, false, false, false, false, false, false, false, false, false, false, false, false, false, false, false, false, false, false, false, false, false, false, false, false, false, false, false]) (by kernel_rfl) ?_; refine tx_pg 54 rfl (by kernel_rfl) rfl rfl (y_neq rfl rfl) rfl (fun _ _ _ h => h) (fun _ h => h.subl (SB.s (by repeat constructor)) (SB.s (by repeat constructor))) ?_; refine tx_p 55 rfl (by kernel_rfl) (y_pick_f rfl rfl) rfl (fun _ _ _ h => h) (fun _ h => h.subl (SB.s (by repeat constructor)) (SB.s (by repeat constructor))) ?_; refine tx_p 56 rfl (by kernel_rfl) (y_move rfl) rfl (fun _ _ _ h => h) (fun _ h => h.subl (SB.s (by repeat constructor)) (SB.s (by repeat constructor))) ?_; refine tx_pg 57 rfl (by kernel_rfl) rfl rfl (y_move rfl) rfl (fun _ _ _ h => h) (fun _ h => h.subl (SB.s (by repeat constructor)) (SB.s (by repeat constructor))) ?_; refine tx_pg 58 rfl (by kernel_rfl) rfl rfl (y_index rfl rfl (by decide) (hadw (by decide))) rfl (fun _ _ _ h => h) (fun _ h => h.subl (SB.s (by repeat constructor)) (SB.s (by repeat constructor))) ?_; ((refine tx_qg 59 rfl (by kernel_rfl) rfl rfl (y_load1o (v := .slice ad3 5 cp3) rfl (fun w' hw' => by have h := hcw w' (hw'.calm hpw (MI.m (by repeat constructor)) (SB.s (by repeat constructor))) 0 (by decide); rw [hen3] at h; exact h)) rfl (fun _ _ _ h => h) (fun _ h => h.subl (SB.s (by repeat constructor)) (SB.s (by repeat constructor))) ?_))
  all_goals refine tx_norm (L' := [true, true, true, true, true, true, true, true, true, true, true, true, true, true, true, true, true, true, true, true, true, true, true, true, true, true, true, true, true, true, true, true, true, true, true, true, true, true, true, true, true, true, true, true, true, true, true, true, true, true, true, true, true, true, true, true, true, true, true, true, false, false, false, false, false, false, false, false, false, false, false, false, false, false, false, false, false, false, false, false, false, false, false, false]) (by kernel_rfl) ?_; refine tx_qg 60 rfl (by kernel_rfl) rfl rfl (y_len rfl) rfl (fun _ _ _ h => h) (fun _ h => h.subl (SB.s (by repeat constructor)) (SB.s (by repeat constructor))) ?_; refine tx_pg 61 rfl (by kernel_rfl) rfl rfl (y_neq rfl rfl) rfl (fun _ _ _ h => h) (fun _ h => h.subl (SB.s (by repeat constructor)) (SB.s (by repeat constructor))) ?_; refine tx_p 62 rfl (by kernel_rfl) (y_pick_f rfl rfl) rfl (fun _ _ _ h => h) (fun _ h => h.subl (SB.s (by repeat constructor)) (SB.s (by repeat constructor))) ?_; refine tx_p 63 rfl (by kernel_rfl) (y_move rfl) rfl (fun _ _ _ h => h) (fun _ h => h.subl (SB.s (by repeat constructor)) (SB.s (by repeat constructor))) ?_; refine tx_pg 64 rfl (by kernel_rfl) rfl rfl (y_move rfl) rfl (fun _ _ _ h => h) (fun _ h => h.subl (SB.s (by repeat constructor)) (SB.s (by repeat constructor))) ?_; refine tx_pg 65 rfl (by kernel_rfl) rfl rfl (y_index rfl rfl (by decide) (hadw (by decide))) rfl (fun _ _ _ h => h) (fun _ h => h.subl (SB.s (by repeat constructor)) (SB.s (by repeat constructor))) ?_; refine tx_norm (L' := [true, true, true, true, true, true, true, true, true, true, true, true, true, true, true, true, true, true, true, true, true, true, true, true, true, true, true, true, true, true, true, true, true, true, true, true, true, true, true, true, true, true, true, true, true, true, true, true, true, true, true, true, true, true, true, true, true, true, true, true, true, true, true, true, true, true, false, false, false, false, false, false, false, false, false, false, false, false, false, false, false, false, false, false]) (by kernel_rfl) ?_; ((refine tx_qg 66 rfl (by kernel_rfl) rfl rfl (y_load1o (v := .slice ad3 5 cp3) rfl (fun w' hw' => by have h := hcw w' (hw'.calm hpw (MI.m (by repeat constructor)) (SB.s (by repeat constructor))) 0 (by decide); rw [hen3] at h; exact h)) rfl (fun _ _ _ h => h) (fun _ h => h.subl (SB.s (by repeat constructor)) (SB.s (by repeat constructor))) ?_))
  all_goals (refine tx_pg 67 rfl (by kernel_rfl) rfl rfl (y_index rfl rfl (by decide) (had3 (by decide))) rfl (fun _ _ _ h => h) (fun _ h => h.subl (SB.s (by repeat constructor)) (SB.s (by repeat constructor))) ?_); ((refine tx_qg 68 rfl (by kernel_rfl) rfl rfl (y_load1o (v := .bool true) rfl (fun w' hw' => by have h := (hcn3 w' [] (hw'.calm hpw (MI.m (by repeat constructor)) (SB.s (by repeat constructor))) (by simp) 3 (by decide)).get 0 _ rfl; exact h)) rfl (fun _ _ _ h => h) (fun _ h => h.subl (SB.s (by repeat constructor)) (SB.s (by repeat constructor))) ?_))
  all_goals (refine tx_pg 69 rfl (by kernel_rfl) rfl rfl (y_not rfl) rfl (fun _ _ _ h => h) (fun _ h => h.subl (SB.s (by repeat constructor)) (SB.s (by repeat constructor))) ?_); refine tx_p 70 rfl (by kernel_rfl) (y_pick_f rfl rfl) rfl (fun _ _ _ h => h) (fun _ h => h.subl (SB.s (by repeat constructor)) (SB.s (by repeat constructor))) ?_; refine tx_p 71 rfl (by kernel_rfl) (y_move rfl) rfl (fun _ _ _ h => h) (fun _ h => h.subl (SB.s (by repeat constructor)) (SB.s (by repeat constructor))) ?_; refine tx_norm (L' := [true, true, true, true, true, true, true, true, true, true, true, true, true, true, true, true, true, true, true, true, true, true, true, true, true, true, true, true, true, true, true, true, true, true, true, true, true, true, true, true, true, true, true, true, true, true, true, true, true, true, true, true, true, true, true, true, true, true, true, true, true, true, true, true, true, true, true, true, true, true, true, true, false, false, false, false, false, false, false, false, false, false, false, false]) (by kernel_rfl) ?_; refine tx_pg 72 rfl (by kernel_rfl) rfl rfl (y_move rfl) rfl (fun _ _ _ h => h) (fun _ h => h.subl (SB.s (by repeat constructor)) (SB.s (by repeat constructor))) ?_; refine tx_pg 73 rfl (by kernel_rfl) rfl rfl (y_index rfl rfl (by decide) (hadw (by decide))) rfl (fun _ _ _ h => h) (fun _ h => h.subl (SB.s (by repeat constructor)) (SB.s (by repeat constructor))) ?_; ((refine tx_qg 74 rfl (by kernel_rfl) rfl rfl (y_load1o (v := .slice ad3 5 cp3) rfl (fun w' hw' => by have h := hcw w' (hw'.calm hpw (MI.m (by repeat constructor)) (SB.s (by repeat constructor))) 0 (by decide); rw [hen3] at h; exact h)) rfl (fun _ _ _ h => h) (fun _ h => h.subl (SB.s (by repeat constructor)) (SB.s (by repeat constructor))) ?_))
  all_goals (refine tx_pg 75 rfl (by kernel_rfl) rfl rfl (y_index rfl rfl (by decide) (had3 (by decide))) rfl (fun _ _ _ h => h) (fun _ h => h.subl (SB.s (by repeat constructor)) (SB.s (by repeat constructor))) ?_); ((refine tx_qg 76 rfl (by kernel_rfl) rfl rfl (y_load1o (v := .bool false) rfl (fun w' hw' => by have h := (hcn3 w' [] (hw'.calm hpw (MI.m (by repeat constructor)) (SB.s (by repeat constructor))) (by simp) 4 (by decide)).get 0 _ rfl; exact h)) rfl (fun _ _ _ h => h) (fun _ h => h.subl (SB.s (by repeat constructor)) (SB.s (by repeat constructor))) ?_))
  all_goals (refine tx_p 77 rfl (by kernel_rfl) (y_pick_f rfl rfl) rfl (fun _ _ _ h => h) (fun _ h => h.subl (SB.s (by repeat constructor)) (SB.s (by repeat constructor))) ?_); refine tx_norm (L' := [true, true, true, true, true, true, true, true, true, true, true, true, true, true, true, true, true, true, true, true, true, true, true, true, true, true, true, true, true, true, true, true, true, true, true, true, true, true, true, true, true, true, true, true, true, true, true, true, true, true, true, true, true, true, true, true, true, true, true, true, true, true, true, true, true, true, true, true, true, true, true, true, true, true, true, true, true, true, false, false, false, false, false, false]) (by kernel_rfl) ?_; refine tx_p 78 rfl (by kernel_rfl) (y_move rfl) rfl (fun _ _ _ h => h) (fun _ h => h.subl (SB.s (by repeat constructor)) (SB.s (by repeat constructor))) ?_; ((refine tx_qg 80 rfl (by kernel_rfl) rfl rfl (y_loadWf rfl (hl5.at (by repeat constructor)) (MI.m (by repeat constructor)) (by first | (simp; done) | (simp; omega)) (by rfl)) rfl (fun _ _ _ h => h) (fun _ h => h.subl (SB.s (by repeat constructor)) (SB.s (by repeat constructor))) ?_))
  all_goals (refine tx_single 79 (by kernel_rfl) (to_eg rfl rfl rfl rfl (e_callX rfl (.cons rfl .nil) (fun w' hw' => two_c [] (by simp) (.slice none 0 0) w' (RdS.nil _ _ _ _))) (.inr ⟨fun _ _ h => h.subl (SB.s (by repeat constructor)) (SB.s (by repeat constructor)), fun _ h => h⟩) (fun x6 hx6 => ?_))); refine tx_single 81 (by kernel_rfl) (to_eg rfl rfl rfl rfl (e_callV rfl (.cons rfl (.cons rfl .nil)) (fun w' hw' => proveTruthE_c nm_p0.1 two0 (nm_th rfl) _ _ _ _ _ w' (hx6.1.fr (hw'.calm hx6.2 (MI.m (by repeat constructor)) (List.Sublist.refl _))) (nm_rd hl5 (by repeat constructor) (by repeat constructor) (by repeat constructor) ⟨hnn.1, hnn.2.1⟩ (hw'.fr (w0 := wl5) (S := [b41]) (MI.m (by repeat constructor))) (r := [0, 0, 0, 3, 1]) rfl (hw'.heap _ (HM.mem (b := b41) (by repeat constructor)))))) (.inr ⟨fun _ _ h => h.subl (SB.s (by repeat constructor)) (SB.s (by repeat constructor)), fun _ h => h⟩) (fun _ _ => ?_)); refine tx_pg 82 rfl (by kernel_rfl) rfl rfl (y_not_dec rfl) rfl (fun _ _ _ h => h) (fun _ h => h.subl (SB.s (by repeat constructor)) (SB.s (by repeat constructor))) ?_; refine tx_p 83 rfl (by kernel_rfl) (y_pick_f rfl rfl) rfl (fun _ _ _ h => h) (fun _ h => h.subl (SB.s (by repeat constructor)) (SB.s (by repeat constructor))) ?_; refine tx_done (by kernel_rfl) ?_; ((refine hK8 ?_; try (clear hK8; clear K8)))
  all_goals (
   refine tc_cond rfl (fun hc => ?_) (fun hc => ?_)
   · try simp only [decide_eq_true_eq, decide_eq_false_iff_not, Int.not_lt, Int.not_le, Bool.not_eq_true', Bool.not_eq_false', Decidable.not_not, not_true_eq_false] at hc
   · try simp only [decide_eq_true_eq, decide_eq_false_iff_not, Int.not_lt, Int.not_le, Bool.not_eq_true', Bool.not_eq_false', Decidable.not_not, not_true_eq_false] at hc
     all_goals refine tc_skip ?_; ((refine hK7 ?_; try (clear hK7; clear K7)))
     all_goals refine tc_seq fun K10 hK10 => ?_; refine tc_lay ([(b41, .cells [vi 0, vi 0, vi 0, vi 3, vi 1].toArray 3 (0, 0))]) (SB.s (by repeat constructor)) (fun wl8 hl8 => ?_); refine tc_region ?_; refine tl_q (y_field rfl) rfl ?_; ((refine tl_q (y_load1f rfl (hl5.at (by repeat constructor)) (MI.m (by repeat constructor)) (by first | (simp; done) | (simp; omega)) (by rfl)) rfl ?_))
     all_goals (refine tl_q (y_index rfl rfl (by decide) rfl) rfl ?_); ((refine tl_q (y_load1f rfl (hl5.at (by repeat constructor)) (MI.m (by repeat constructor)) (by first | (simp; done) | (simp; omega)) (by rfl)) rfl ?_))
     all_goals (refine tl_q (y_index rfl rfl (by decide) rfl) rfl ?_); refine tl_e (e_store1 rfl rfl (by repeat constructor) (by repeat constructor) (by rfl) (by rfl)) rfl (fun _ _ => ?_); refine tl_nil ?_; ((refine hK10 ?_; try (clear hK10; clear K10)))
     all_goals refine tc_seq fun K11 hK11 => ?_; refine tc_lay ([(b41, .cells [vi 0, vi 0, vi 1, vi 3, vi 1].toArray 3 (0, 0))]) (SB.s (by repeat constructor)) (fun wl9 hl9 => ?_); refine tc_draw (by kernel_rfl) ?_; ((refine tx_q 1 rfl (by kernel_rfl) (y_loadWf rfl (hl5.at (by repeat constructor)) (MI.m (by repeat constructor)) (by first | (simp; done) | (simp; omega)) (by rfl)) rfl (fun _ _ _ h => h) (fun _ h => h) ?_))
     all_goals (refine tx_e 0 rfl (by kernel_rfl) rfl (e_callX rfl (.cons rfl .nil) (fun w' hw' => two_c [] (by simp) (.slice none 0 0) w' (RdS.nil _ _ _ _))) (.inr fun _ _ h => h.sub (fun _ h => List.mem_cons_of_mem _ h) (List.Sublist.refl _)) (fun x9 hx9 => ?_)); refine tx_e 2 rfl (by kernel_rfl) rfl (e_callX rfl (.cons rfl (.cons rfl .nil)) (fun w' hw' => sPlayE_c nm_p1.1 nm_p1.2 two0 (nm_th rfl) _ _ _ _ _ w' (hx9.1.fr (hw'.calm hx9.2 (MI.m (by repeat constructor)) (List.Sublist.refl _))) (nm_rd hl5 (by repeat constructor) (by repeat constructor) (by repeat constructor) ⟨hnn.1, hnn.2.1⟩ (hw'.fr (w0 := wl5) (S := [b41]) (MI.m (by repeat constructor))) (r := [0, 0, 1, 3, 1]) rfl (hw'.heap _ (HM.mem (b := b41) (by repeat constructor)))))) (.inr fun _ _ h => h.sub (fun _ h => List.mem_cons_of_mem _ h) (List.Sublist.refl _)) (fun _ _ => ?_); refine tx_p 3 rfl (by kernel_rfl) (y_move rfl) rfl (fun _ _ _ h => h) (fun _ h => h) ?_; refine tx_p 4 rfl (by kernel_rfl) (y_extract rfl rfl) rfl (fun _ _ _ h => h) (fun _ h => h) ?_; refine tx_p 5 rfl (by kernel_rfl) (y_extract rfl rfl) rfl (fun _ _ _ h => h) (fun _ h => h) ?_; refine tx_p 6 rfl (by kernel_rfl) (y_extract rfl rfl) rfl (fun _ _ _ h => h) (fun _ h => h) ?_; refine tx_p 7 rfl (by kernel_rfl) (y_assign rfl) rfl (fun _ _ _ h => h) (fun _ h => h) ?_; refine tx_done (by kernel_rfl) ?_; ((refine hK11 ?_; try (clear hK11; clear K11)))
     all_goals refine tc_seq fun K12 hK12 => ?_; refine tc_lay ([(b41, .cells [vi 0, vi 0, vi 1, vi 3, vi 1].toArray 3 (0, 0))]) (SB.s (by repeat constructor)) (fun wl10 hl10 => ?_); refine tc_region ?_; refine tl_q (y_field rfl) rfl ?_; ((refine tl_q (y_load1f rfl (hl5.at (by repeat constructor)) (MI.m (by repeat constructor)) (by first | (simp; done) | (simp; omega)) (by rfl)) rfl ?_))
     all_goals (refine tl_q (y_index rfl rfl (by decide) rfl) rfl ?_); ((refine tl_q (y_load1f rfl (hl5.at (by repeat constructor)) (MI.m (by repeat constructor)) (by first | (simp; done) | (simp; omega)) (by rfl)) rfl ?_))
     all_goals (refine tl_q (y_index rfl rfl (by decide) rfl) rfl ?_); refine tl_e (e_store1 rfl rfl (by repeat constructor) (by repeat constructor) (by rfl) (by rfl)) rfl (fun _ _ => ?_); refine tl_nil ?_; ((refine hK12 ?_; try (clear hK12; clear K12)))
     all_goals refine tc_seq fun K13 hK13 => ?_; refine tc_lay ([(b41, .cells [vi 0, vi 0, vi 4, vi 3, vi 1].toArray 3 (0, 0))]) (SB.s (by repeat constructor)) (fun wl11 hl11 => ?_); refine tc_draw (by kernel_rfl) ?_; ((refine tx_q 1 rfl (by kernel_rfl) (y_loadWf rfl (hl5.at (by repeat constructor)) (MI.m (by repeat constructor)) (by first | (simp; done) | (simp; omega)) (by rfl)) rfl (fun _ _ _ h => h) (fun _ h => h) ?_))
     all_goals (refine tx_e 0 rfl (by kernel_rfl) rfl (e_callX rfl (.cons rfl .nil) (fun w' hw' => two_c [] (by simp) (.slice none 0 0) w' (RdS.nil _ _ _ _))) (.inr fun _ _ h => h.sub (fun _ h => List.mem_cons_of_mem _ h) (List.Sublist.refl _)) (fun x11 hx11 => ?_)); refine tx_e 2 rfl (by kernel_rfl) rfl (e_callX rfl (.cons rfl (.cons rfl .nil)) (fun w' hw' => sPlayE_c nm_p2.1 nm_p2.2 two0 (nm_th rfl) _ _ _ _ _ w' (hx11.1.fr (hw'.calm hx11.2 (MI.m (by repeat constructor)) (List.Sublist.refl _))) (nm_rd hl5 (by repeat constructor) (by repeat constructor) (by repeat constructor) ⟨hnn.1, hnn.2.1⟩ (hw'.fr (w0 := wl5) (S := [b41]) (MI.m (by repeat constructor))) (r := [0, 0, 4, 3, 1]) rfl (hw'.heap _ (HM.mem (b := b41) (by repeat constructor)))))) (.inr fun _ _ h => h.sub (fun _ h => List.mem_cons_of_mem _ h) (List.Sublist.refl _)) (fun _ _ => ?_); refine tx_p 3 rfl (by kernel_rfl) (y_move rfl) rfl (fun _ _ _ h => h) (fun _ h => h) ?_; refine tx_p 4 rfl (by kernel_rfl) (y_extract rfl rfl) rfl (fun _ _ _ h => h) (fun _ h => h) ?_; refine tx_p 5 rfl (by kernel_rfl) (y_extract rfl rfl) rfl (fun _ _ _ h => h) (fun _ h => h) ?_; refine tx_p 6 rfl (by kernel_rfl) (y_extract rfl rfl) rfl (fun _ _ _ h => h) (fun _ h => h) ?_; refine tx_p 7 rfl (by kernel_rfl) (y_assign rfl) rfl (fun _ _ _ h => h) (fun _ h => h) ?_; refine tx_done (by kernel_rfl) ?_; ((refine hK13 ?_; try (clear hK13; clear K13)))
     all_goals refine tc_seq fun K14 hK14 => ?_; refine tc_lay ([]) (SB.s .nil) (fun wl12 hl12 => ?_); refine tc_region ?_; refine tl_e (e_callX rfl (.cons rfl .nil) (fun w' hw' => two_c [] (by simp) (.slice none 0 0) w' (RdS.nil _ _ _ _))) rfl (fun x12 hx12 => ?_); refine tl_e (e_callX rfl (.cons rfl (.cons rfl (.cons rfl .nil))) (fun w' hw' => holdE_c nm_h2.1.1 nm_h2.1.2 two0 _ _ _ w' (hx12.1.fr (hw'.calm hx12.2 (MI.m (by repeat constructor)) (List.Sublist.refl _))))) rfl (fun _ _ => ?_); refine tl_q (y_move rfl) rfl ?_; refine tl_q (y_extract rfl rfl) rfl ?_; refine tl_q (y_extract rfl rfl) rfl ?_; refine tl_q (y_assign rfl) rfl ?_; refine tl_nil ?_; ((refine hK14 ?_; try (clear hK14; clear K14)))
     all_goals refine tc_seq fun K15 hK15 => ?_; refine tc_lay ([]) (SB.s .nil) (fun wl13 hl13 => ?_); refine tc_region ?_; refine tl_e (e_callX rfl (.cons rfl .nil) (fun w' hw' => two_c [] (by simp) (.slice none 0 0) w' (RdS.nil _ _ _ _))) rfl (fun x13 hx13 => ?_); refine tl_e (e_callX rfl (.cons rfl (.cons rfl (.cons rfl .nil))) (fun w' hw' => holdE_c nm_h2.2.1 nm_h2.2.2 two0 _ _ _ w' (hx13.1.fr (hw'.calm hx13.2 (MI.m (by repeat constructor)) (List.Sublist.refl _))))) rfl (fun _ _ => ?_); refine tl_q (y_move rfl) rfl ?_; refine tl_q (y_extract rfl rfl) rfl ?_; refine tl_q (y_extract rfl rfl) rfl ?_; refine tl_q (y_assign rfl) rfl ?_; refine tl_nil ?_; ((refine hK15 ?_; try (clear hK15; clear K15)))
     all_goals refine tc_seq fun K16 hK16 => ?_; refine tc_lay ([]) (SB.s .nil) (fun wl14 hl14 => ?_); refine tc_region ?_; refine tl_q (y_build_g (by repeat constructor)) rfl ?_; refine tl_e (e_bsliceG rfl (.agg rfl rfl .nil) rfl rfl) rfl (fun _ _ => ?_); refine tl_e (e_callX rfl (.cons rfl .nil) (fun w' hw' => two_c [badG] (by simp) _ w' (RdS.own0 (xs := [badG]) sgE_len hw' (by repeat constructor)))) rfl (fun x14 hx14 => ?_); refine tl_e (e_callX rfl (.cons rfl (.cons rfl .nil)) (fun w' hw' => openE_c nm_j.1.1 nm_j.1.2 two1 _ _ _ w' (hx14.1.fr (hw'.calm hx14.2 (MI.m (by repeat constructor)) (List.Sublist.refl _))))) rfl (fun _ _ => ?_); refine tl_q (y_move rfl) rfl ?_; refine tl_q (y_extract rfl rfl) rfl ?_; refine tl_q (y_extract rfl rfl) rfl ?_; refine tl_q (y_assign rfl) rfl ?_; refine tl_q (y_assign rfl) rfl ?_; refine tl_nil ?_; ((refine hK16 ?_; try (clear hK16; clear K16)))
     all_goals refine tc_seq fun K17 hK17 => ?_; refine tc_lay ([]) (SB.s .nil) (fun wl15 hl15 => ?_); refine tc_region ?_; refine tl_q (y_build_g (by repeat constructor)) rfl ?_; refine tl_e (e_bsliceG rfl (.agg rfl rfl .nil) rfl rfl) rfl (fun _ _ => ?_); refine tl_e (e_callX rfl (.cons rfl .nil) (fun w' hw' => two_c [badG] (by simp) _ w' (RdS.own0 (xs := [badG]) sgE_len hw' (by repeat constructor)))) rfl (fun x15 hx15 => ?_); refine tl_e (e_callX rfl (.cons rfl (.cons rfl .nil)) (fun w' hw' => openE_c nm_j.2.1 nm_j.2.2 two1 _ _ _ w' (hx15.1.fr (hw'.calm hx15.2 (MI.m (by repeat constructor)) (List.Sublist.refl _))))) rfl (fun _ _ => ?_); refine tl_q (y_move rfl) rfl ?_; refine tl_q (y_extract rfl rfl) rfl ?_; refine tl_q (y_extract rfl rfl) rfl ?_; refine tl_q (y_assign rfl) rfl ?_; refine tl_q (y_assign rfl) rfl ?_; refine tl_nil ?_; ((refine hK17 ?_; try (clear hK17; clear K17)))
     all_goals refine tc_seq fun K18 hK18 => ?_; refine tc_lay ([]) (SB.s .nil) (fun wl16 hl16 => ?_); refine tc_region ?_; refine tl_e (e_callX rfl (.cons rfl .nil) (fun w' hw' => two_c [] (by simp) (.slice none 0 0) w' (RdS.nil _ _ _ _))) rfl (fun x16 hx16 => ?_); refine tl_e (e_callV rfl (.cons rfl .nil) (fun w' hw' => firstE_c nm_f two0 _ _ _ w' (hx16.1.fr (hw'.calm hx16.2 (MI.m (by repeat constructor)) (List.Sublist.refl _))))) rfl (fun _ _ => ?_); refine tl_q (y_move rfl) rfl ?_; refine tl_q (y_extract rfl rfl) rfl ?_; refine tl_q (y_extract rfl rfl) rfl ?_; refine tl_q (y_assign rfl) rfl ?_; refine tl_q (y_assign rfl) rfl ?_; refine tl_nil ?_; ((refine hK18 ?_; try (clear hK18; clear K18)))
     all_goals refine tc_seq fun K19 hK19 => ?_; refine tc_lay ([]) (SB.s .nil) (fun wl17 hl17 => ?_); refine tc_region ?_; refine tl_q (y_build_g (by repeat constructor)) rfl ?_; refine tl_e (e_bsliceG rfl (.agg rfl rfl .nil) rfl rfl) rfl (fun _ _ => ?_); refine tl_e (e_callX rfl (.cons rfl .nil) (fun w' hw' => two_c [badG] (by simp) _ w' (RdS.own0 (xs := [badG]) sgE_len hw' (by repeat constructor)))) rfl (fun x17 hx17 => ?_); refine tl_e (e_callV rfl (.cons rfl .nil) (fun w' hw' => alikE_c nm_m.1 nm_m.2 two1 _ _ _ w' (hx17.1.fr (hw'.calm hx17.2 (MI.m (by repeat constructor)) (List.Sublist.refl _))))) rfl (fun _ _ => ?_); refine tl_q (y_move rfl) rfl ?_; refine tl_q (y_extract rfl rfl) rfl ?_; refine tl_q (y_extract rfl rfl) rfl ?_; refine tl_q (y_assign rfl) rfl ?_; refine tl_q (y_assign rfl) rfl ?_; refine tl_nil ?_; ((refine hK19 ?_; try (clear hK19; clear K19)))
     all_goals refine tc_seq fun K20 hK20 => ?_; refine tc_lay ([]) (SB.s .nil) (fun wl18 hl18 => ?_); refine tc_region ?_; refine tl_e (e_callB3 (val := fun y : Nat × Nat × Nat × Nat × List Value => smV (twoS []) (.slice (some ⟨y.1, 0, none⟩) 3 3) (.slice (some ⟨y.2.1, 0, none⟩) 3 3) (.slice (some ⟨y.2.2.1, 0, none⟩) 2 y.2.2.2.1)) (b1 := fun y => y.1) (b2 := fun y => y.2.1) (b3 := fun y => y.2.2.1) (o1 := fun _ => .cells [.bool false, .bool false, .bool true].toArray 4 (0, 0)) (o2 := fun _ => .cells twPs.toArray 92 (0, 0)) (o3 := fun y => .cells (vi 0 :: vi 2 :: .bool true :: vi 1 :: vi 4 :: .bool true :: y.2.2.2.2).toArray 89 (0, 0)) rfl (.cons rfl .nil) (fun w' _ => twoK_c w')) rfl (fun y10 _ => ?_); refine tl_e (e_callB3 (val := fun y : Nat × Nat × Nat × Nat × List Value => smV (twoS []) (.slice (some ⟨y.1, 0, none⟩) 3 3) (.slice (some ⟨y.2.1, 0, none⟩) 3 3) (.slice (some ⟨y.2.2.1, 0, none⟩) 2 y.2.2.2.1)) (b1 := fun y => y.1) (b2 := fun y => y.2.1) (b3 := fun y => y.2.2.1) (o1 := fun _ => .cells [.bool false, .bool false, .bool true].toArray 4 (0, 0)) (o2 := fun _ => .cells twPs.toArray 92 (0, 0)) (o3 := fun y => .cells (vi 0 :: vi 2 :: .bool true :: vi 1 :: vi 4 :: .bool true :: y.2.2.2.2).toArray 89 (0, 0)) rfl (.cons rfl .nil) (fun w' _ => twoK_c w')) rfl (fun y11 _ => ?_); refine tl_e (e_callB3 (val := fun y : Nat × Nat × Nat × Nat × List Value => smV (twoS []) (.slice (some ⟨y.1, 0, none⟩) 3 3) (.slice (some ⟨y.2.1, 0, none⟩) 3 3) (.slice (some ⟨y.2.2.1, 0, none⟩) 2 y.2.2.2.1)) (b1 := fun y => y.1) (b2 := fun y => y.2.1) (b3 := fun y => y.2.2.1) (o1 := fun _ => .cells [.bool false, .bool false, .bool true].toArray 4 (0, 0)) (o2 := fun _ => .cells twPs.toArray 92 (0, 0)) (o3 := fun y => .cells (vi 0 :: vi 2 :: .bool true :: vi 1 :: vi 4 :: .bool true :: y.2.2.2.2).toArray 89 (0, 0)) rfl (.cons rfl .nil) (fun w' _ => twoK_c w')) rfl (fun y12 _ => ?_); refine tl_e (e_callB3 (val := fun y : Nat × Nat × Nat × Nat × List Value => smV (twoS []) (.slice (some ⟨y.1, 0, none⟩) 3 3) (.slice (some ⟨y.2.1, 0, none⟩) 3 3) (.slice (some ⟨y.2.2.1, 0, none⟩) 2 y.2.2.2.1)) (b1 := fun y => y.1) (b2 := fun y => y.2.1) (b3 := fun y => y.2.2.1) (o1 := fun _ => .cells [.bool false, .bool false, .bool true].toArray 4 (0, 0)) (o2 := fun _ => .cells twPs.toArray 92 (0, 0)) (o3 := fun y => .cells (vi 0 :: vi 2 :: .bool true :: vi 1 :: vi 4 :: .bool true :: y.2.2.2.2).toArray 89 (0, 0)) rfl (.cons rfl .nil) (fun w' _ => twoK_c w')) rfl (fun y13 _ => ?_); refine tl_e (e_callB3 (val := fun y : Nat × Nat × Nat × Nat × List Value => smV (twoS []) (.slice (some ⟨y.1, 0, none⟩) 3 3) (.slice (some ⟨y.2.1, 0, none⟩) 3 3) (.slice (some ⟨y.2.2.1, 0, none⟩) 2 y.2.2.2.1)) (b1 := fun y => y.1) (b2 := fun y => y.2.1) (b3 := fun y => y.2.2.1) (o1 := fun _ => .cells [.bool false, .bool false, .bool true].toArray 4 (0, 0)) (o2 := fun _ => .cells twPs.toArray 92 (0, 0)) (o3 := fun y => .cells (vi 0 :: vi 2 :: .bool true :: vi 1 :: vi 4 :: .bool true :: y.2.2.2.2).toArray 89 (0, 0)) rfl (.cons rfl .nil) (fun w' _ => twoK_c w')) rfl (fun y14 _ => ?_); refine tl_e (e_callB3 (val := fun y : Nat × Nat × Nat × Nat × List Value => smV (twoS []) (.slice (some ⟨y.1, 0, none⟩) 3 3) (.slice (some ⟨y.2.1, 0, none⟩) 3 3) (.slice (some ⟨y.2.2.1, 0, none⟩) 2 y.2.2.2.1)) (b1 := fun y => y.1) (b2 := fun y => y.2.1) (b3 := fun y => y.2.2.1) (o1 := fun _ => .cells [.bool false, .bool false, .bool true].toArray 4 (0, 0)) (o2 := fun _ => .cells twPs.toArray 92 (0, 0)) (o3 := fun y => .cells (vi 0 :: vi 2 :: .bool true :: vi 1 :: vi 4 :: .bool true :: y.2.2.2.2).toArray 89 (0, 0)) rfl (.cons rfl .nil) (fun w' _ => twoK_c w')) rfl (fun y15 _ => ?_); refine tl_e (e_allocN rfl) rfl (fun b19 _ => ?_); refine tl_e (e_allocN rfl) rfl (fun b20 _ => ?_); refine tl_e (e_allocN rfl) rfl (fun b21 _ => ?_); refine tl_e (e_allocN rfl) rfl (fun b22 _ => ?_); refine tl_e (e_allocN rfl) rfl (fun b23 _ => ?_); refine tl_e (e_allocN rfl) rfl (fun b24 _ => ?_); refine tl_e (e_storeW rfl rfl (by repeat constructor) (by rfl) (by rfl) (smV_ones (s := twoS []) rfl rfl rfl)) rfl (fun _ _ => ?_); refine tl_e (e_storeW rfl rfl (by repeat constructor) (by rfl) (by rfl) (smV_ones (s := twoS []) rfl rfl rfl)) rfl (fun _ _ => ?_); refine tl_e (e_storeW rfl rfl (by repeat constructor) (by rfl) (by rfl) (smV_ones (s := twoS []) rfl rfl rfl)) rfl (fun _ _ => ?_); refine tl_e (e_storeW rfl rfl (by repeat constructor) (by rfl) (by rfl) (smV_ones (s := twoS []) rfl rfl rfl)) rfl (fun _ _ => ?_); refine tl_e (e_storeW rfl rfl (by repeat constructor) (by rfl) (by rfl) (smV_ones (s := twoS []) rfl rfl rfl)) rfl (fun _ _ => ?_); refine tl_e (e_storeW rfl rfl (by repeat constructor) (by rfl) (by rfl) (smV_ones (s := twoS []) rfl rfl rfl)) rfl (fun _ _ => ?_); refine tl_nil ?_; ((refine hK20 ?_; try (clear hK20; clear K20)))
     all_goals refine tc_seq fun K21 hK21 => ?_; refine tc_region ?_; refine tl_q (y_field rfl) rfl ?_; refine tl_q (y_load1 rfl (by repeat constructor) (by rfl)) rfl ?_; refine tl_q (y_index rfl rfl (by decide) rfl) rfl ?_; refine tl_q (y_field rfl) rfl ?_; refine tl_e (e_store1 rfl rfl (by repeat constructor) (by repeat constructor) (by rfl) (by rfl)) rfl (fun _ _ => ?_); refine tl_nil ?_; ((refine hK21 ?_; try (clear hK21; clear K21)))
     all_goals refine tc_seq fun K22 hK22 => ?_; refine tc_region ?_; ((refine tl_e (e_bslice rfl (by (repeat (first | exact .nil | apply PV.one rfl rfl)); done) rfl rfl) rfl (fun b206 _ => ?_)))
     all_goals refine tl_q (y_field rfl) rfl ?_; refine tl_e (e_store1 rfl rfl (by repeat constructor) (by repeat constructor) (by rfl) (by rfl)) rfl (fun _ _ => ?_); refine tl_nil ?_; ((refine hK22 ?_; try (clear hK22; clear K22)))
     all_goals refine tc_seq fun K23 hK23 => ?_; refine tc_draw (by kernel_rfl) ?_; refine tx_p 0 rfl (by kernel_rfl) (y_field rfl) rfl (fun _ _ _ h => h) (fun _ h => h) ?_; refine tx_q 1 rfl (by kernel_rfl) (y_load1 rfl (by repeat constructor) (by rfl)) rfl (fun _ _ _ h => h) (fun _ h => h) ?_; refine tx_e 2 rfl (by kernel_rfl) rfl (e_callV rfl (.cons rfl (.cons rfl .nil)) (fun w' _ => between_c _ _ w')) (.inr fun _ _ h => h) (fun _ _ => ?_); refine tx_p 3 rfl (by kernel_rfl) (y_index rfl rfl (by decide) rfl) rfl (fun _ _ _ h => h) (fun _ h => h) ?_; refine tx_p 4 rfl (by kernel_rfl) (y_field rfl) rfl (fun _ _ _ h => h) (fun _ h => h) ?_; refine tx_e 5 rfl (by kernel_rfl) rfl (e_storeP (l := twPs) (l' := [vi 0, vi 0, vi 1, vi 1, vi 5, vi 0, vi 1, vi 2, vi 3, vi 3, vi 1, vi 0, vi 1, vi 2, vi 2]) (cs := [vi 1, vi 5]) rfl rfl (by repeat constructor) rfl rfl (by decide) (by simp [Value.oneCell'])) (.inl (by kernel_rfl)) (fun _ _ => ?_); refine tx_done (by kernel_rfl) ?_; ((refine hK23 ?_; try (clear hK23; clear K23)))
     all_goals refine tc_seq fun K24 hK24 => ?_; refine tc_region ?_; refine tl_q (y_field rfl) rfl ?_; refine tl_q (y_load1 rfl (by repeat constructor) (by rfl)) rfl ?_; refine tl_q (y_index rfl rfl (by decide) rfl) rfl ?_; refine tl_q (y_field rfl) rfl ?_; refine tl_e (e_store1 rfl rfl (by repeat constructor) (by repeat constructor) (by rfl) (by rfl)) rfl (fun _ _ => ?_); refine tl_nil ?_; ((refine hK24 ?_; try (clear hK24; clear K24)))
     all_goals refine tc_seq fun K25 hK25 => ?_; refine tc_region ?_; refine tl_q (y_field rfl) rfl ?_; refine tl_e (e_store1 rfl rfl (by repeat constructor) (by repeat constructor) (by rfl) (by rfl)) rfl (fun _ _ => ?_); refine tl_nil ?_; ((refine hK25 ?_; try (clear hK25; clear K25)))
     all_goals refine tc_seq fun K26 hK26 => ?_; refine tc_region ?_; refine tl_e (e_callV rfl (.cons rfl (.cons rfl .nil)) (fun w' _ => between_c _ _ w')) rfl (fun _ _ => ?_); refine tl_q (y_build_g (by repeat constructor)) rfl ?_; refine tl_e (e_callV rfl (.cons rfl (.cons rfl .nil)) (fun w' _ => between_c _ _ w')) rfl (fun _ _ => ?_); refine tl_q (y_build_g (by repeat constructor)) rfl ?_; refine tl_e (e_callV rfl (.cons rfl (.cons rfl .nil)) (fun w' _ => between_c _ _ w')) rfl (fun _ _ => ?_); refine tl_q (y_build_g (by repeat constructor)) rfl ?_; refine tl_e (e_callV rfl (.cons rfl (.cons rfl .nil)) (fun w' _ => between_c _ _ w')) rfl (fun _ _ => ?_); refine tl_q (y_build_g (by repeat constructor)) rfl ?_; refine tl_e (e_bsliceG rfl (.agg rfl rfl (.agg rfl rfl (.agg rfl rfl (.agg rfl rfl .nil)))) rfl rfl) rfl (fun b226 _ => ?_); refine tl_q (y_field rfl) rfl ?_; refine tl_e (e_store1 rfl rfl (by repeat constructor) (by repeat constructor) (by rfl) (by rfl)) rfl (fun _ _ => ?_); refine tl_q (y_field rfl) rfl ?_; refine tl_e (e_store1 rfl rfl (by repeat constructor) (by repeat constructor) (by rfl) (by rfl)) rfl (fun _ _ => ?_); refine tl_nil ?_; ((refine hK26 ?_; try (clear hK26; clear K26)))
     all_goals refine tc_seq fun K27 hK27 => ?_; refine tc_lay ([]) (SB.s .nil) (fun wl25 hl25 => ?_); (have hself : RdSm wl25 selfS (.slice (some ⟨y10.1, 0, none⟩) 3 3) (.slice (some ⟨y10.2.1, 0, none⟩) 3 3) (.slice (some ⟨y10.2.2.1, 0, none⟩) 2 y10.2.2.2.1) := ⟨RdS.ofHeap (xs := selfS.st) (junk := []) boE_len (hl25.at (b := y10.1) (by repeat constructor)), RdS.ofHeap (xs := selfS.ps) (junk := []) psE_len (hl25.at (b := y10.2.1) (by repeat constructor)), RdS.ofHeap (xs := selfS.sg) (junk := y10.2.2.2.2) sgE_len (hl25.at (b := y10.2.2.1) (by repeat constructor))⟩)
     all_goals (have hstmp : RdSm wl25 stmpS (.slice (some ⟨b206, 0, none⟩) 1 1) (.slice (some ⟨y11.2.1, 0, none⟩) 3 3) (.slice (some ⟨y11.2.2.1, 0, none⟩) 2 y11.2.2.2.1) := ⟨RdS.ofHeap (xs := stmpS.st) (junk := []) boE_len (hl25.at (b := b206) (by repeat constructor)), RdS.ofHeap (xs := stmpS.ps) (junk := []) psE_len (hl25.at (b := y11.2.1) (by repeat constructor)), RdS.ofHeap (xs := stmpS.sg) (junk := y11.2.2.2.2) sgE_len (hl25.at (b := y11.2.2.1) (by repeat constructor))⟩)
     all_goals (have hhour : RdSm wl25 hourS (.slice (some ⟨y12.1, 0, none⟩) 3 3) (.slice (some ⟨y12.2.1, 0, none⟩) 3 3) (.slice (some ⟨y12.2.2.1, 0, none⟩) 2 y12.2.2.2.1) := ⟨RdS.ofHeap (xs := hourS.st) (junk := []) boE_len (hl25.at (b := y12.1) (by repeat constructor)), RdS.ofHeap (xs := hourS.ps) (junk := []) psE_len (hl25.at (b := y12.2.1) (by repeat constructor)), RdS.ofHeap (xs := hourS.sg) (junk := y12.2.2.2.2) sgE_len (hl25.at (b := y12.2.2.1) (by repeat constructor))⟩)
     all_goals (have hbotl : RdSm wl25 botlS (.slice (some ⟨y13.1, 0, none⟩) 3 3) (.slice (some ⟨y13.2.1, 0, none⟩) 3 3) (.slice (some ⟨y13.2.2.1, 0, none⟩) 2 y13.2.2.2.1) := ⟨RdS.ofHeap (xs := botlS.st) (junk := []) boE_len (hl25.at (b := y13.1) (by repeat constructor)), RdS.ofHeap (xs := botlS.ps) (junk := []) psE_len (hl25.at (b := y13.2.1) (by repeat constructor)), RdS.ofHeap (xs := botlS.sg) (junk := y13.2.2.2.2) sgE_len (hl25.at (b := y13.2.2.1) (by repeat constructor))⟩)
     all_goals (have hmany : RdSm wl25 manyB (.slice (some ⟨y14.1, 0, none⟩) 3 3) (.slice (some ⟨y14.2.1, 0, none⟩) 3 3) (.slice (some ⟨y14.2.2.1, 0, none⟩) 2 y14.2.2.2.1) := ⟨RdS.ofHeap (xs := manyB.st) (junk := []) boE_len (hl25.at (b := y14.1) (by repeat constructor)), RdS.ofHeap (xs := manyB.ps) (junk := []) psE_len (hl25.at (b := y14.2.1) (by repeat constructor)), RdS.ofHeap (xs := manyB.sg) (junk := y14.2.2.2.2) sgE_len (hl25.at (b := y14.2.2.1) (by repeat constructor))⟩)
     all_goals (have hwide : RdSm wl25 wideS (.slice (some ⟨y15.1, 0, none⟩) 3 3) (.slice (some ⟨b226, 0, none⟩) 4 4) (.slice (some ⟨y15.2.2.1, 0, none⟩) 2 y15.2.2.2.1) := ⟨RdS.ofHeap (xs := wideS.st) (junk := []) boE_len (hl25.at (b := y15.1) (by repeat constructor)), RdS.ofHeap (xs := wideS.ps) (junk := []) psE_len (hl25.at (b := b226) (by repeat constructor)), RdS.ofHeap (xs := wideS.sg) (junk := y15.2.2.2.2) sgE_len (hl25.at (b := y15.2.2.1) (by repeat constructor))⟩)
     all_goals refine tc_region ?_; refine tl_q (y_move rfl) rfl ?_; refine tl_q (y_eql rfl rfl) rfl ?_; refine tl_q (y_move rfl) rfl ?_; refine tl_qg rfl rfl (y_move rfl) rfl ?_; refine tl_qg rfl rfl (y_eql rfl rfl) rfl ?_; refine tl_q (y_pick_t rfl rfl) rfl ?_; refine tl_q (y_move rfl) rfl ?_; refine tl_qg rfl rfl (y_move rfl) rfl ?_; refine tl_qg rfl rfl (y_eql rfl rfl) rfl ?_; refine tl_q (y_pick_t rfl rfl) rfl ?_; refine tl_q (y_move rfl) rfl ?_; refine tl_qg rfl rfl (y_move rfl) rfl ?_; refine tl_qg rfl rfl (y_eql rfl rfl) rfl ?_; refine tl_q (y_pick_t rfl rfl) rfl ?_; refine tl_q (y_move rfl) rfl ?_; refine tl_qg rfl rfl (y_move rfl) rfl ?_; refine tl_qg rfl rfl (y_eql rfl rfl) rfl ?_; refine tl_q (y_pick_t rfl rfl) rfl ?_; refine tl_q (y_move rfl) rfl ?_; refine tl_qg rfl rfl (y_move rfl) rfl ?_; refine tl_qg rfl rfl (y_eql rfl rfl) rfl ?_; refine tl_q (y_pick_t rfl rfl) rfl ?_; refine tl_q (y_move rfl) rfl ?_; refine tl_qg rfl rfl (y_move rfl) rfl ?_; refine tl_qg rfl rfl (y_eql rfl rfl) rfl ?_; refine tl_q (y_pick_t rfl rfl) rfl ?_; refine tl_q (y_move rfl) rfl ?_; refine tl_qg rfl rfl (y_move rfl) rfl ?_; refine tl_qg rfl rfl (y_eql rfl rfl) rfl ?_; refine tl_q (y_pick_t rfl rfl) rfl ?_; refine tl_q (y_move rfl) rfl ?_; ((refine tl_qg rfl rfl (y_loadWf rfl (hl25.at (by repeat constructor)) (MI.m (by repeat constructor)) (by first | (simp; done) | (simp; omega)) (by rfl)) rfl ?_))
     all_goals (refine tl_eg rfl rfl rfl (e_callV rfl (.cons rfl .nil) (fun w' hw' => chk_v nm_chk.1 selfF _ _ _ w' (hself.fr (hw'.fr (w0 := wl25) (S := []) (MI.m (by repeat constructor)))))) (fun _ _ => ?_)); refine tl_qg rfl rfl (y_eql rfl rfl) rfl ?_; refine tl_q (y_pick_t rfl rfl) rfl ?_; refine tl_q (y_move rfl) rfl ?_; ((refine tl_qg rfl rfl (y_loadWf rfl (hl25.at (by repeat constructor)) (MI.m (by repeat constructor)) (by first | (simp; done) | (simp; omega)) (by rfl)) rfl ?_))
     all_goals (refine tl_eg rfl rfl rfl (e_callV rfl (.cons rfl .nil) (fun w' hw' => chk_v nm_chk.2.1 stmpF _ _ _ w' (hstmp.fr (hw'.fr (w0 := wl25) (S := []) (MI.m (by repeat constructor)))))) (fun _ _ => ?_)); refine tl_qg rfl rfl (y_eql rfl rfl) rfl ?_; refine tl_q (y_pick_t rfl rfl) rfl ?_; refine tl_q (y_move rfl) rfl ?_; ((refine tl_qg rfl rfl (y_loadWf rfl (hl25.at (by repeat constructor)) (MI.m (by repeat constructor)) (by first | (simp; done) | (simp; omega)) (by rfl)) rfl ?_))
     all_goals (refine tl_eg rfl rfl rfl (e_callV rfl (.cons rfl .nil) (fun w' hw' => chk_v nm_chk.2.2.1 hourF _ _ _ w' (hhour.fr (hw'.fr (w0 := wl25) (S := []) (MI.m (by repeat constructor)))))) (fun _ _ => ?_)); refine tl_qg rfl rfl (y_eql rfl rfl) rfl ?_; refine tl_q (y_pick_t rfl rfl) rfl ?_; refine tl_q (y_move rfl) rfl ?_; ((refine tl_qg rfl rfl (y_loadWf rfl (hl25.at (by repeat constructor)) (MI.m (by repeat constructor)) (by first | (simp; done) | (simp; omega)) (by rfl)) rfl ?_))
     all_goals (refine tl_eg rfl rfl rfl (e_callV rfl (.cons rfl .nil) (fun w' hw' => chk_v nm_chk.2.2.2.1 botlF _ _ _ w' (hbotl.fr (hw'.fr (w0 := wl25) (S := []) (MI.m (by repeat constructor)))))) (fun _ _ => ?_)); refine tl_qg rfl rfl (y_eql rfl rfl) rfl ?_; refine tl_q (y_pick_t rfl rfl) rfl ?_; refine tl_q (y_move rfl) rfl ?_; ((refine tl_qg rfl rfl (y_loadWf rfl (hl25.at (by repeat constructor)) (MI.m (by repeat constructor)) (by first | (simp; done) | (simp; omega)) (by rfl)) rfl ?_))
     all_goals (refine tl_eg rfl rfl rfl (e_callV rfl (.cons rfl .nil) (fun w' hw' => chk_v nm_chk.2.2.2.2.1 manyF _ _ _ w' (hmany.fr (hw'.fr (w0 := wl25) (S := []) (MI.m (by repeat constructor)))))) (fun _ _ => ?_)); refine tl_qg rfl rfl (y_eql rfl rfl) rfl ?_; refine tl_q (y_pick_t rfl rfl) rfl ?_; refine tl_q (y_move rfl) rfl ?_; ((refine tl_qg rfl rfl (y_loadWf rfl (hl25.at (by repeat constructor)) (MI.m (by repeat constructor)) (by first | (simp; done) | (simp; omega)) (by rfl)) rfl ?_))
     all_goals (refine tl_eg rfl rfl rfl (e_callV rfl (.cons rfl .nil) (fun w' hw' => chk_v nm_chk.2.2.2.2.2.1 wideF _ _ _ w' (hwide.fr (hw'.fr (w0 := wl25) (S := []) (MI.m (by repeat constructor)))))) (fun _ _ => ?_)); refine tl_qg rfl rfl (y_eql rfl rfl) rfl ?_; refine tl_q (y_pick_t rfl rfl) rfl ?_; refine tl_q (y_move rfl) rfl ?_; refine tl_qg rfl rfl (y_build_g (by repeat constructor)) rfl ?_; refine tl_eg rfl rfl rfl (e_callV rfl (.cons rfl .nil) (fun w' hw' => chk_v (s := zeroS) nm_chk.2.2.2.2.2.2 zeroF (.slice none 0 0) (.slice none 0 0) (.slice none 0 0) w' ⟨RdS.nil _ _ _ _, RdS.nil _ _ _ _, RdS.nil _ _ _ _⟩)) (fun _ _ => ?_); refine tl_qg rfl rfl (y_eql rfl rfl) rfl ?_; refine tl_q (y_pick_t rfl rfl) rfl ?_; refine tl_q (y_move rfl) rfl ?_; refine tl_eg rfl rfl rfl (e_callV rfl .nil (fun w' _ => awake_c w')) (fun _ _ => ?_); refine tl_q (y_pick_t rfl rfl) rfl ?_; refine tl_q (y_assign rfl) rfl ?_; refine tl_nil ?_; ((refine hK27 ?_; try (clear hK27; clear K27)))
     all_goals refine tc_ret ?_; (repeat (first | refine tk_then_ret ?_))
     all_goals (refine tk_ret rfl rfl (.cons (.tmp rfl) .nil) ?_)
     all_goals (
      exact fun w' hw' => ⟨rfl, hw'.fr (w0 := w) (S := []) (MI.m (by repeat constructor))⟩))
end Go.Sp
/-
  From a contract of a law's function to its row: what the arguments read as, and that they read so afterwards.
-/
namespace Go.Sp
open Go Go.Proofs Go.ChangeShapes Go.WideShapes Go.RowKit
section
variable {H : Type} {enc : TypeId × Value → H} {P : Program} {w : World} {base : Nat} {spare : Nat → Bool} {held : Bool}
theorem Fr.kept {W W' : World} (h : Fr [] W W') (p : MemPlace → Prop) : W.keptBut W' p :=
  ⟨h.os, h.output, fun i hi => by
    have e := h.block i hi (by simp)
    rw [e]
    cases hb : W.heap[i]? with
    | none => trivial
    | some o => cases o <;> simp⟩
/-- What is left of a post without 'again'. -/
theorem post_na {f : Func} {s : ChangeSpec} {apart fresh handsOn : Bool} {W W' : World} {args : Array Value} {v : Value} {ds gs : List (DataW H)} {before pa pv : List MemPlace}
    (hW : DataW.Whole enc P f.params.toList s.vars apart W args.toList ds gs before)
    (hres : ∀ (b : Nat) (sp : Nat → Bool) (hd : Bool), DataW.TrodAll enc P W' b sp hd f.resultTypes.toList (v.resultList f.resultTypes.size) (s.fn H (ds ++ gs)).results [])
    (hargs : ∀ sp : Nat → Bool, (∀ p ∈ before, sp p.block = true) → DataW.TrodAll enc P W' 0 sp true f.params.toList args.toList (s.fn H (ds ++ gs)).args pa)
    (hvars : ∀ sp : Nat → Bool, (∀ p ∈ before, sp p.block = true) → DataW.TrodVars enc P W' sp s.vars (s.fn H (ds ++ gs)).vars pv)
    (hps : before = pa ++ pv) (hk : W.keptBut W' (· ∈ before)) : s.post enc P f apart fresh handsOn false W args v W' := by
  have hold : ∀ p ∈ before, (fun b => decide (b < W.heap.size)) p.block = true := fun p hp => by simpa using hW.lt p hp
  refine ⟨ds, gs, before, [], pa, pv, hW, hres _ _ _, hargs _ hold, hvars _ hold, World.keptBut_mono (fun p hp => ⟨hp, ?_⟩) hk, fun h => by cases h⟩
  rw [hps, List.mem_append] at hp
  exact Or.inr hp
theorem all_stays (hl : laidOutB P = true) {W W' : World} {sp : Nat → Bool} (hb : Below W.heap.size W W') : ∀ {ts : List TypeId} {vs : List Value} {ds : List (DataW H)} {ps : List MemPlace}, (ts.all fun t => P.readableRec t && decide (t < P.types.size)) = true →
    DataW.TrodAll enc P W 0 (fun _ => true) true ts vs ds ps → (∀ p ∈ ps, sp p.block = true) → DataW.TrodAll enc P W' 0 sp true ts vs ds ps := by
  intro ts
  induction ts with
  | nil => intro vs ds ps _ h _; cases vs <;> cases ds <;> simp [DataW.TrodAll] at h ⊢; exact h
  | cons t ts ih =>
    intro vs ds ps ht h hs
    have hlt := h.lt
    obtain ⟨v, vs', d, ds', p, q, rfl, rfl, rfl, h1, h2⟩ := trodAll_cons h
    simp only [List.all_cons, Bool.and_eq_true, decide_eq_true_eq] at ht
    exact ⟨p, q, WideElems.Trod_stays hl ht.1.1 ht.1.2 h1 (fun x hx => hb.same (hlt x (List.mem_append_left _ hx))) (fun x hx => hs x (List.mem_append_left _ hx)),
      ih (by simpa using ht.2) h2 (fun x hx => hs x (List.mem_append_right _ hx)), rfl⟩
end
end Go.Sp
/-
  What a sample reads as.
-/
namespace Go.Sp
open Go Go.Proofs Go.ChangeShapes Go.WideShapes Go.RowKit
theorem laidTryz : laidOutB Tryz.prog = true := by kernel_rfl
section
variable {H : Type} {enc : TypeId × Value → H} {w : World} {base : Nat} {spare : Nat → Bool} {held : Bool}
end
end Go.Sp
