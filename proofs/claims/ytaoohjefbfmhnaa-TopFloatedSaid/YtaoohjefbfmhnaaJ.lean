/-
  Which densities loads cover; Cover, ProveCover.
-/
import Derived.Test.YtaoohjefbfmhnaaI
set_option linter.unusedVariables false
set_option linter.unusedSimpArgs false
set_option linter.deprecated false
namespace Go.Sp
open Go Go.Proofs
def withN (c : List Bool) (r : Int × Int) (n : Nat) : List Bool := (List.range n).foldl (fun c j => c.set (r.1.toNat + j) true) c
def withF (c : List Bool) (r : Int × Int) : List Bool := withN c r (r.2 - r.1 + 1).toNat
theorem withN_succ (c : List Bool) (r : Int × Int) (n : Nat) : withN c r (n + 1) = (withN c r n).set (r.1.toNat + n) true := by simp [withN, List.range_succ]
theorem withN_len (c : List Bool) (r : Int × Int) (n : Nat) : (withN c r n).length = c.length := by
  induction n with
  | zero => rfl
  | succ n ih => rw [withN_succ, List.length_set, ih]
abbrev fnV (f : Nat) : Value := .func (.func f) #[] #[]
theorem withF_len (c : List Bool) (r : Int × Int) : (withF c r).length = c.length := withN_len c r _
def covStep (s : Sn) (c : List Bool) (k : Int) : List Bool := withF c (floF s k)
def covL (s : Sn) (l : List Int) (n : Nat) : List Bool := (l.take n).foldl (covStep s) (List.replicate 2001 false)
theorem covL_succ (s : Sn) (l : List Int) (n : Nat) (hn : n < l.length) : covL s l (n + 1) = withF (covL s l n) (floF s (l.getD n 0)) := by
  unfold covL
  rw [List.take_add_one, List.getElem?_eq_getElem hn, List.getD_eq_getElem?_getD, List.getElem?_eq_getElem hn, List.foldl_append]
  rfl
theorem foldl_len (s : Sn) (l : List Int) (c : List Bool) : (l.foldl (covStep s) c).length = c.length := by
  induction l generalizing c with
  | nil => rfl
  | cons k l ih => rw [List.foldl_cons, ih]; exact withF_len _ _
theorem covL_len (s : Sn) (l : List Int) (n : Nat) : (covL s l n).length = 2001 := by
  unfold covL; rw [foldl_len, List.length_replicate]
def coversF (s : Sn) (r : Int × Int) (l : List Int) : Bool := decide (covL s l l.length = withF (covL s l l.length) r)
theorem floF_bd {s : Sn} (hs : VS s) {k : Int} (h0 : 0 ≤ k) (h1 : k ≤ s.weights.length) : (0 ≤ (floF s k).1 ∧ (floF s k).1 ≤ 100000000) ∧ (floF s k).2 ≤ 2000 := by
  have hbd := massF_bd hs h0 h1
  have hds := ds_bd hs
  have hv1 := hs.v1
  have hfb := from_bd hbd.1 hbd.2 (v := s.volume + s.divisions * s.step) (by omega)
  have hbb := below_bd hbd.1 hbd.2 hv1
  simp only [floF]
  omega
/-- The block of a range, unturned. -/
def JR (r : Int × Int) (o : Obj) : Prop := o = .cells #[vi r.1, vi r.2] 41 (0, 0)
def coverO (s : Sn) (r : Int × Int) : Option (List Int) := (List.range (s.weights.length + 2)).findSome? fun (k : Nat) => srch (coversF s r) (s.weights.length + 1) k [] 0
def coverE (s : Sn) (r : Int × Int) : List Int × Int := if ¬ rangedF s r = 0 then ([], rangedF s r) else match coverO s r with
  | some l => (l, 0)
  | none => ([], 10)
def allIn (s : Sn) (l : List Int) : Bool := l.all fun x => decide (0 ≤ x ∧ x ≤ s.weights.length)
def incrB (l : List Int) : Bool := (List.range l.length).all fun i => decide (i = 0 ∨ l.getD (i - 1) 0 < l.getD i 0)
def proveF (s : Sn) (r : Int × Int) (l : List Int) (many : Int) : Bool := decide (rangedF s r = 0 ∧ (l.length : Int) ≤ many ∧ allIn s l = true ∧ incrB l = true ∧ coversF s r l = true)
theorem incrB_no {l : List Int} {i : Nat} (hi : i < l.length) (h0 : 0 < i) (h : l.getD i 0 ≤ l.getD (i - 1) 0) : incrB l = false := by
  cases hb : incrB l
  · rfl
  · exfalso
    have := of_decide_eq_true (List.all_eq_true.1 hb i (List.mem_range.2 hi))
    omega
theorem incrB_yes {l : List Int} (h : ∀ i : Nat, i < l.length → 0 < i → l.getD (i - 1) 0 < l.getD i 0) : incrB l = true :=
  List.all_eq_true.2 fun i hi => decide_eq_true (by
    have := h i (List.mem_range.1 hi)
    omega)
end Go.Sp
