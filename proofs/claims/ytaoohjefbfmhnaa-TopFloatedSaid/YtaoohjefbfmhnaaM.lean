/-
  The reference: verdicts, covers, what a load leaves, lists.
-/
import Derived.Test.YtaoohjefbfmhnaaL
set_option linter.unusedVariables false
set_option linter.unusedSimpArgs false
set_option linter.deprecated false
namespace Go.Sp
open Go Go.Proofs
def cntR (r : Int × Int) : Nat := (r.2 - r.1 + 1).toNat
def flB (s : Sn) (k d : Int) : Bool := decide (rFlo s k d = 0)
def flAny (s : Sn) (k : Int) (r : Int × Int) (n : Nat) : Bool := (List.range n).any fun j => flB s k (r.1 + j)
def ntAny (s : Sn) (k : Int) (r : Int × Int) (n : Nat) : Bool := (List.range n).any fun j => !flB s k (r.1 + j)
theorem flAny_succ (s : Sn) (k : Int) (r : Int × Int) (n : Nat) : flAny s k r (n + 1) = (flAny s k r n || flB s k (r.1 + n)) := by simp [flAny, List.range_succ]
theorem ntAny_succ (s : Sn) (k : Int) (r : Int × Int) (n : Nat) : ntAny s k r (n + 1) = (ntAny s k r n || !flB s k (r.1 + n)) := by simp [ntAny, List.range_succ]
def rVerdict (s : Sn) (r : Int × Int) (k : Int) : Int := if ntAny s k r (cntR r) = false then 1 else if flAny s k r (cntR r) = false then 2 else 3
def covAny (s : Sn) (l : List Int) (d : Int) (n : Nat) : Bool := (List.range n).any fun i => flB s (l.getD i 0) d
theorem covAny_succ (s : Sn) (l : List Int) (d : Int) (n : Nat) : covAny s l d (n + 1) = (covAny s l d n || flB s (l.getD n 0) d) := by simp [covAny, List.range_succ]
def rCovN (s : Sn) (r : Int × Int) (l : List Int) (n : Nat) : Bool := (List.range n).all fun j => covAny s l (r.1 + j) l.length
def rCovers (s : Sn) (r : Int × Int) (l : List Int) : Bool := rCovN s r l (cntR r)
theorem rCovN_succ (s : Sn) (r : Int × Int) (l : List Int) (n : Nat) : rCovN s r l (n + 1) = (rCovN s r l n && covAny s l (r.1 + n) l.length) := by simp [rCovN, List.range_succ, List.all_append]
theorem rCov_no {s : Sn} {r : Int × Int} {l : List Int} {n : Nat} (hn : n < cntR r) (h : covAny s l (r.1 + n) l.length = false) : rCovers s r l = false := by
  cases hb : rCovers s r l
  · rfl
  · have := List.all_eq_true.1 hb n (List.mem_range.2 hn)
    rw [h] at this; cases this
def isLoadsF (s : Sn) (l : List Int) : Bool := allIn s l && incrB l
theorem isLoads_no1 {s : Sn} {l : List Int} {i : Nat} (hi : i < l.length) (h : ¬ (0 ≤ l.getD i 0 ∧ l.getD i 0 ≤ s.weights.length)) : isLoadsF s l = false := by
  have : allIn s l = false := by
    cases hb : allIn s l
    · rfl
    · exfalso
      have := of_decide_eq_true (List.all_eq_true.1 hb _ (List.getElem_mem hi))
      rw [List.getD_eq_getElem?_getD, List.getElem?_eq_getElem hi] at h
      exact h this
  unfold isLoadsF; rw [this]; rfl
theorem isLoads_yes {s : Sn} {l : List Int} (h : ∀ i : Nat, i < l.length → (0 ≤ l.getD i 0 ∧ l.getD i 0 ≤ s.weights.length) ∧ (0 < i → l.getD (i - 1) 0 < l.getD i 0)) : isLoadsF s l = true := by
  unfold isLoadsF
  rw [Bool.and_eq_true]
  refine ⟨List.all_eq_true.2 fun x hx => ?_, incrB_yes fun i hi => (h i hi).2⟩
  obtain ⟨i, hi, rfl⟩ := List.getElem_of_mem hx
  have := (h i hi).1
  rw [List.getD_eq_getElem?_getD, List.getElem?_eq_getElem hi] at this
  exact decide_eq_true this
def cntN (s : Sn) (r : Int × Int) (q : Int × Int) (n : Nat) : Int := (List.range n).foldl (fun a (j : Nat) => if rFit s q (r.1 + (j : Int)) = true then a + 1 else a) 0
theorem cntN_succ (s : Sn) (r q : Int × Int) (n : Nat) : cntN s r q (n + 1) = if rFit s q (r.1 + (n : Int)) = true then cntN s r q n + 1 else cntN s r q n := by simp [cntN, List.range_succ]
theorem cntN_bd (s : Sn) (r q : Int × Int) (n : Nat) : 0 ≤ cntN s r q n ∧ cntN s r q n ≤ n := by
  induction n with
  | zero => exact ⟨Int.le_refl _, Int.le_refl _⟩
  | succ n ih => rw [cntN_succ]; split <;> omega
def rLeftN (s : Sn) (r : Int × Int) (k : Int) (n : Nat) : Int := (List.range n).foldl (fun a (i : Nat) => max a (cntN s r (k, (i : Int) - 2) (cntR r))) 0
theorem rLeftN_succ (s : Sn) (r : Int × Int) (k : Int) (n : Nat) : rLeftN s r k (n + 1) = max (rLeftN s r k n) (cntN s r (k, (n : Int) - 2) (cntR r)) := by simp [rLeftN, List.range_succ]
def rLeft (s : Sn) (r : Int × Int) (k : Int) : Int := rLeftN s r k (s.divisions + 3).toNat
end Go.Sp
