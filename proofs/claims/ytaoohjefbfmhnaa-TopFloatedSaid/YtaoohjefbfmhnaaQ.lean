/-
  What the statements are made of: two readings, ranges, what is seen.
-/
import Derived.Test.YtaoohjefbfmhnaaP
set_option linter.unusedVariables false
set_option linter.unusedSimpArgs false
set_option linter.deprecated false
namespace Go.Sp
open Go Go.Proofs
def fitF (m r : Int × Int) : Int := max 0 (min m.2 r.2 - max m.1 r.1 + 1)
abbrev v16 (n : Int) : Value := .int .u16 n
abbrev v8 (n : Int) : Value := .int .u8 n
def rangesF (a b : Int) : Int × Int := (1 + a % 2000, min 2000 (1 + a % 2000 + b % 400))
def canN (s : Sn) (k d : Int) (n : Nat) : List Int := ((List.range n).filter fun (i : Nat) => rFit s (k, (i : Int)) d).map fun (i : Nat) => (i : Int)
def canL (s : Sn) (k d : Int) : List Int := canN s k d (s.divisions + 1).toNat
theorem canN_succ (s : Sn) (k d : Int) (n : Nat) : canN s k d (n + 1) = if rFit s (k, (n : Int)) d = true then canN s k d n ++ [(n : Int)] else canN s k d n := by
  unfold canN
  rw [List.range_succ, List.filter_append, List.map_append]
  cases h : rFit s (k, (n : Int)) d <;> simp [h]
theorem canN_len (s : Sn) (k d : Int) (n : Nat) : (canN s k d n).length ≤ n := by
  unfold canN
  rw [List.length_map]
  exact Nat.le_trans (List.length_filter_le _ _) (by simp)
def seenF (s : Sn) (k d word : Int) : Int := if rFlo s k d = 0 then (canL s k d).getD (word % ((canL s k d).length : Int)).toNat 0 else rFlo s k d
end Go.Sp
