/-
  The reference: lists by bits, which is less; the smallest set, the fewest loads.
-/
import Derived.Test.YtaoohjefbfmhnaaM
set_option linter.unusedVariables false
set_option linter.unusedSimpArgs false
set_option linter.deprecated false
namespace Go.Sp
open Go Go.Proofs
/-- The first difference decides. -/
def lexLt : List Int → List Int → Bool
  | [], _ => false
  | _, [] => false
  | x :: xs, y :: ys => if x = y then lexLt xs ys else decide (x < y)
def lessF (a b : List Int) : Bool := if a.length = b.length then lexLt a b else decide (a.length < b.length)
theorem lex_hit : ∀ (a b : List Int) (i : Nat), a.length = b.length → i < a.length → (∀ j, j < i → a.getD j 0 = b.getD j 0) → a.getD i 0 ≠ b.getD i 0 → lexLt a b = decide (a.getD i 0 < b.getD i 0)
  | [], _, i, _, hi, _, _ => absurd hi (Nat.not_lt_zero i)
  | _ :: _, [], _, h, _, _, _ => by simp at h
  | x :: xs, y :: ys, 0, _, _, _, hne => by simp at hne; simp [lexLt, hne]
  | x :: xs, y :: ys, i + 1, h, hi, hj, hne => by
    have h0 : x = y := by simpa using hj 0 (Nat.succ_pos i)
    have ih := lex_hit xs ys i (by simpa using h) (by simpa using hi) (fun j hj' => by simpa using hj (j + 1) (by omega)) (by simpa using hne)
    simp only [lexLt, if_pos h0, ih, List.getD_cons_succ]
theorem lex_eq : ∀ (a b : List Int), a.length = b.length → (∀ j, j < a.length → a.getD j 0 = b.getD j 0) → lexLt a b = false
  | [], _, _, _ => by simp [lexLt]
  | _ :: _, [], h, _ => by simp at h
  | x :: xs, y :: ys, h, hj => by
    have h0 : x = y := by simpa using hj 0 (by simp)
    have ih := lex_eq xs ys (by simpa using h) (fun j hj' => by simpa using hj (j + 1) (by simpa using hj'))
    simp only [lexLt, if_pos h0, ih]
def bitB (b : Int) (i : Nat) : Bool := decide (b / 2 ^ i % 2 = 1)
def bitsN (b : Int) (n : Nat) : List Int := ((List.range n).filter (bitB b)).map fun (i : Nat) => (i : Int)
def bitsL (b : Int) : List Int := bitsN b 16
theorem bitsN_succ (b : Int) (n : Nat) : bitsN b (n + 1) = if bitB b n = true then bitsN b n ++ [(n : Int)] else bitsN b n := by
  unfold bitsN
  rw [List.range_succ, List.filter_append, List.map_append]
  cases h : bitB b n <;> simp [h]
theorem bitsN_len (b : Int) (n : Nat) : (bitsN b n).length ≤ n := by
  unfold bitsN
  rw [List.length_map]
  exact Nat.le_trans (List.length_filter_le _ _) (by simp)
theorem bitsL_len (b : Int) : (bitsL b).length ≤ 16 := bitsN_len b 16
theorem pow_bd {n m : Nat} (h : n ≤ m) : 1 ≤ (2 : Int) ^ n ∧ (2 : Int) ^ n ≤ 2 ^ m := by
  obtain ⟨k, rfl⟩ : ∃ k, m = n + k := ⟨m - n, by omega⟩
  have h1 : 0 < (2 : Int) ^ n := Int.pow_pos (by decide)
  have h2 : 0 < (2 : Int) ^ k := Int.pow_pos (by decide)
  refine ⟨by omega, ?_⟩
  rw [Int.pow_add]
  have := Int.mul_le_mul_of_nonneg_left (show (1 : Int) ≤ 2 ^ k by omega) (Int.le_of_lt h1)
  omega
def rLeaveStep (s : Sn) (l : List (Int × Int)) (best : List Int) (n : Nat) : List Int := if lessF (bitsL n) best = true ∧ 0 < (rAll s l n).2 then bitsL n else best
def rLeaveN (s : Sn) (l : List (Int × Int)) (n : Nat) : List Int := (List.range n).foldl (rLeaveStep s l) (bitsL (2 ^ l.length - 1))
theorem rLeaveN_succ (s : Sn) (l : List (Int × Int)) (n : Nat) : rLeaveN s l (n + 1) = rLeaveStep s l (rLeaveN s l n) n := by simp [rLeaveN, List.range_succ]
theorem rLeaveN_len (s : Sn) (l : List (Int × Int)) (n : Nat) : (rLeaveN s l n).length ≤ 16 := by
  induction n with
  | zero => exact bitsL_len _
  | succ n ih => rw [rLeaveN_succ]; unfold rLeaveStep; split; exact bitsL_len _; exact ih
def rLeave (s : Sn) (l : List (Int × Int)) : List Int := rLeaveN s l (2 ^ l.length)
theorem bitsL_mem {n m : Nat} (h : n < 2 ^ m) {x : Int} (hx : x ∈ bitsL n) : 0 ≤ x ∧ x < m := by
  unfold bitsL bitsN at hx
  obtain ⟨i, hi, rfl⟩ := List.mem_map.1 hx
  have hb := of_decide_eq_true (List.mem_filter.1 hi).2
  refine ⟨by omega, ?_⟩
  rcases Nat.lt_or_ge i m with h1 | h1
  · omega
  · exfalso
    have h2 : (2 : Nat) ^ m ≤ 2 ^ i := Nat.pow_le_pow_right (by decide) h1
    have h3 : (n : Int) / 2 ^ i = 0 := by
      rw [show ((2 : Int) ^ i) = ((2 ^ i : Nat) : Int) from by simp]
      exact Int.ediv_eq_zero_of_lt (by omega) (by omega)
    rw [h3] at hb
    exact absurd hb (by decide)
def rCoverStep (s : Sn) (r : Int × Int) (a : List Int × Bool) (n : Nat) : List Int × Bool := if (a.2 = false ∨ lessF (bitsL n) a.1 = true) ∧ rCovers s r (bitsL n) = true then (bitsL n, true) else a
def rCoverN (s : Sn) (r : Int × Int) (n : Nat) : List Int × Bool := (List.range n).foldl (rCoverStep s r) ([], false)
theorem rCoverN_succ (s : Sn) (r : Int × Int) (n : Nat) : rCoverN s r (n + 1) = rCoverStep s r (rCoverN s r n) n := by simp [rCoverN, List.range_succ]
theorem rCoverN_len (s : Sn) (r : Int × Int) (n : Nat) : (rCoverN s r n).1.length ≤ 16 := by
  induction n with
  | zero => exact Nat.zero_le _
  | succ n ih => rw [rCoverN_succ]; unfold rCoverStep; split; exact bitsL_len _; exact ih
def rCover (s : Sn) (r : Int × Int) : List Int × Bool := rCoverN s r (2 ^ (s.weights.length + 1))
end Go.Sp
