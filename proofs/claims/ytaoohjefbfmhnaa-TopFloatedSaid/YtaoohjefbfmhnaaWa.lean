/-
  What See returns is what the reference says.
-/
import Derived.Test.YtaoohjefbfmhnaaVa
set_option linter.unusedVariables false
set_option linter.unusedSimpArgs false
set_option linter.deprecated false
namespace Go.Sp
open Go Go.Proofs
def refStep (s : Sn) (k d : Int) (r : Int × Int) (x : Nat) : Int × Int := if rFit s (k, (x : Int)) d = true then (min r.1 x, max r.2 x) else r
def refAcc (s : Sn) (k d : Int) (n : Nat) : Int × Int := (List.range n).foldl (refStep s k d) (99, -1)
theorem refAcc_succ (s : Sn) (k d : Int) (n : Nat) : refAcc s k d (n + 1) = refStep s k d (refAcc s k d n) n := by simp [refAcc, List.range_succ]
theorem see_ref {s : Sn} (hs : VS s) {k d : Int} (hk0 : 0 ≤ k) (hk1 : k ≤ s.weights.length) (h1 : 1 ≤ d) (h2 : d ≤ 2000) : ∀ n : Nat, n ≤ (s.divisions + 1).toNat →
    ((∀ i : Nat, i < n → rFit s (k, (i : Int)) d = false) ∧ seeAcc s k d n = (s.divisions, 0) ∧ refAcc s k d n = (99, -1)) ∨ seeAcc s k d n = refAcc s k d n := by
  intro n
  have hd1 := hs.d1
  have hd2 := hs.d2
  induction n with
  | zero => intro _; exact .inl ⟨fun i hi => absurd hi (Nat.not_lt_zero i), rfl, rfl⟩
  | succ n ih =>
    intro hn
    have hm := mean_mem hs hk0 hk1 (seen := (n : Int)) (by omega) (by omega) h1 h2
    rw [seeAcc_succ, refAcc_succ]
    unfold seeStep refStep
    cases hf : rFit s (k, (n : Int)) d
    · rw [hf] at hm
      rw [if_neg (fun h => absurd (hm.1 h) Bool.false_ne_true), if_neg Bool.false_ne_true]
      rcases ih (by omega) with ⟨g1, g2, g3⟩ | g
      · exact .inl ⟨fun i hi => by
          rcases Nat.lt_succ_iff_lt_or_eq.1 hi with h | rfl
          · exact g1 i h
          · exact hf, g2, g3⟩
      · exact .inr g
    · rw [hf] at hm
      rw [if_pos (hm.2 rfl), if_pos rfl]
      rcases ih (by omega) with ⟨_, g2, g3⟩ | g
      · rw [g2, g3]
        right
        dsimp only
        rw [show min s.divisions (n : Int) = n by omega, show max (0 : Int) (n : Int) = n by omega, show min (99 : Int) (n : Int) = n by omega, show max (-1 : Int) (n : Int) = n by omega]
      · rw [g]; exact .inr rfl
theorem see_eq {s : Sn} (hs : VS s) {k d : Int} (hk0 : 0 ≤ k) (hk1 : k ≤ s.weights.length) (h1 : 1 ≤ d) (h2 : d ≤ 2000) (hf : rFlo s k d = 0) : seeAcc s k d (s.divisions.toNat + 1) = refAcc s k d (s.divisions + 1).toNat := by
  have hd1 := hs.d1
  rw [show s.divisions.toNat + 1 = (s.divisions + 1).toNat by omega]
  rcases see_ref hs hk0 hk1 h1 h2 (s.divisions + 1).toNat (Nat.le_refl _) with ⟨g, _, _⟩ | g
  · obtain ⟨i, hi, hfit⟩ := some_div hs h1 hf
    rw [g i (by omega)] at hfit; cases hfit
  · exact g
theorem refAcc_bd (s : Sn) (k d : Int) (n : Nat) (hn : n ≤ 30) : (0 ≤ (refAcc s k d n).1 ∧ (refAcc s k d n).1 ≤ 99) ∧ (-1 ≤ (refAcc s k d n).2 ∧ (refAcc s k d n).2 ≤ 30) := by
  induction n with
  | zero => show (0 ≤ (99 : Int) ∧ (99 : Int) ≤ 99) ∧ (-1 ≤ (-1 : Int) ∧ (-1 : Int) ≤ 30); omega
  | succ n ih =>
    have := ih (by omega)
    rw [refAcc_succ]; unfold refStep; split
    · dsimp only; omega
    · exact this
theorem see_v (s : Sn) (hn : NB s) (k d : Int) {r : Int × Int} {e : Int} (hE : seeF s k d = (r, e)) (sl : Value) (w : World) (hr : RdI w sl s.weights) : CnV Try.prog 89 #[spV s sl, vi k, vi d] w (.tuple #[rV r, vi e]) := by
  have h := see_c s hn k d sl w hr
  rw [hE] at h; exact h
end Go.Sp
