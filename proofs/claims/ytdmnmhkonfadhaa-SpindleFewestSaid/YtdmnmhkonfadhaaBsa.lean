/-
  Best is what the reference says.
-/
import Derived.Test.YtdmnmhkonfadhaaVa
set_option linter.unusedVariables false
set_option linter.unusedSimpArgs false
set_option linter.deprecated false
namespace Go.Sp
open Go Go.Proofs
theorem cntN_int {s : Sn} (hs : VS s) {r : Int × Int} (hr1 : 1 ≤ r.1) {k seen : Int} (hk0 : 0 ≤ k) (hk1 : k ≤ s.weights.length) (h0 : -2 ≤ seen) (h3 : seen ≤ s.divisions) : ∀ n : Nat, r.1 + n ≤ 2001 →
    cntN s r (k, seen) n = max 0 (min (meanF s k seen).2 (r.1 + n - 1) - max (meanF s k seen).1 r.1 + 1) := by
  intro n
  induction n with
  | zero => intro _; show (0 : Int) = _; omega
  | succ n ih =>
    intro hn
    have hm := mean_mem hs hk0 hk1 h0 h3 (d := r.1 + (n : Int)) (by omega) (by omega)
    rw [cntN_succ, ih (by omega)]
    by_cases hc : rFit s (k, seen) (r.1 + (n : Int)) = true
    · rw [if_pos hc]
      have := hm.2 hc
      omega
    · rw [if_neg hc]
      have : ¬ ((meanF s k seen).1 ≤ r.1 + (n : Int) ∧ r.1 + (n : Int) ≤ (meanF s k seen).2) := fun h => hc (hm.1 h)
      omega
theorem cnt_meet {s : Sn} (hs : VS s) {r : Int × Int} (hr1 : 1 ≤ r.1) (hr2 : r.1 ≤ r.2) (hr3 : r.2 ≤ 2000) {k seen : Int} (hk0 : 0 ≤ k) (hk1 : k ≤ s.weights.length) (h0 : -2 ≤ seen) (h3 : seen ≤ s.divisions) :
    cntN s r (k, seen) (cntR r) = max 0 ((meetF (meanF s k seen) r).2 - (meetF (meanF s k seen) r).1 + 1) := by
  unfold cntR
  rw [cntN_int hs hr1 hk0 hk1 h0 h3 _ (by omega)]
  simp only [meetF]
  congr 3
  omega
theorem left_eqN {s : Sn} (hs : VS s) {r : Int × Int} (hr1 : 1 ≤ r.1) (hr2 : r.1 ≤ r.2) (hr3 : r.2 ≤ 2000) {k : Int} (hk0 : 0 ≤ k) (hk1 : k ≤ s.weights.length) : ∀ n : Nat, n ≤ (s.divisions + 3).toNat → leftF s r k n = rLeftN s r k n ∧ 0 ≤ leftF s r k n := by
  intro n
  have hd1 := hs.d1
  induction n with
  | zero => intro _; exact ⟨rfl, Int.le_refl _⟩
  | succ n ih =>
    intro hn
    obtain ⟨g1, g2⟩ := ih (by omega)
    rw [leftF_succ, rLeftN_succ, cnt_meet hs hr1 hr2 hr3 hk0 hk1 (by omega) (by omega), ← g1]
    unfold leftStep
    omega
theorem left_eq {s : Sn} (hs : VS s) {r : Int × Int} (hr1 : 1 ≤ r.1) (hr2 : r.1 ≤ r.2) (hr3 : r.2 ≤ 2000) {k : Int} (hk0 : 0 ≤ k) (hk1 : k ≤ s.weights.length) : rLeft s r k = leftF s r k (s.divisions + 3).toNat := (left_eqN hs hr1 hr2 hr3 hk0 hk1 _ (Nat.le_refl _)).1.symm
theorem rleft_v (s : Sn) (hs : VS s) (r : Int × Int) (hr1 : 1 ≤ r.1 ∧ r.1 ≤ 2000) (hr12 : r.1 ≤ r.2) (hr2 : r.2 ≤ 2000) (k : Int) (h0 : 0 ≤ k) (h1 : k ≤ s.weights.length) (sl : Value) (w : World) (hr : RdI w sl s.weights) :
    CnV Try.prog 40 #[spV s sl, rV r, vi k] w (vi (leftF s r k (s.divisions + 3).toNat)) := by
  have h := rleft_c s hs r hr1 hr2 k h0 h1 sl w hr
  rw [left_eq hs hr1.1 hr12 hr2 h0 h1] at h; exact h
theorem best_v (s : Sn) (hn : NB s) (r : Int × Int) {a b e : Int} (hE : bestE s r = ((a, b), e)) (sl : Value) (w : World) (hr : RdI w sl s.weights) :
    CnV Try.prog 38 #[spV s sl, rV r] w (.tuple #[vi a, vi b, vi e]) := by
  have h := best_e s hn r sl w hr
  rw [hE] at h; exact h
end Go.Sp
