/-
  What See and Mean return.
-/
import Derived.Test.YtaoohjefbfmhnaaWa
import Derived.Test.YtaoohjefbfmhnaaVa
set_option linter.unusedVariables false
set_option linter.unusedSimpArgs false
set_option linter.deprecated false
namespace Go.Sp
open Go Go.Proofs
theorem refAcc_spec (s : Sn) (k d : Int) : ∀ n : Nat, n ≤ 30 → ((∀ i : Nat, i < n → rFit s (k, (i : Int)) d = false) ∧ refAcc s k d n = (99, -1)) ∨
    ∃ a b : Nat, a < n ∧ b < n ∧ rFit s (k, (a : Int)) d = true ∧ rFit s (k, (b : Int)) d = true ∧ refAcc s k d n = ((a : Int), (b : Int)) ∧ ∀ i : Nat, i < n → rFit s (k, (i : Int)) d = true → a ≤ i ∧ i ≤ b := by
  intro n
  induction n with
  | zero => intro _; exact .inl ⟨fun i hi => absurd hi (Nat.not_lt_zero i), rfl⟩
  | succ n ih =>
    intro hn
    rw [refAcc_succ]
    unfold refStep
    cases hf : rFit s (k, (n : Int)) d
    · rw [if_neg Bool.false_ne_true]
      rcases ih (by omega) with ⟨g1, g2⟩ | ⟨a, b, h1, h2, h3, h4, h5, h6⟩
      · exact .inl ⟨fun i hi => by
          rcases Nat.lt_succ_iff_lt_or_eq.1 hi with h | rfl
          · exact g1 i h
          · exact hf, g2⟩
      · exact .inr ⟨a, b, by omega, by omega, h3, h4, h5, fun i hi hfi => by
          rcases Nat.lt_succ_iff_lt_or_eq.1 hi with h | rfl
          · exact h6 i h hfi
          · rw [hf] at hfi; cases hfi⟩
    · rw [if_pos rfl]
      rcases ih (by omega) with ⟨g1, g2⟩ | ⟨a, b, h1, h2, h3, h4, h5, h6⟩
      · refine .inr ⟨n, n, by omega, by omega, hf, hf, ?_, fun i hi hfi => ?_⟩
        · rw [g2]; dsimp only; rw [show min (99 : Int) (n : Int) = n by omega, show max (-1 : Int) (n : Int) = n by omega]
        · rcases Nat.lt_succ_iff_lt_or_eq.1 hi with h | rfl
          · rw [g1 i h] at hfi; cases hfi
          · exact ⟨Nat.le_refl _, Nat.le_refl _⟩
      · refine .inr ⟨a, n, by omega, by omega, h3, hf, ?_, fun i hi hfi => ?_⟩
        · rw [h5]; dsimp only; rw [show min (a : Int) (n : Int) = a by omega, show max (b : Int) (n : Int) = n by omega]
        · rcases Nat.lt_succ_iff_lt_or_eq.1 hi with h | rfl
          · have := h6 i h hfi; omega
          · omega
theorem fit_div {s : Sn} {k d i : Int} (hi : 0 ≤ i) : rFit s (k, i) d = true ↔ rFlo s k d = 0 ∧ d * (s.volume + i * s.step - s.width) ≤ 1000 * massF s k ∧ 1000 * massF s k ≤ d * (s.volume + i * s.step + s.width) := by
  have hc := flo_cases s k d
  unfold rFit
  by_cases c : rFlo s k d < 0
  · rw [if_pos (.inr c), decide_eq_true_eq]; dsimp only; omega
  · rw [if_neg (by dsimp only; omega), decide_eq_true_eq]; dsimp only; omega
theorem fit_between {s : Sn} (hs : VS s) {k d i x j : Int} (hd : 1 ≤ d) (hi : 0 ≤ i) (hix : i ≤ x) (hxj : x ≤ j) (h1 : rFit s (k, i) d = true) (h2 : rFit s (k, j) d = true) : rFit s (k, x) d = true := by
  have hs1 := hs.s1
  obtain ⟨a0, a1, a2⟩ := (fit_div hi).1 h1
  obtain ⟨_, b1, b2⟩ := (fit_div (by omega)).1 h2
  have e1 : i * s.step ≤ x * s.step := Int.mul_le_mul_of_nonneg_right hix (by omega)
  have e2 : x * s.step ≤ j * s.step := Int.mul_le_mul_of_nonneg_right hxj (by omega)
  have e3 := Int.mul_le_mul_of_nonneg_left (show s.volume + x * s.step - s.width ≤ s.volume + j * s.step - s.width by omega) (show 0 ≤ d by omega)
  have e4 := Int.mul_le_mul_of_nonneg_left (show s.volume + i * s.step + s.width ≤ s.volume + x * s.step + s.width by omega) (show 0 ≤ d by omega)
  exact (fit_div (by omega)).2 ⟨a0, by omega, by omega⟩
theorem fit_three {s : Sn} (hs : VS s) {k d i j : Int} (hd : 1 ≤ d) (hi : 0 ≤ i) (hij : i ≤ j) (h1 : rFit s (k, i) d = true) (h2 : rFit s (k, j) d = true) : j ≤ i + 2 := by
  have hs1 := hs.s1
  have hw2 := hs.w2
  obtain ⟨a0, a1, a2⟩ := (fit_div hi).1 h1
  obtain ⟨_, b1, b2⟩ := (fit_div (by omega)).1 h2
  have e1 : s.volume + j * s.step - s.width ≤ s.volume + i * s.step + s.width := by
    rcases Int.lt_or_le (s.volume + i * s.step + s.width) (s.volume + j * s.step - s.width) with h | h
    · have := Int.mul_lt_mul_of_pos_left h (show 0 < d by omega)
      omega
    · exact h
  rcases Int.lt_or_le (i + 2) j with h | h
  · have e2 : (i + 3) * s.step ≤ j * s.step := Int.mul_le_mul_of_nonneg_right (by omega) (by omega)
    rw [Int.add_mul] at e2
    omega
  · exact h
/-- What See returns. -/
theorem see_spec {s : Sn} (hs : VS s) {k d : Int} (hk0 : 0 ≤ k) (hk1 : k ≤ s.weights.length) (h1 : 1 ≤ d) (h2 : d ≤ 2000) {r1 r2 e : Int} (h : seeF s k d = ((r1, r2), e)) :
    (rFlo s k d = 0 ∧ e = 0 ∧ 0 ≤ r1 ∧ r1 ≤ r2 ∧ r2 ≤ s.divisions ∧ r2 ≤ r1 + 2 ∧ ∀ i : Int, 0 ≤ i → i ≤ s.divisions → (rFit s (k, i) d = true ↔ r1 ≤ i ∧ i ≤ r2)) ∨ (¬ rFlo s k d = 0 ∧ e = 10 ∧ r1 = 0 ∧ r2 = 0) := by
  have hd1 := hs.d1
  have hd2 := hs.d2
  have ha : askF s k d = 0 := by
    unfold askF
    rw [if_neg (by rw [chkF_valid.2 hs]; exact fun h => h rfl), if_pos ⟨⟨hk0, hk1⟩, h1, h2⟩]
  unfold seeF at h
  rw [if_neg (by omega), at_eq hs h1 h2] at h
  by_cases hf : rFlo s k d = 0
  · rw [if_neg (by omega), see_eq hs hk0 hk1 h1 h2 hf] at h
    left
    rcases refAcc_spec s k d (s.divisions + 1).toNat (by omega) with ⟨g, _⟩ | ⟨a, b, g1, g2, g3, g4, g5, g6⟩
    · obtain ⟨i, hi, hfit⟩ := some_div hs h1 hf
      rw [g i (by omega)] at hfit; cases hfit
    · rw [g5] at h
      cases h
      have hab := g6 a (by omega) g3
      refine ⟨hf, rfl, by omega, by omega, by omega, fit_three hs h1 (by omega) (by omega) g3 g4, fun i hi0 hiD => ⟨fun hfit => ?_, fun hh => fit_between hs h1 (by omega) hh.1 hh.2 g3 g4⟩⟩
      have := g6 i.toNat (by omega) (by rw [show (i.toNat : Int) = i by omega]; exact hfit)
      omega
  · rw [if_pos hf] at h
    cases h
    exact .inr ⟨hf, rfl, rfl, rfl⟩
theorem mean_spec {s : Sn} (hs : VS s) {k n : Int} (hk0 : 0 ≤ k) (hk1 : k ≤ s.weights.length) (h1 : -2 ≤ n) (h2 : n ≤ s.divisions) {m1 m2 e : Int} (h : meanE s k n = ((m1, m2), e)) :
    (e = 0 ∧ 1 ≤ m1 ∧ m1 ≤ m2 ∧ m2 ≤ 2000 ∧ ∀ d : Int, 1 ≤ d → d ≤ 2000 → (rFit s (k, n) d = true ↔ m1 ≤ d ∧ d ≤ m2)) ∨ (e = 7 ∧ m1 = 0 ∧ m2 = 0 ∧ ∀ d : Int, 1 ≤ d → d ≤ 2000 → rFit s (k, n) d = false) := by
  have hb := mean_lo hs (k := k) (seen := n)
  unfold meanE at h
  rw [if_neg (by rw [chkF_valid.2 hs]; exact fun h => h rfl), if_neg (by omega)] at h
  by_cases hc : (meanF s k n).2 < (meanF s k n).1
  · rw [if_pos hc] at h
    cases h
    refine .inr ⟨rfl, rfl, rfl, fun d g1 g2 => ?_⟩
    cases hf : rFit s (k, n) d
    · rfl
    · have := (mean_mem hs hk0 hk1 h1 h2 g1 g2).2 hf; omega
  · rw [if_neg hc] at h
    have e1 := congrArg (fun x => x.1.1) h
    have e2 := congrArg (fun x => x.1.2) h
    have e3 := congrArg Prod.snd h
    dsimp only at e1 e2 e3
    refine .inl ⟨e3.symm, by omega, by omega, by omega, fun d g1 g2 => ?_⟩
    rw [← mean_mem hs hk0 hk1 h1 h2 g1 g2]
    omega
theorem floats_spec {s : Sn} (hs : VS s) {k d : Int} (hk0 : 0 ≤ k) (hk1 : k ≤ s.weights.length) (h1 : 1 ≤ d) (h2 : d ≤ 2000) : floatsF s k d = (rFlo s k d, 0) := by
  have ha : askF s k d = 0 := by
    unfold askF
    rw [if_neg (by rw [chkF_valid.2 hs]; exact fun h => h rfl), if_pos ⟨⟨hk0, hk1⟩, h1, h2⟩]
  unfold floatsF
  rw [if_neg (by omega), at_eq hs h1 h2]
end Go.Sp
