/-
  The plain laws: what the program computes is what the reference says.
-/
import Derived.Test.YtaoohjefbfmhnaaQ
set_option linter.unusedVariables false
set_option linter.unusedSimpArgs false
set_option linter.deprecated false
namespace Go.Sp
open Go Go.Proofs
theorem from_le {m v d : Int} (hv : 0 < v) : fromF m v ≤ d ↔ 1000 * m ≤ d * v := by
  unfold fromF
  have h : (1000 * m + v - 1) / v < d + 1 ↔ 1000 * m + v - 1 < (d + 1) * v := Int.ediv_lt_iff_lt_mul hv
  have e : (d + 1) * v = d * v + v := by rw [Int.add_mul, Int.one_mul]
  omega
theorem le_below {m v d : Int} (hv : 0 < v) : d ≤ belowF m v ↔ d * v ≤ 1000 * m := Int.le_ediv_iff_mul_le hv
theorem fl_mem {s : Sn} (hs : VS s) {k d : Int} (h1 : 1 ≤ d) (h2 : d ≤ 2000) : ((floF s k).1 ≤ d ∧ d ≤ (floF s k).2) ↔ rFlo s k d = 0 := by
  have hds := ds_bd hs
  have hv1 := hs.v1
  have a1 := from_le (m := massF s k) (v := s.volume + s.divisions * s.step) (d := d) (by omega)
  have a2 := le_below (m := massF s k) (v := s.volume) (d := d) (by omega)
  have e : d * (s.volume + s.divisions * s.step) = d * s.volume + d * (s.divisions * s.step) := Int.mul_add ..
  unfold floF rFlo
  dsimp only
  split
  · omega
  · split
    · omega
    · omega
theorem flo_cases (s : Sn) (k d : Int) : rFlo s k d = 0 ∨ rFlo s k d = -1 ∨ rFlo s k d = -2 := by
  unfold rFlo; split; exact .inr (.inr rfl); split; exact .inr (.inl rfl); exact .inl rfl
theorem mean_mem {s : Sn} (hs : VS s) {k seen d : Int} (hk0 : 0 ≤ k) (hk1 : k ≤ s.weights.length) (h0 : -2 ≤ seen) (h3 : seen ≤ s.divisions) (h1 : 1 ≤ d) (h2 : d ≤ 2000) : ((meanF s k seen).1 ≤ d ∧ d ≤ (meanF s k seen).2) ↔ rFit s (k, seen) d = true := by
  have hds := ds_bd hs
  have hv1 := hs.v1
  have hw1 := hs.w1
  have a1 := from_le (m := massF s k) (v := s.volume + s.divisions * s.step) (d := d) (by omega)
  have a2 := le_below (m := massF s k) (v := s.volume) (d := d) (by omega)
  have e : d * (s.volume + s.divisions * s.step) = d * s.volume + d * (s.divisions * s.step) := Int.mul_add ..
  have e2 : 0 ≤ d * (s.divisions * s.step) := Int.mul_nonneg (by omega) (by omega)
  have hf := fl_mem hs (k := k) h1 h2
  unfold meanF rFit
  dsimp only
  by_cases c1 : seen = -1
  · subst c1
    rw [if_pos rfl, if_pos (by omega), decide_eq_true_eq]
    unfold rFlo meetF
    dsimp only
    split
    · omega
    · split <;> omega
  · rw [if_neg c1]
    by_cases c2 : seen = -2
    · subst c2
      rw [if_pos rfl, if_pos (by omega), decide_eq_true_eq]
      unfold rFlo meetF
      dsimp only
      split
      · omega
      · split <;> omega
    · rw [if_neg c2]
      have hdv := dv_bd hs (n := seen) (by omega) h3
      have b1 := from_le (m := massF s k) (v := s.volume + seen * s.step + s.width) (d := d) (by omega)
      have hc := flo_cases s k d
      have b4 := massF_bd hs hk0 hk1
      have b3 : s.volume + seen * s.step - s.width ≤ 0 → d * (s.volume + seen * s.step - s.width) ≤ 0 := fun h => Int.mul_nonpos_of_nonneg_of_nonpos (by omega) h
      by_cases c4 : s.width < s.volume + seen * s.step
      · rw [if_pos c4]
        have b2 := le_below (m := massF s k) (v := s.volume + seen * s.step - s.width) (d := d) (by omega)
        by_cases c3 : rFlo s k d < 0
        · rw [if_pos (.inr c3), decide_eq_true_eq]
          simp only [meetF]; omega
        · rw [if_neg (by omega), decide_eq_true_eq]
          simp only [meetF]; omega
      · rw [if_neg c4]
        have b3' := b3 (by omega)
        by_cases c3 : rFlo s k d < 0
        · rw [if_pos (.inr c3), decide_eq_true_eq]
          simp only [meetF]; omega
        · rw [if_neg (by omega), decide_eq_true_eq]
          simp only [meetF]; omega
theorem mean_lo {s : Sn} (hs : VS s) {k seen : Int} : 1 ≤ (meanF s k seen).1 ∧ (meanF s k seen).2 ≤ 2000 := by
  unfold meanF floF
  split
  · simp only [meetF]; omega
  · split
    · simp only [meetF]; omega
    · split <;> (simp only [meetF]; omega)
theorem rdOk_q {s : Sn} {r : Int × Int} (h : rdOk s r = true) : (0 ≤ r.1 ∧ r.1 ≤ s.weights.length) ∧ (-2 ≤ r.2 ∧ r.2 ≤ s.divisions) := of_decide_eq_true h
/-- The densities that fit all readings but some. -/
theorem nar_mem {s : Sn} (hs : VS s) {l : List (Int × Int)} (hok : l.all (rdOk s) = true) (o : List Int) {d : Int} (h1 : 1 ≤ d) (h2 : d ≤ 2000) : ∀ n, n ≤ l.length →
    (((narF s l o n).1 ≤ d ∧ d ≤ (narF s l o n).2) ↔ ∀ i : Nat, i < n → (i : Int) ∈ o ∨ rFit s (l.getD i (0, 0)) d = true) := by
  intro n
  induction n with
  | zero => intro _; exact ⟨fun _ i hi => absurd hi (Nat.not_lt_zero i), fun _ => ⟨h1, h2⟩⟩
  | succ n ih =>
    intro hn
    have ih := ih (by omega)
    have hq := rdOk_q (List.all_eq_true.1 hok (l.getD n (0, 0)) (by rw [List.getD_eq_getElem?_getD, List.getElem?_eq_getElem (by omega)]; exact List.getElem_mem (by omega)))
    have hm := mean_mem hs hq.1.1 hq.1.2 hq.2.1 hq.2.2 h1 h2
    rw [narF_succ]
    unfold narStep
    by_cases hc : (n : Int) ∈ o
    · rw [if_pos hc, ih]
      exact ⟨fun h i hi => by
        rcases Nat.lt_succ_iff_lt_or_eq.1 hi with h3 | rfl
        · exact h i h3
        · exact .inl hc, fun h i hi => h i (by omega)⟩
    · rw [if_neg hc]
      constructor
      · intro h i hi
        simp only [meetF] at h
        rcases Nat.lt_succ_iff_lt_or_eq.1 hi with h3 | rfl
        · exact ih.1 (by omega) i h3
        · exact .inr (hm.1 (by omega))
      · intro h
        have g1 := ih.2 (fun i hi => h i (by omega))
        have g2 := hm.2 ((h n (by omega)).resolve_left hc)
        simp only [meetF]
        omega
theorem nar_bd {s : Sn} (hs : VS s) (l : List (Int × Int)) (o : List Int) (n : Nat) : 1 ≤ (narF s l o n).1 ∧ (narF s l o n).2 ≤ 2000 := by
  induction n with
  | zero => exact ⟨Int.le_refl _, Int.le_refl _⟩
  | succ n ih =>
    rw [narF_succ]; unfold narStep
    split
    · exact ih
    · simp only [meetF]; omega
theorem fitAll_iff {s : Sn} {l : List (Int × Int)} {out d : Int} {n : Nat} : fitAll s l out d n = true ↔ ∀ i : Nat, i < n → outB out i = true ∨ rFit s (l.getD i (0, 0)) d = true := by
  unfold fitAll fitB
  simp only [List.all_eq_true, List.mem_range, Bool.or_eq_true]
/-- A fold over densities of a range. -/
theorem allN_int {s : Sn} {l : List (Int × Int)} {out lo hi : Int} (h1 : 1 ≤ lo) (h2 : hi ≤ 2000) (hp : ∀ d : Int, 1 ≤ d → d ≤ 2000 → (fitAll s l out d l.length = true ↔ lo ≤ d ∧ d ≤ hi)) : ∀ n : Nat, n ≤ 2000 →
    allN s l out n = if lo ≤ min hi n then ((lo, min hi n), min hi n - lo + 1) else ((2001, 0), 0) := by
  intro n
  induction n with
  | zero => intro _; rw [if_neg (by omega)]; rfl
  | succ n ih =>
    intro hn
    have hq := hp ((n : Int) + 1) (by omega) (by omega)
    rw [allN_succ, ih (by omega)]
    unfold allStep
    by_cases hc : lo ≤ (n : Int) + 1 ∧ (n : Int) + 1 ≤ hi
    · rw [if_pos (hq.2 hc), if_pos (show lo ≤ min hi ((n + 1 : Nat) : Int) by omega)]
      have e1 : min hi ((n + 1 : Nat) : Int) = (n : Int) + 1 := by omega
      by_cases h3 : lo ≤ min hi (n : Int)
      · have e2 : min hi (n : Int) = (n : Int) := by omega
        rw [if_pos h3, e1, e2]
        dsimp only
        rw [show min lo ((n : Int) + 1) = lo by omega, show max (n : Int) ((n : Int) + 1) = (n : Int) + 1 by omega, show (n : Int) - lo + 1 + 1 = (n : Int) + 1 - lo + 1 by omega]
      · rw [if_neg h3, e1]
        dsimp only
        rw [show lo = (n : Int) + 1 by omega, show min (2001 : Int) ((n : Int) + 1) = (n : Int) + 1 by omega, show max (0 : Int) ((n : Int) + 1) = (n : Int) + 1 by omega, show (n : Int) + 1 - ((n : Int) + 1) + 1 = 0 + 1 by omega]
    · rw [if_neg (fun h => hc (hq.1 h))]
      by_cases h3 : lo ≤ min hi (n : Int)
      · rw [if_pos h3, if_pos (show lo ≤ min hi ((n + 1 : Nat) : Int) by omega), show min hi ((n + 1 : Nat) : Int) = min hi (n : Int) by omega]
      · rw [if_neg h3, if_neg (show ¬ lo ≤ min hi ((n + 1 : Nat) : Int) by omega)]
theorem rAll_int {s : Sn} {l : List (Int × Int)} {out lo hi : Int} (h1 : 1 ≤ lo) (h2 : hi ≤ 2000) (hp : ∀ d : Int, 1 ≤ d → d ≤ 2000 → (fitAll s l out d l.length = true ↔ lo ≤ d ∧ d ≤ hi)) :
    rAll s l out = if lo ≤ hi then ((lo, hi), hi - lo + 1) else ((2001, 0), 0) := by
  unfold rAll
  rw [allN_int h1 h2 hp 2000 (Nat.le_refl _)]
  rw [show min hi ((2000 : Nat) : Int) = hi from by omega]
theorem outB_0 (i : Nat) : outB 0 i = false := by unfold outB; simp
/-- All densities, with nothing left out. -/
theorem rAll_nar {s : Sn} (hs : VS s) {l : List (Int × Int)} (hok : l.all (rdOk s) = true) {out : Int} {o : List Int} (ho : ∀ i : Nat, i < l.length → (outB out i = true ↔ (i : Int) ∈ o)) :
    rAll s l out = if (narF s l o l.length).1 ≤ (narF s l o l.length).2 then (narF s l o l.length, (narF s l o l.length).2 - (narF s l o l.length).1 + 1) else ((2001, 0), 0) :=
  rAll_int (nar_bd hs l o l.length).1 (nar_bd hs l o l.length).2 fun d h1 h2 => by
    rw [nar_mem hs hok o h1 h2 l.length (Nat.le_refl _), fitAll_iff]
    exact ⟨fun h i hi => (h i hi).imp (ho i hi).1 id, fun h i hi => (h i hi).imp (ho i hi).2 id⟩
end Go.Sp
