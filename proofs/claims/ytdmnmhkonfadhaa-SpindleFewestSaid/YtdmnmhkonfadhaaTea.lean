/-
  The best load: what it leaves, and what the others leave.
-/
import Derived.Test.YtdmnmhkonfadhaaTra
import Derived.Test.YtdmnmhkonfadhaaBsa
set_option linter.unusedVariables false
set_option linter.unusedSimpArgs false
set_option linter.deprecated false
namespace Go.Sp
open Go Go.Proofs
theorem best_spec {s : Sn} {r : Int × Int} {D : Nat} (hD : D = (s.divisions + 3).toNat) : ∀ n : Nat, ∃ k : Nat, (k < n ∨ k = 0) ∧ bestAcc s r n = ((k : Int), leftF s r k D) ∧ (∀ j : Nat, j < n → leftF s r k D ≤ leftF s r j D) ∧ (∀ j : Nat, j < k → leftF s r k D < leftF s r j D) := by
  subst hD
  intro n
  induction n with
  | zero => exact ⟨0, .inr rfl, rfl, fun j h => absurd h (Nat.not_lt_zero j), fun j h => absurd h (Nat.not_lt_zero j)⟩
  | succ n ih =>
    obtain ⟨k, h1, h2, h3, h4⟩ := ih
    rw [bestAcc_succ, h2]
    unfold bestStep
    dsimp only
    by_cases hc : leftF s r n (s.divisions + 3).toNat < leftF s r k (s.divisions + 3).toNat
    · rw [if_pos hc]
      refine ⟨n, .inl (by omega), rfl, fun j hj => ?_, fun j hj => ?_⟩
      · rcases Nat.lt_succ_iff_lt_or_eq.1 hj with h | rfl
        · have := h3 j h; omega
        · exact Int.le_refl _
      · have := h3 j hj; omega
    · rw [if_neg hc]
      refine ⟨k, by omega, rfl, fun j hj => ?_, h4⟩
      rcases Nat.lt_succ_iff_lt_or_eq.1 hj with h | rfl
      · exact h3 j h
      · omega
theorem left_ge {s : Sn} {r : Int × Int} {k : Int} : ∀ n : Nat, 0 ≤ leftF s r k n ∧ ∀ i : Nat, i < n → (meetF (meanF s k ((i : Int) - 2)) r).2 - (meetF (meanF s k ((i : Int) - 2)) r).1 + 1 ≤ leftF s r k n := by
  intro n
  induction n with
  | zero => exact ⟨Int.le_refl _, fun i h => absurd h (Nat.not_lt_zero i)⟩
  | succ n ih =>
    rw [leftF_succ]
    unfold leftStep
    refine ⟨by omega, fun i hi => ?_⟩
    rcases Nat.lt_succ_iff_lt_or_eq.1 hi with h | rfl
    · have := ih.2 i h; omega
    · omega
theorem left_le {s : Sn} {r : Int × Int} (hr : r.1 ≤ r.2) {k : Int} : ∀ n : Nat, leftF s r k n ≤ r.2 - r.1 + 1 := by
  intro n
  induction n with
  | zero => unfold leftF; simp only [List.range_zero, List.foldl_nil]; omega
  | succ n ih =>
    rw [leftF_succ]
    unfold leftStep meetF
    dsimp only
    omega
/-- What the law's loop gathers. -/
def mostN (s : Sn) (r : Int × Int) (k : Int) (n : Nat) : Int := (List.range n).foldl (fun (a : Int) (i : Nat) => if (meanE s k ((i : Int) - 2)).2 = 0 then max a (fitF (meanE s k ((i : Int) - 2)).1 r) else a) 0
theorem mostN_succ (s : Sn) (r : Int × Int) (k : Int) (n : Nat) : mostN s r k (n + 1) = if (meanE s k ((n : Int) - 2)).2 = 0 then max (mostN s r k n) (fitF (meanE s k ((n : Int) - 2)).1 r) else mostN s r k n := by simp [mostN, List.range_succ]
theorem meanE_cases {s : Sn} (hs : VS s) {k seen : Int} (h0 : 0 ≤ k) (h1 : k ≤ s.weights.length) (h2 : -2 ≤ seen) (h3 : seen ≤ s.divisions) : (meanE s k seen = ((0, 0), 7) ∧ (meanF s k seen).2 < (meanF s k seen).1) ∨ (meanE s k seen = (meanF s k seen, 0) ∧ (meanF s k seen).1 ≤ (meanF s k seen).2) := by
  have hc : chkF s = 0 := chkF_valid.2 hs
  unfold meanE
  rw [if_neg (by omega), if_neg (by omega)]
  split
  · exact .inl ⟨rfl, by assumption⟩
  · exact .inr ⟨rfl, by omega⟩
theorem most_eq {s : Sn} (hs : VS s) {r : Int × Int} {k : Int} (h0 : 0 ≤ k) (h1 : k ≤ s.weights.length) : ∀ n : Nat, (n : Int) ≤ s.divisions + 3 → mostN s r k n = leftF s r k n := by
  intro n
  induction n with
  | zero => intro _; rfl
  | succ n ih =>
    intro hn
    rw [mostN_succ, leftF_succ, ih (by omega)]
    have hb := (left_ge (s := s) (r := r) (k := k) n).1
    unfold leftStep meetF
    dsimp only
    rcases meanE_cases hs h0 h1 (seen := (n : Int) - 2) (by omega) (by omega) with ⟨e, g⟩ | ⟨e, g⟩
    · rw [e, if_neg (by dsimp only; omega)]
      omega
    · rw [e, if_pos rfl]
      dsimp only
      unfold fitF
      omega
theorem tells_spec {s : Sn} (hs : VS s) {r : Int × Int} (h1 : 1 ≤ r.1) (h12 : r.1 ≤ r.2) (h2 : r.2 ≤ 2000) {d : Int} (hd1 : r.1 ≤ d) (hd2 : d ≤ r.2) {word : Int} (hw : 0 ≤ word) {k n e : Int} (hB : bestE s r = ((k, n), e)) {i : Int} (hi0 : 0 ≤ i) (hi1 : i ≤ s.weights.length) :
    e = 0 ∧ (0 ≤ k ∧ k ≤ s.weights.length) ∧ (1 ≤ n ∧ n ≤ r.2 - r.1 + 1) ∧
    (∀ m1 m2 f : Int, meanE s k (seenF s k d word) = ((m1, m2), f) → f = 0 ∧ (m1 ≤ d ∧ d ≤ m2) ∧ fitF (m1, m2) r ≤ n ∧ (1 ≤ m1 ∧ m1 ≤ 6000001) ∧ (0 ≤ m2 ∧ m2 ≤ 2000)) ∧
    n ≤ mostN s r i (s.divisions + 3).toNat ∧ (i = k → mostN s r i (s.divisions + 3).toNat = n) ∧ (i < k → n < mostN s r i (s.divisions + 3).toNat) := by
  have hc : chkF s = 0 := chkF_valid.2 hs
  have hrg : rangedF s r = 0 := by
    unfold rangedF emptyF
    rw [if_neg (by omega), if_neg (by simp only [decide_eq_true_eq]; omega)]
  obtain ⟨kn, g1, g2, g3, g4⟩ := best_spec (s := s) (r := r) (D := (s.divisions + 3).toNat) rfl (s.weights.length + 1)
  unfold bestE at hB
  rw [if_neg (by omega), g2] at hB
  cases hB
  have hv1 := hs.d1
  have hD : ((s.divisions + 3).toNat : Int) = s.divisions + 3 := by omega
  have hfit : ∀ seen : Int, -2 ≤ seen → seen ≤ s.divisions → fitF (meanF s kn seen) r ≤ leftF s r kn (s.divisions + 3).toNat := fun seen q1 q2 => by
    obtain ⟨q3, q4⟩ := left_ge (s := s) (r := r) (k := kn) (s.divisions + 3).toNat
    have := q4 (seen + 2).toNat (by omega)
    rw [show (((seen + 2).toNat : Nat) : Int) - 2 = seen by omega] at this
    unfold meetF at this
    unfold fitF
    dsimp only at this
    omega
  have hsee : ∀ d' word' : Int, r.1 ≤ d' → d' ≤ r.2 → 0 ≤ word' → (-2 ≤ seenF s kn d' word' ∧ seenF s kn d' word' ≤ s.divisions) ∧ (meanF s kn (seenF s kn d' word')).1 ≤ d' ∧ d' ≤ (meanF s kn (seenF s kn d' word')).2 := fun d' word' q1 q2 q3 => by
    obtain ⟨p1, p2⟩ := seen_ok hs (k := kn) (d := d') (word := word') (by omega) (by omega) (by omega) q3
    have p3 := rdOk_q p1
    exact ⟨p3.2, (mean_mem hs (by omega) (by omega) p3.2.1 p3.2.2 (by omega) (by omega)).2 p2⟩
  have hme := most_eq hs (r := r) hi0 hi1 (s.divisions + 3).toNat (by omega)
  refine ⟨rfl, ⟨by omega, by omega⟩, ⟨?_, left_le h12 _⟩, fun m1 m2 f hM => ?_, ?_, ?_, ?_⟩
  · obtain ⟨p1, p2⟩ := hsee r.1 0 (by omega) h12 (by omega)
    have := hfit _ p1.1 p1.2
    unfold fitF at this
    omega
  · obtain ⟨p1, p2⟩ := hsee d word hd1 hd2 hw
    have hbd := mean_bd hs (k := kn) (seen := seenF s kn d word) (by omega) (by omega) p1.1 p1.2
    rcases meanE_cases hs (k := kn) (seen := seenF s kn d word) (by omega) (by omega) p1.1 p1.2 with ⟨_, q⟩ | ⟨q, _⟩
    · omega
    · rw [q] at hM
      have e1 := congrArg Prod.fst hM
      have e2 := congrArg Prod.snd hM
      dsimp only at e1 e2
      have := hfit _ p1.1 p1.2
      rw [e1] at this hbd p2
      exact ⟨e2.symm, p2, this, hbd⟩
  · rw [hme]
    have := g3 i.toNat (by omega)
    rw [show ((i.toNat : Nat) : Int) = i by omega] at this
    exact this
  · rintro rfl
    exact hme
  · intro hik
    rw [hme]
    have := g4 i.toNat (by omega)
    rw [show ((i.toNat : Nat) : Int) = i by omega] at this
    exact this
end Go.Sp
