/-
  Denser liquids.
-/
import Derived.Test.YtdmnmhkonfadhaaBka
set_option linter.unusedVariables false
set_option linter.unusedSimpArgs false
set_option linter.deprecated false
namespace Go.Sp
open Go Go.Proofs
theorem mul_lt_cancel {d a b : Int} (hd : 0 < d) (h : d * a < d * b) : a < b := by
  rcases Int.lt_or_le a b with h1 | h1
  · exact h1
  · have := Int.mul_le_mul_of_nonneg_left h1 (Int.le_of_lt hd); omega
/-- Both ends of what is seen do not increase. -/
theorem see_mono {s : Sn} (hs : VS s) {i k d e : Int} (hd : 1 ≤ d) (he : 1 ≤ e)
    (hA : ∀ n : Int, 0 ≤ n → 1000 * massF s i ≤ d * (s.volume + n * s.step + s.width) → 1000 * massF s k ≤ e * (s.volume + n * s.step + s.width))
    (hB : ∀ n : Int, 0 ≤ n → e * (s.volume + n * s.step - s.width) ≤ 1000 * massF s k → d * (s.volume + n * s.step - s.width) ≤ 1000 * massF s i)
    {a1 a2 b1 b2 : Int} (hf : rFlo s i d = 0) (hg : rFlo s k e = 0) (h1 : 0 ≤ a1 ∧ a1 ≤ a2 ∧ a2 ≤ s.divisions) (h2 : 0 ≤ b1 ∧ b1 ≤ b2 ∧ b2 ≤ s.divisions)
    (ha : ∀ n : Int, 0 ≤ n → n ≤ s.divisions → (rFit s (i, n) d = true ↔ a1 ≤ n ∧ n ≤ a2)) (hb : ∀ n : Int, 0 ≤ n → n ≤ s.divisions → (rFit s (k, n) e = true ↔ b1 ≤ n ∧ n ≤ b2)) : b1 ≤ a1 ∧ b2 ≤ a2 := by
  have hs1 := hs.s1
  have fa1 := (fit_div h1.1).1 ((ha a1 h1.1 (by omega)).2 ⟨Int.le_refl _, h1.2.1⟩)
  have fa2 := (fit_div (show 0 ≤ a2 by omega)).1 ((ha a2 (by omega) h1.2.2).2 ⟨h1.2.1, Int.le_refl _⟩)
  have fb1 := (fit_div h2.1).1 ((hb b1 h2.1 (by omega)).2 ⟨Int.le_refl _, h2.2.1⟩)
  have fb2 := (fit_div (show 0 ≤ b2 by omega)).1 ((hb b2 (by omega) h2.2.2).2 ⟨h2.2.1, Int.le_refl _⟩)
  have mono : ∀ x y : Int, x * s.step < y * s.step → x < y := fun x y h => by
    rcases Int.lt_or_le x y with g | g
    · exact g
    · have := Int.mul_le_mul_of_nonneg_right g (show 0 ≤ s.step by omega); omega
  constructor
  · have g1 := hA a1 h1.1 fa1.2.2
    by_cases g2 : e * (s.volume + a1 * s.step - s.width) ≤ 1000 * massF s k
    · exact ((hb a1 h1.1 (by omega)).1 ((fit_div h1.1).2 ⟨hg, g2, g1⟩)).1
    · have := mul_lt_cancel (show 0 < e by omega) (show e * (s.volume + b1 * s.step - s.width) < e * (s.volume + a1 * s.step - s.width) by omega)
      have := mono b1 a1 (by omega)
      omega
  · have g1 := hB b2 (by omega) fb2.2.1
    by_cases g2 : 1000 * massF s i ≤ d * (s.volume + b2 * s.step + s.width)
    · exact ((ha b2 (by omega) h2.2.2).1 ((fit_div (by omega)).2 ⟨hf, g1, g2⟩)).2
    · have := mul_lt_cancel (show 0 < d by omega) (show d * (s.volume + b2 * s.step + s.width) < d * (s.volume + a2 * s.step + s.width) by omega)
      have := mono b2 a2 (by omega)
      omega
theorem flo_rise {s : Sn} {k d : Int} : rFlo s k d = -2 ↔ 1000 * massF s k < d * s.volume := by
  unfold rFlo
  by_cases h : 1000 * massF s k < d * s.volume
  · rw [if_pos h]; exact ⟨fun _ => h, fun _ => rfl⟩
  · rw [if_neg h]
    split
    · exact ⟨fun e => absurd e (by decide), fun e => absurd e h⟩
    · exact ⟨fun e => absurd e (by decide), fun e => absurd e h⟩
theorem flo_sink {s : Sn} (hs : VS s) {k d : Int} (hd : 0 ≤ d) : rFlo s k d = -1 ↔ d * (s.volume + s.divisions * s.step) < 1000 * massF s k := by
  have hds := ds_bd hs
  have m3 : d * s.volume ≤ d * (s.volume + s.divisions * s.step) := Int.mul_le_mul_of_nonneg_left (by omega) hd
  unfold rFlo
  by_cases h : 1000 * massF s k < d * s.volume
  · rw [if_pos h]; exact ⟨fun e => absurd e (by decide), fun e => by omega⟩
  · rw [if_neg h]
    by_cases h2 : d * (s.volume + s.divisions * s.step) < 1000 * massF s k
    · rw [if_pos h2]; exact ⟨fun _ => h2, fun _ => rfl⟩
    · rw [if_neg h2]; exact ⟨fun e => absurd e (by decide), fun e => absurd e h2⟩
set_option maxHeartbeats 4000000 in
/-- What the law asks of three sights. -/
theorem denser_spec {s : Sn} (hs : VS s) {i k d u : Int} (hi : 0 ≤ i ∧ i ≤ s.weights.length) (hk : 0 ≤ k ∧ k ≤ s.weights.length) (hm : massF s i ≤ massF s k) (hd1 : 1 ≤ d) (hdu : d ≤ u) (hu : u ≤ 2000) {a1 a2 b1 b2 c1 c2 e f g : Int}
    (ha : seeF s i d = ((a1, a2), e)) (hb : seeF s i u = ((b1, b2), f)) (hc : seeF s k d = ((c1, c2), g)) :
    (rFlo s i d = 0 ∧ rFlo s i u = 0 ∧ rFlo s k d = 0 ∧ e = 0 ∧ f = 0 ∧ g = 0 ∧ b1 ≤ a1 ∧ b2 ≤ a2 ∧ a1 ≤ c1 ∧ a2 ≤ c2) ∨ (rFlo s i d = 0 ∧ rFlo s i u = 0 ∧ rFlo s k d = -1 ∧ e = 0 ∧ f = 0 ∧ g = 10 ∧ b1 ≤ a1 ∧ b2 ≤ a2) ∨
    (rFlo s i d = 0 ∧ rFlo s i u = -2 ∧ rFlo s k d = 0 ∧ e = 0 ∧ f = 10 ∧ g = 0 ∧ a1 ≤ c1 ∧ a2 ≤ c2) ∨ (rFlo s i d = 0 ∧ rFlo s i u = -2 ∧ rFlo s k d = -1 ∧ e = 0 ∧ f = 10 ∧ g = 10) ∨
    (rFlo s i d = -1 ∧ rFlo s i u = 0 ∧ rFlo s k d = -1 ∧ e = 10 ∧ f = 0 ∧ g = 10) ∨ (rFlo s i d = -1 ∧ rFlo s i u = -1 ∧ rFlo s k d = -1 ∧ e = 10 ∧ f = 10 ∧ g = 10) ∨ (rFlo s i d = -1 ∧ rFlo s i u = -2 ∧ rFlo s k d = -1 ∧ e = 10 ∧ f = 10 ∧ g = 10) ∨
    (rFlo s i d = -2 ∧ rFlo s i u = -2 ∧ rFlo s k d = 0 ∧ e = 10 ∧ f = 10 ∧ g = 0) ∨ (rFlo s i d = -2 ∧ rFlo s i u = -2 ∧ rFlo s k d = -1 ∧ e = 10 ∧ f = 10 ∧ g = 10) ∨ (rFlo s i d = -2 ∧ rFlo s i u = -2 ∧ rFlo s k d = -2 ∧ e = 10 ∧ f = 10 ∧ g = 10) := by
  have hv1 := hs.v1
  have hs1 := hs.s1
  have hds := ds_bd hs
  have hw1 := hs.w1
  have hmi := massF_bd hs hi.1 hi.2
  have m1 : d * s.volume ≤ u * s.volume := Int.mul_le_mul_of_nonneg_right hdu (by omega)
  have m2 : d * (s.volume + s.divisions * s.step) ≤ u * (s.volume + s.divisions * s.step) := Int.mul_le_mul_of_nonneg_right hdu (by omega)
  have q1 : rFlo s i d = -2 → rFlo s i u = -2 := by rw [flo_rise, flo_rise]; intro h; omega
  have q2 : rFlo s i u = -1 → rFlo s i d = -1 := by rw [flo_sink hs (show 0 ≤ u by omega), flo_sink hs (show 0 ≤ d by omega)]; intro h; omega
  have q3 : rFlo s i d = -1 → rFlo s k d = -1 := by rw [flo_sink hs (show 0 ≤ d by omega), flo_sink hs (show 0 ≤ d by omega)]; intro h; omega
  have q4 : rFlo s k d = -2 → rFlo s i d = -2 := by rw [flo_rise, flo_rise]; intro h; omega
  have sa := see_spec hs hi.1 hi.2 hd1 (by omega) ha
  have sb := see_spec hs hi.1 hi.2 (show 1 ≤ u by omega) hu hb
  have sc := see_spec hs hk.1 hk.2 hd1 (by omega) hc
  have p1 : rFlo s i d = 0 → rFlo s i u = 0 → b1 ≤ a1 ∧ b2 ≤ a2 := fun q1 q2 => by
    rcases sa with ⟨_, _, x1, x2, x3, _, x4⟩ | ⟨q, _⟩
    · rcases sb with ⟨_, _, y1, y2, y3, _, y4⟩ | ⟨q, _⟩
      · refine see_mono hs hd1 (show 1 ≤ u by omega) (fun n hn h => ?_) (fun n hn h => ?_) q1 q2 ⟨x1, x2, x3⟩ ⟨y1, y2, y3⟩ x4 y4
        · have hns : 0 ≤ n * s.step := Int.mul_nonneg hn (by omega)
          have := Int.mul_le_mul_of_nonneg_right hdu (show 0 ≤ s.volume + n * s.step + s.width by omega)
          omega
        · by_cases hp : 0 ≤ s.volume + n * s.step - s.width
          · have := Int.mul_le_mul_of_nonneg_right hdu hp; omega
          · have := Int.mul_nonpos_of_nonneg_of_nonpos (show 0 ≤ d by omega) (show s.volume + n * s.step - s.width ≤ 0 by omega); omega
      · exact absurd q2 q
    · exact absurd q1 q
  have p2 : rFlo s i d = 0 → rFlo s k d = 0 → a1 ≤ c1 ∧ a2 ≤ c2 := fun q1 q2 => by
    rcases sa with ⟨_, _, x1, x2, x3, _, x4⟩ | ⟨q, _⟩
    · rcases sc with ⟨_, _, y1, y2, y3, _, y4⟩ | ⟨q, _⟩
      · exact see_mono hs hd1 hd1 (fun n _ h => by omega) (fun n _ h => by omega) q2 q1 ⟨y1, y2, y3⟩ ⟨x1, x2, x3⟩ y4 x4
      · exact absurd q2 q
    · exact absurd q1 q
  have ea : (rFlo s i d = 0 ∧ e = 0) ∨ (¬ rFlo s i d = 0 ∧ e = 10) := by rcases sa with ⟨q1, q2, _⟩ | ⟨q1, q2, _⟩; exact .inl ⟨q1, q2⟩; exact .inr ⟨q1, q2⟩
  have eb : (rFlo s i u = 0 ∧ f = 0) ∨ (¬ rFlo s i u = 0 ∧ f = 10) := by rcases sb with ⟨q1, q2, _⟩ | ⟨q1, q2, _⟩; exact .inl ⟨q1, q2⟩; exact .inr ⟨q1, q2⟩
  have ec : (rFlo s k d = 0 ∧ g = 0) ∨ (¬ rFlo s k d = 0 ∧ g = 10) := by rcases sc with ⟨q1, q2, _⟩ | ⟨q1, q2, _⟩; exact .inl ⟨q1, q2⟩; exact .inr ⟨q1, q2⟩
  have v1 := flo_cases s i d
  have v2 := flo_cases s i u
  have v3 := flo_cases s k d
  clear m1 m2 sa sb sc ha hb hc
  generalize rFlo s i d = x at *
  generalize rFlo s i u = y at *
  generalize rFlo s k d = z at *
  rcases v1 with rfl | rfl | rfl <;> rcases v2 with rfl | rfl | rfl <;> rcases v3 with rfl | rfl | rfl <;> first
    | (exfalso; have := q1 rfl; omega)
    | (exfalso; have := q2 rfl; omega)
    | (exfalso; have := q3 rfl; omega)
    | (exfalso; have := q4 rfl; omega)
    | (have g1 := p1 rfl rfl; have g2 := p2 rfl rfl; simp at ea eb ec; simp [ea, eb, ec, g1, g2])
    | (have g1 := p1 rfl rfl; simp at ea eb ec; simp [ea, eb, ec, g1])
    | (have g2 := p2 rfl rfl; simp at ea eb ec; simp [ea, eb, ec, g2])
    | (simp at ea eb ec; simp [ea, eb, ec])
end Go.Sp
