/-
  Verdicts and covers: what the program returns is what the reference says.
-/
import Derived.Test.YtdmnmhkonfadhaaYa
import Derived.Test.YtdmnmhkonfadhaaU
set_option linter.unusedVariables false
set_option linter.unusedSimpArgs false
set_option linter.deprecated false
namespace Go.Sp
open Go Go.Proofs
theorem flAny_iff {s : Sn} {k : Int} {r : Int × Int} : flAny s k r (cntR r) = true ↔ ∃ d : Int, r.1 ≤ d ∧ d ≤ r.2 ∧ rFlo s k d = 0 := by
  unfold flAny flB cntR
  rw [List.any_eq_true]
  constructor
  · rintro ⟨j, hj, h⟩
    have hj := List.mem_range.1 hj
    exact ⟨r.1 + (j : Int), by omega, by omega, of_decide_eq_true h⟩
  · rintro ⟨d, h1, h2, h⟩
    refine ⟨(d - r.1).toNat, List.mem_range.2 (by omega), ?_⟩
    rw [show r.1 + ((d - r.1).toNat : Int) = d by omega]
    exact decide_eq_true h
theorem ntAny_iff {s : Sn} {k : Int} {r : Int × Int} : ntAny s k r (cntR r) = true ↔ ∃ d : Int, r.1 ≤ d ∧ d ≤ r.2 ∧ ¬ rFlo s k d = 0 := by
  unfold ntAny flB cntR
  rw [List.any_eq_true]
  constructor
  · rintro ⟨j, hj, h⟩
    have hj := List.mem_range.1 hj
    refine ⟨r.1 + (j : Int), by omega, by omega, fun e => ?_⟩
    rw [decide_eq_true e] at h; cases h
  · rintro ⟨d, h1, h2, h⟩
    refine ⟨(d - r.1).toNat, List.mem_range.2 (by omega), ?_⟩
    rw [show r.1 + ((d - r.1).toNat : Int) = d by omega, decide_eq_false h]; rfl
/-- A verdict, by the densities. -/
theorem rv_1 {s : Sn} {r : Int × Int} {k : Int} : rVerdict s r k = 1 ↔ ∀ d : Int, r.1 ≤ d → d ≤ r.2 → rFlo s k d = 0 := by
  unfold rVerdict
  have h := ntAny_iff (s := s) (k := k) (r := r)
  cases hn : ntAny s k r (cntR r)
  · rw [if_pos rfl]
    rw [hn] at h
    refine ⟨fun _ d h1 h2 => ?_, fun _ => rfl⟩
    by_cases e : rFlo s k d = 0
    · exact e
    · exact absurd (h.2 ⟨d, h1, h2, e⟩) (by simp)
  · obtain ⟨d, h1, h2, h3⟩ := h.1 hn
    rw [if_neg (by simp)]
    constructor
    · intro hh; split at hh <;> omega
    · intro hh; exact absurd (hh d h1 h2) h3
theorem rv_2 {s : Sn} {r : Int × Int} (hr : r.1 ≤ r.2) {k : Int} : rVerdict s r k = 2 ↔ ∀ d : Int, r.1 ≤ d → d ≤ r.2 → ¬ rFlo s k d = 0 := by
  have h1' := rv_1 (s := s) (k := k) (r := r)
  have h := flAny_iff (s := s) (k := k) (r := r)
  constructor
  · intro hv d h1 h2 e
    have := h.2 ⟨d, h1, h2, e⟩
    unfold rVerdict at hv
    rw [this] at hv
    simp only [Bool.true_eq_false, if_false] at hv
    split at hv <;> omega
  · intro hh
    have hf : flAny s k r (cntR r) = false := by
      cases hf : flAny s k r (cntR r)
      · rfl
      · obtain ⟨d, g1, g2, g3⟩ := h.1 hf; exact absurd g3 (hh d g1 g2)
    have hn : ¬ rVerdict s r k = 1 := fun e => hh r.1 (by omega) hr (h1'.1 e r.1 (by omega) hr)
    unfold rVerdict at hn ⊢
    rw [hf] at hn ⊢
    split
    · rw [if_pos ‹_›] at hn; exact absurd rfl hn
    · rfl
theorem rv_cases {s : Sn} {r : Int × Int} {k : Int} : rVerdict s r k = 1 ∨ rVerdict s r k = 2 ∨ rVerdict s r k = 3 := by
  unfold rVerdict; split
  · exact .inl rfl
  · split
    · exact .inr (.inl rfl)
    · exact .inr (.inr rfl)
theorem vd_eq {s : Sn} (hs : VS s) {r : Int × Int} (h1 : 1 ≤ r.1) (h12 : r.1 ≤ r.2) (h2 : r.2 ≤ 2000) (k : Nat) : vdF s r k = rVerdict s r k := by
  have hm : ∀ d : Int, r.1 ≤ d → d ≤ r.2 → (((floF s k).1 ≤ d ∧ d ≤ (floF s k).2) ↔ rFlo s k d = 0) := fun d g1 g2 => fl_mem hs (by omega) (by omega)
  have e1 := rv_1 (s := s) (r := r) (k := k)
  have e2 := rv_2 (s := s) (r := r) h12 (k := k)
  by_cases c1 : max (floF s k).1 r.1 = r.1 ∧ min (floF s k).2 r.2 = r.2
  · rw [vdF_1 c1]
    exact (e1.2 fun d g1 g2 => (hm d g1 g2).1 (by omega)).symm
  · by_cases c2 : min (floF s k).2 r.2 < max (floF s k).1 r.1
    · rw [vdF_2 c1 c2]
      exact (e2.2 fun d g1 g2 e => by have := (hm d g1 g2).2 e; omega).symm
    · rw [vdF_3 c1 (by omega)]
      have n1 : ¬ rVerdict s r k = 1 := fun e => by
        have := (hm r.1 (by omega) h12).2 (e1.1 e r.1 (by omega) h12)
        have := (hm r.2 h12 (by omega)).2 (e1.1 e r.2 h12 (by omega))
        omega
      have n2 : ¬ rVerdict s r k = 2 := fun e => e2.1 e (max (floF s k).1 r.1) (by omega) (by omega) ((hm _ (by omega) (by omega)).1 (by omega))
      rcases rv_cases (s := s) (r := r) (k := k) with h | h | h
      · exact absurd h n1
      · exact absurd h n2
      · exact h.symm
/-! the reference's cover -/
theorem rCoverN_spec (s : Sn) (r : Int × Int) : ∀ n : Nat, (((rCoverN s r n) = ([], false) ∧ ∀ m : Nat, m < n → rCovers s r (bitsL m) = false) ∨ ((rCoverN s r n).2 = true ∧ (∃ m : Nat, m < n ∧ (rCoverN s r n).1 = bitsL m) ∧ rCovers s r (rCoverN s r n).1 = true ∧ ∀ m : Nat, m < n → rCovers s r (bitsL m) = true → lessF (bitsL m) (rCoverN s r n).1 = false)) := by
  intro n
  induction n with
  | zero => exact .inl ⟨rfl, fun m h => absurd h (Nat.not_lt_zero m)⟩
  | succ n ih =>
    rw [rCoverN_succ]
    unfold rCoverStep
    by_cases hc : ((rCoverN s r n).2 = false ∨ lessF (bitsL n) (rCoverN s r n).1 = true) ∧ rCovers s r (bitsL n) = true
    · rw [if_pos hc]
      refine .inr ⟨rfl, ⟨n, by omega, rfl⟩, hc.2, fun m hm hp => ?_⟩
      rcases Nat.lt_succ_iff_lt_or_eq.1 hm with h | rfl
      · rcases ih with ⟨_, g⟩ | ⟨g0, _, _, g⟩
        · rw [g m h] at hp; cases hp
        · cases hh : lessF (bitsL m) (bitsL n)
          · rfl
          · rcases hc.1 with e | e
            · rw [g0] at e; cases e
            · have := g m h hp
              rw [less_trans hh e] at this; cases this
      · exact less_irr _
    · rw [if_neg hc]
      rcases ih with ⟨g0, g⟩ | ⟨g0, ⟨m0, g1, g2⟩, g3, g⟩
      · refine .inl ⟨g0, fun m hm => ?_⟩
        rcases Nat.lt_succ_iff_lt_or_eq.1 hm with h | rfl
        · exact g m h
        · cases hh : rCovers s r (bitsL m)
          · rfl
          · exact absurd ⟨.inl (by rw [g0]), hh⟩ hc
      · refine .inr ⟨g0, ⟨m0, by omega, g2⟩, g3, fun m hm hp => ?_⟩
        rcases Nat.lt_succ_iff_lt_or_eq.1 hm with h | rfl
        · exact g m h hp
        · cases hh : lessF (bitsL m) (rCoverN s r m).1
          · rfl
          · exact absurd ⟨.inr hh, hp⟩ hc
/-- What Cover finds. -/
theorem coverO_some {s : Sn} {r : Int × Int} {l : List Int} (h : coverO s r = some l) : Least (coversF s r) ((s.weights.length + 1 : Nat) : Int) l := search_some (N := s.weights.length + 1) (M := s.weights.length + 2) (by omega) h
theorem coverO_none {s : Sn} {r : Int × Int} (h : coverO s r = none) {t : List Int} (ht : Inc 0 ((s.weights.length + 1 : Nat) : Int) t) : coversF s r t = false := search_none (N := s.weights.length + 1) (M := s.weights.length + 2) (by omega) h ht
theorem cover_eq {s : Sn} (hs : VS s) {r : Int × Int} (h1 : 1 ≤ r.1) (h2 : r.2 ≤ 2000) : (coverO s r = none ∧ rCover s r = ([], false)) ∨ ∃ l, coverO s r = some l ∧ rCover s r = (l, true) := by
  have hn := hs.n
  have hsp := rCoverN_spec s r (2 ^ (s.weights.length + 1))
  rcases ho : coverO s r with _ | l
  · refine .inl ⟨rfl, ?_⟩
    rcases hsp with ⟨g, _⟩ | ⟨_, ⟨m, g1, g2⟩, g3, _⟩
    · exact g
    · rw [← covers_eq hs h1 h2, g2, coverO_none ho (bitsL_inc g1)] at g3; cases g3
  · refine .inr ⟨l, rfl, ?_⟩
    have hl := coverO_some ho
    rcases hsp with ⟨_, g⟩ | ⟨g0, ⟨m, g1, g2⟩, g3, g⟩
    · obtain ⟨m, k1, k2⟩ := bits_of_inc (by omega) hl.inc
      have := g m k1
      rw [k2, ← covers_eq hs h1 h2, hl.ok] at this; cases this
    · have e := (fold_least (p := coversF s r) (N := s.weights.length + 1) (by omega) ⟨m, g1, g2⟩ (by rw [covers_eq hs h1 h2]; exact g3) (fun k hk hp => g k hk (by rw [← covers_eq hs h1 h2]; exact hp))).uniq hl
      unfold rCover
      exact Prod.ext e g0
theorem cover_e1 {s : Sn} {r : Int × Int} (h : rangedF s r = 0) (ho : coverO s r = none) : coverE s r = ([], 10) := by
  unfold coverE; rw [if_neg (by omega), ho]
theorem cover_e0 {s : Sn} {r : Int × Int} (h : rangedF s r = 0) {l : List Int} (ho : coverO s r = some l) : coverE s r = (l, 0) := by
  unfold coverE; rw [if_neg (by omega), ho]
theorem prove_eq {s : Sn} (hs : VS s) {r : Int × Int} (h : rangedF s r = 0) (l : List Int) (many : Int) : proveF s r l many = (isLoadsF s l && (decide ((l.length : Int) ≤ many) && rCovers s r l)) := by
  obtain ⟨_, h12, h1, h2⟩ := rangedF_0 h
  unfold proveF isLoadsF
  rw [covers_eq hs h1.1 h2.2, Bool.eq_iff_iff]
  simp only [decide_eq_true_eq, Bool.and_eq_true]
  constructor
  · rintro ⟨_, a, b, c, d⟩; exact ⟨⟨b, c⟩, a, d⟩
  · rintro ⟨⟨b, c⟩, a, d⟩; exact ⟨h, a, b, c, d⟩
theorem allIn_iff {s : Sn} {l : List Int} : allIn s l = true ↔ ∀ k ∈ l, 0 ≤ k ∧ k ≤ s.weights.length := by
  unfold allIn
  rw [List.all_eq_true]
  exact ⟨fun h k hk => of_decide_eq_true (h k hk), fun h k hk => decide_eq_true (h k hk)⟩
end Go.Sp
