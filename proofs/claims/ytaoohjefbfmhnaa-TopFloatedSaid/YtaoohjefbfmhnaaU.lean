/-
  The plain laws: what loads cover, what is seen.
-/
import Derived.Test.YtaoohjefbfmhnaaT
set_option linter.unusedVariables false
set_option linter.unusedSimpArgs false
set_option linter.deprecated false
namespace Go.Sp
open Go Go.Proofs
theorem getD_set {l : List Bool} {i j : Nat} (hj : j < l.length) : (l.set i true).getD j false = (l.getD j false || decide (i = j)) := by
  rw [List.getD_eq_getElem?_getD, List.getD_eq_getElem?_getD, List.getElem?_set]
  by_cases h : i = j
  · subst h; simp [hj]
  · simp [h]
theorem withN_get {c : List Bool} {r : Int × Int} (h0 : 0 ≤ r.1) {j : Nat} (hj : j < c.length) : ∀ n : Nat, (withN c r n).getD j false = (c.getD j false || decide (r.1 ≤ j ∧ (j : Int) < r.1 + n)) := by
  intro n
  induction n with
  | zero =>
    rw [show decide (r.1 ≤ (j : Int) ∧ (j : Int) < r.1 + ((0 : Nat) : Int)) = false from decide_eq_false (by omega), Bool.or_false]; rfl
  | succ n ih =>
    rw [withN_succ, getD_set (by rw [withN_len]; exact hj), ih, Bool.or_assoc]
    congr 1
    rw [← Bool.decide_or]
    exact decide_eq_decide.2 (by omega)
theorem withF_get {c : List Bool} {r : Int × Int} (h0 : 0 ≤ r.1) {j : Nat} (hj : j < c.length) : (withF c r).getD j false = (c.getD j false || decide (r.1 ≤ j ∧ (j : Int) ≤ r.2)) := by
  unfold withF
  rw [withN_get h0 hj]
  congr 1
  exact decide_eq_decide.2 (by omega)
theorem bool_ext {a b : List Bool} (h : a.length = b.length) : a = b ↔ ∀ i, i < a.length → a.getD i false = b.getD i false := by
  constructor
  · rintro rfl i _; rfl
  · intro hi
    apply List.ext_getElem h
    intro i h1 h2
    have := hi i h1
    rw [List.getD_eq_getElem?_getD, List.getD_eq_getElem?_getD, List.getElem?_eq_getElem h1, List.getElem?_eq_getElem h2] at this
    exact this
theorem cov_get (s : Sn) {j : Nat} : ∀ (l : List Int) (c : List Bool), j < c.length → (l.foldl (covStep s) c).getD j false = (c.getD j false || l.any fun k => decide ((floF s k).1 ≤ j ∧ (j : Int) ≤ (floF s k).2))
  | [], c, _ => by simp
  | k :: l, c, h => by
    rw [List.foldl_cons, cov_get s l (covStep s c k) (by unfold covStep; rw [withF_len]; exact h)]
    unfold covStep
    rw [withF_get (by unfold floF; dsimp only; omega) h, List.any_cons, Bool.or_assoc]
theorem coversF_iff {s : Sn} (hs : VS s) {r : Int × Int} (h1 : 1 ≤ r.1) (h2 : r.2 ≤ 2000) {l : List Int} : coversF s r l = true ↔ ∀ d : Int, r.1 ≤ d → d ≤ r.2 → ∃ k ∈ l, rFlo s k d = 0 := by
  have hcov : ∀ j : Nat, j < 2001 → (covL s l l.length).getD j false = l.any fun k => decide ((floF s k).1 ≤ j ∧ (j : Int) ≤ (floF s k).2) := fun j hj => by
    unfold covL
    rw [List.take_length, cov_get s l _ (by rw [List.length_replicate]; exact hj)]
    rw [List.getD_eq_getElem?_getD, List.getElem?_replicate]
    simp [hj]
  unfold coversF
  rw [decide_eq_true_eq, bool_ext (by rw [withF_len])]
  constructor
  · intro h d hd1 hd2
    have := h d.toNat (by rw [covL_len]; omega)
    rw [withF_get (by omega) (by rw [covL_len]; omega), decide_eq_true (show r.1 ≤ (d.toNat : Int) ∧ (d.toNat : Int) ≤ r.2 by omega), Bool.or_true, hcov d.toNat (by omega)] at this
    obtain ⟨k, hk, hd⟩ := List.any_eq_true.1 this
    have hd := of_decide_eq_true hd
    rw [show (d.toNat : Int) = d by omega] at hd
    exact ⟨k, hk, (fl_mem hs (by omega) (by omega)).1 hd⟩
  · intro h j hj
    rw [covL_len] at hj
    rw [withF_get (by omega) (by rw [covL_len]; exact hj)]
    by_cases hd : r.1 ≤ (j : Int) ∧ (j : Int) ≤ r.2
    · obtain ⟨k, hk, hf⟩ := h j hd.1 hd.2
      have hc : (covL s l l.length).getD j false = true := by
        rw [hcov j hj]
        exact List.any_eq_true.2 ⟨k, hk, decide_eq_true ((fl_mem hs (by omega) (by omega)).2 hf)⟩
      rw [hc, Bool.true_or]
    · rw [decide_eq_false hd, Bool.or_false]
theorem covAny_iff {s : Sn} {l : List Int} {d : Int} : covAny s l d l.length = true ↔ ∃ k ∈ l, rFlo s k d = 0 := by
  unfold covAny flB
  rw [List.any_eq_true]
  constructor
  · rintro ⟨i, hi, h⟩
    have hi := List.mem_range.1 hi
    rw [List.getD_eq_getElem?_getD, List.getElem?_eq_getElem hi] at h
    exact ⟨l[i], List.getElem_mem hi, of_decide_eq_true h⟩
  · rintro ⟨k, hk, h⟩
    obtain ⟨i, hi, rfl⟩ := List.getElem_of_mem hk
    refine ⟨i, List.mem_range.2 hi, ?_⟩
    rw [List.getD_eq_getElem?_getD, List.getElem?_eq_getElem hi]
    exact decide_eq_true h
theorem rCovers_iff {s : Sn} {r : Int × Int} {l : List Int} : rCovers s r l = true ↔ ∀ d : Int, r.1 ≤ d → d ≤ r.2 → ∃ k ∈ l, rFlo s k d = 0 := by
  unfold rCovers rCovN cntR
  rw [List.all_eq_true]
  constructor
  · intro h d h1 h2
    have := h (d - r.1).toNat (List.mem_range.2 (by omega))
    rw [show r.1 + ((d - r.1).toNat : Int) = d by omega] at this
    exact covAny_iff.1 this
  · intro h j hj
    have hj := List.mem_range.1 hj
    exact covAny_iff.2 (h _ (by omega) (by omega))
theorem covers_eq {s : Sn} (hs : VS s) {r : Int × Int} (h1 : 1 ≤ r.1) (h2 : r.2 ≤ 2000) (l : List Int) : coversF s r l = rCovers s r l := by
  rw [Bool.eq_iff_iff, coversF_iff hs h1 h2, rCovers_iff]
theorem at_eq {s : Sn} (hs : VS s) {k d : Int} (h1 : 1 ≤ d) (h2 : d ≤ 2000) : atF s k d = rFlo s k d := by
  have hm := fl_mem hs (k := k) h1 h2
  have e : d * (s.volume + s.divisions * s.step) = d * s.volume + d * (s.divisions * s.step) := Int.mul_add ..
  have hds := ds_bd hs
  have e2 : 0 ≤ d * (s.divisions * s.step) := Int.mul_nonneg (by omega) (by omega)
  unfold atF
  by_cases h : rFlo s k d = 0
  · rw [if_pos (hm.2 h), h]
  · rw [if_neg (fun hh => h (hm.1 hh))]
    unfold rFlo at h ⊢
    split
    · rfl
    · rw [if_neg ‹_›] at h
      split
      · rfl
      · rw [if_neg ‹_›] at h; exact absurd rfl h
/-- If it floats, some division can be read. -/
theorem some_div {s : Sn} (hs : VS s) {k d : Int} (h1 : 1 ≤ d) (hf : rFlo s k d = 0) : ∃ i : Nat, (i : Int) ≤ s.divisions ∧ rFit s (k, (i : Int)) d = true := by
  have hw1 := hs.w1
  have hw2 := hs.w2
  have hw3 := hs.w3
  have hs1 := hs.s1
  have hd1 := hs.d1
  have hfl : d * s.volume ≤ 1000 * massF s k ∧ 1000 * massF s k ≤ d * (s.volume + s.divisions * s.step) := by
    unfold rFlo at hf
    split at hf
    · cases hf
    · split at hf
      · cases hf
      · omega
  have hsd : 0 < s.step * d := Int.mul_pos (by omega) (by omega)
  have eD : d * (s.volume + s.divisions * s.step) = d * s.volume + s.divisions * (s.step * d) := by
    rw [Int.mul_add, Int.mul_comm d (s.divisions * s.step), Int.mul_assoc]
  have eA : ∀ n : Int, d * (s.volume + n * s.step - s.width) = d * s.volume + n * (s.step * d) - s.width * d := fun n => by
    rw [Int.mul_sub, Int.mul_add, Int.mul_comm d (n * s.step), Int.mul_assoc, Int.mul_comm d s.width]
  have eB : ∀ n : Int, d * (s.volume + n * s.step + s.width) = d * s.volume + n * (s.step * d) + s.width * d := fun n => by
    rw [Int.mul_add, Int.mul_add, Int.mul_comm d (n * s.step), Int.mul_assoc, Int.mul_comm d s.width]
  have hW : s.step * d ≤ 2 * (s.width * d) := by
    have := Int.mul_le_mul_of_nonneg_right hw3 (show 0 ≤ d by omega)
    rw [Int.mul_assoc] at this
    exact this
  have hWp : 0 < s.width * d := Int.mul_pos (by omega) (by omega)
  obtain ⟨q, hq⟩ : ∃ q, q = 1000 * massF s k - d * s.volume := ⟨_, rfl⟩
  have hq0 : 0 ≤ q := by omega
  have hdm := Int.mul_ediv_add_emod q (s.step * d)
  have hr0 := Int.emod_nonneg q (show s.step * d ≠ 0 by omega)
  have hr1 := Int.emod_lt_of_pos q hsd
  have hi0 : 0 ≤ q / (s.step * d) := Int.ediv_nonneg hq0 (by omega)
  have hiD : q / (s.step * d) ≤ s.divisions := by
    have : q / (s.step * d) ≤ (s.divisions * (s.step * d)) / (s.step * d) := Int.ediv_le_ediv hsd (by omega)
    rwa [Int.mul_ediv_cancel _ (by omega)] at this
  rw [Int.mul_comm] at hdm
  have hfit : ∀ n : Int, 0 ≤ n → n * (s.step * d) - s.width * d ≤ q → q ≤ n * (s.step * d) + s.width * d → rFit s (k, n) d = true := fun n hn g1 g2 => by
    unfold rFit
    rw [if_neg (by dsimp only; omega), decide_eq_true_eq]
    dsimp only
    rw [eA, eB]
    omega
  by_cases hc : q % (s.step * d) ≤ s.width * d
  · refine ⟨(q / (s.step * d)).toNat, by omega, ?_⟩
    rw [show ((q / (s.step * d)).toNat : Int) = q / (s.step * d) by omega]
    exact hfit _ hi0 (by omega) (by omega)
  · have hlt : q / (s.step * d) < s.divisions := by
      rcases Int.lt_or_eq_of_le hiD with h | h
      · exact h
      · rw [h] at hdm; omega
    refine ⟨(q / (s.step * d) + 1).toNat, by omega, ?_⟩
    rw [show ((q / (s.step * d) + 1).toNat : Int) = q / (s.step * d) + 1 by omega]
    have e1 : (q / (s.step * d) + 1) * (s.step * d) = q / (s.step * d) * (s.step * d) + s.step * d := by rw [Int.add_mul, Int.one_mul]
    exact hfit _ (by omega) (by omega) (by omega)
theorem can_ne {s : Sn} (hs : VS s) {k d : Int} (h1 : 1 ≤ d) (hf : rFlo s k d = 0) : 0 < (canL s k d).length := by
  obtain ⟨i, hi, hfit⟩ := some_div hs h1 hf
  have hd1 := hs.d1
  have : (i : Int) ∈ canL s k d := by
    unfold canL canN
    exact List.mem_map.2 ⟨i, List.mem_filter.2 ⟨List.mem_range.2 (by omega), hfit⟩, rfl⟩
  exact List.length_pos_of_mem this
end Go.Sp
