/-
  A spindle on another scale.
-/
import Derived.Test.YtdmnmhkonfadhaaVa
set_option linter.unusedVariables false
set_option linter.unusedSimpArgs false
set_option linter.deprecated false
namespace Go.Sp
open Go Go.Proofs
def scS (s : Sn) (n : Int) : Sn := ⟨s.mass * n, s.volume * n, s.step * n, s.divisions, s.width * n, s.weights.map (· * n)⟩
theorem mul_le_iff {a b n : Int} (hn : 0 < n) : a * n ≤ b * n ↔ a ≤ b := by
  constructor
  · intro h
    rcases Int.lt_or_le b a with h1 | h1
    · have := Int.mul_lt_mul_of_pos_right h1 hn; omega
    · exact h1
  · intro h; exact Int.mul_le_mul_of_nonneg_right h (by omega)
theorem from_scale {m v n : Int} (hv : 0 < v) (hn : 0 < n) : fromF (m * n) (v * n) = fromF m v := by
  have hvn : 0 < v * n := Int.mul_pos hv hn
  have key : ∀ d, fromF (m * n) (v * n) ≤ d ↔ fromF m v ≤ d := fun d => by
    rw [from_le hvn, from_le hv, ← Int.mul_assoc, ← Int.mul_assoc, mul_le_iff hn]
  have h1 := (key (fromF m v)).2 (Int.le_refl _)
  have h2 := (key (fromF (m * n) (v * n))).1 (Int.le_refl _)
  omega
theorem below_scale {m v n : Int} (hv : 0 < v) (hn : 0 < n) : belowF (m * n) (v * n) = belowF m v := by
  have hvn : 0 < v * n := Int.mul_pos hv hn
  have key : ∀ d, d ≤ belowF (m * n) (v * n) ↔ d ≤ belowF m v := fun d => by
    rw [le_below hvn, le_below hv, ← Int.mul_assoc, ← Int.mul_assoc, mul_le_iff hn]
  have h1 := (key (belowF m v)).2 (Int.le_refl _)
  have h2 := (key (belowF (m * n) (v * n))).1 (Int.le_refl _)
  omega
theorem mass_scale (s : Sn) (n : Int) {k : Int} (h0 : 0 ≤ k) (h1 : k ≤ s.weights.length) : massF (scS s n) k = massF s k * n := by
  unfold massF scS
  dsimp only
  by_cases h : k = 0
  · rw [if_pos h, if_pos h]
  · rw [if_neg h, if_neg h]
    rw [List.getD_eq_getElem?_getD, List.getD_eq_getElem?_getD, List.getElem?_map, List.getElem?_eq_getElem (show (k - 1).toNat < s.weights.length by omega)]
    simp only [Option.map_some, Option.getD_some]
    rw [Int.add_mul]
theorem flo_scale {s : Sn} (hs : VS s) {n : Int} (hn : 0 < n) {k : Int} (h0 : 0 ≤ k) (h1 : k ≤ s.weights.length) : floF (scS s n) k = floF s k := by
  have hv1 := hs.v1
  have hds := ds_bd hs
  unfold floF
  rw [mass_scale s n h0 h1]
  have e : (scS s n).volume + (scS s n).divisions * (scS s n).step = (s.volume + s.divisions * s.step) * n := by
    unfold scS; dsimp only; rw [Int.add_mul, Int.mul_assoc]
  rw [e, from_scale (by omega) hn, show (scS s n).volume = s.volume * n from rfl, below_scale (by omega) hn]
theorem mean_scale {s : Sn} (hs : VS s) {n : Int} (hn : 0 < n) {k seen : Int} (h0 : 0 ≤ k) (h1 : k ≤ s.weights.length) (h2 : -2 ≤ seen) (h3 : seen ≤ s.divisions) : meanF (scS s n) k seen = meanF s k seen := by
  have hv1 := hs.v1
  have hw1 := hs.w1
  have hds := ds_bd hs
  have e : (scS s n).volume + (scS s n).divisions * (scS s n).step = (s.volume + s.divisions * s.step) * n := by
    unfold scS; dsimp only; rw [Int.add_mul, Int.mul_assoc]
  unfold meanF
  rw [flo_scale hs hn h0 h1, mass_scale s n h0 h1, e, from_scale (show 0 < s.volume + s.divisions * s.step by omega) hn, show (scS s n).volume = s.volume * n from rfl, below_scale (show 0 < s.volume by omega) hn]
  by_cases c1 : seen = -1
  · rw [if_pos c1, if_pos c1]
  · rw [if_neg c1, if_neg c1]
    by_cases c2 : seen = -2
    · rw [if_pos c2, if_pos c2]
    · rw [if_neg c2, if_neg c2]
      have hdv := dv_bd hs (n := seen) (by omega) h3
      have a1 : s.volume * n + seen * (scS s n).step + (scS s n).width = (s.volume + seen * s.step + s.width) * n := by
        unfold scS; dsimp only; rw [Int.add_mul, Int.add_mul, Int.mul_assoc]
      have a2 : s.volume * n + seen * (scS s n).step - (scS s n).width = (s.volume + seen * s.step - s.width) * n := by
        unfold scS; dsimp only; rw [Int.sub_mul, Int.add_mul, Int.mul_assoc]
      have a3 : (scS s n).width < s.volume * n + seen * (scS s n).step ↔ s.width < s.volume + seen * s.step := by
        have : (s.volume + seen * s.step) * n = s.volume * n + seen * (scS s n).step := by unfold scS; dsimp only; rw [Int.add_mul, Int.mul_assoc]
        rw [← this]
        show s.width * n < _ ↔ _
        have := mul_le_iff (a := s.volume + seen * s.step) (b := s.width) hn
        omega
      rw [a1, from_scale (by omega) hn]
      by_cases c3 : s.width < s.volume + seen * s.step
      · rw [if_pos (a3.2 c3), if_pos c3, a2, below_scale (by omega) hn]
      · rw [if_neg (fun h => c3 (a3.1 h)), if_neg c3]
theorem chk_0 {s : Sn} (hs : VS s) : chkF s = 0 := chkF_valid.2 hs
theorem see_scale {s : Sn} (hs : VS s) {n : Int} (hn : 0 < n) (hx : VS (scS s n)) {k d : Int} (h0 : 0 ≤ k) (h1 : k ≤ s.weights.length) (h2 : 1 ≤ d) (h3 : d ≤ 2000) : seeF (scS s n) k d = seeF s k d := by
  have e1 : (scS s n).weights.length = s.weights.length := by unfold scS; simp
  have a1 : askF (scS s n) k d = 0 := by unfold askF; rw [if_neg (by rw [chk_0 hx]; exact fun h => h rfl), if_pos (by rw [e1]; exact ⟨⟨h0, h1⟩, h2, h3⟩)]
  have a2 : askF s k d = 0 := by unfold askF; rw [if_neg (by rw [chk_0 hs]; exact fun h => h rfl), if_pos ⟨⟨h0, h1⟩, h2, h3⟩]
  have a3 : atF (scS s n) k d = atF s k d := by
    unfold atF
    rw [flo_scale hs hn h0 h1, mass_scale s n h0 h1]
    have : 1000 * (massF s k * n) < d * (scS s n).volume ↔ 1000 * massF s k < d * s.volume := by
      show _ < d * (s.volume * n) ↔ _
      rw [← Int.mul_assoc, ← Int.mul_assoc]
      have := mul_le_iff (a := d * s.volume) (b := 1000 * massF s k) hn
      omega
    by_cases c : (floF s k).1 ≤ d ∧ d ≤ (floF s k).2
    · rw [if_pos c, if_pos c]
    · rw [if_neg c, if_neg c]
      by_cases c2 : 1000 * massF s k < d * s.volume
      · rw [if_pos (this.2 c2), if_pos c2]
      · rw [if_neg (fun h => c2 (this.1 h)), if_neg c2]
  have a4 : ∀ m : Nat, m ≤ s.divisions.toNat + 1 → seeAcc (scS s n) k d m = seeAcc s k d m := by
    intro m
    have hd1 := hs.d1
    induction m with
    | zero => intro _; rfl
    | succ m ih =>
      intro hm
      rw [seeAcc_succ, seeAcc_succ, ih (by omega)]
      unfold seeStep
      rw [mean_scale hs hn h0 h1 (by omega) (by omega)]
  unfold seeF
  rw [a1, a2, a3]
  rw [show (scS s n).divisions = s.divisions from rfl, a4 _ (Nat.le_refl _)]
theorem meanE_scale {s : Sn} (hs : VS s) {n : Int} (hn : 0 < n) (hx : VS (scS s n)) {k seen : Int} (h0 : 0 ≤ k) (h1 : k ≤ s.weights.length) : meanE (scS s n) k seen = meanE s k seen := by
  have e1 : (scS s n).weights.length = s.weights.length := by unfold scS; simp
  unfold meanE
  rw [chk_0 hx, chk_0 hs, e1, show (scS s n).divisions = s.divisions from rfl]
  by_cases c : (0 ≤ k ∧ k ≤ s.weights.length) ∧ (-2 ≤ seen ∧ seen ≤ s.divisions)
  · rw [mean_scale hs hn h0 h1 c.2.1 c.2.2]
  · simp only [c, not_true_eq_false, not_false_eq_true, if_true, if_false]
theorem best_scale {s : Sn} (hs : VS s) {n : Int} (hn : 0 < n) (hx : VS (scS s n)) (r : Int × Int) : bestE (scS s n) r = bestE s r := by
  have e1 : (scS s n).weights.length = s.weights.length := by unfold scS; simp
  have hd1 := hs.d1
  have a1 : rangedF (scS s n) r = rangedF s r := by unfold rangedF; rw [chk_0 hx, chk_0 hs]
  have a2 : ∀ (k : Int), 0 ≤ k → k ≤ s.weights.length → ∀ m : Nat, m ≤ (s.divisions + 3).toNat → leftF (scS s n) r k m = leftF s r k m := by
    intro k h0 h1 m
    induction m with
    | zero => intro _; rfl
    | succ m ih =>
      intro hm
      rw [leftF_succ, leftF_succ, ih (by omega)]
      unfold leftStep
      rw [mean_scale hs hn h0 h1 (by omega) (by omega)]
  have a3 : ∀ m : Nat, m ≤ s.weights.length + 1 → bestAcc (scS s n) r m = bestAcc s r m := by
    intro m
    induction m with
    | zero => intro _; show (0, _) = (0, _); rw [show (scS s n).divisions = s.divisions from rfl, a2 0 (Int.le_refl _) (by omega) _ (Nat.le_refl _)]
    | succ m ih =>
      intro hm
      rw [bestAcc_succ, bestAcc_succ, ih (by omega)]
      unfold bestStep
      rw [show (scS s n).divisions = s.divisions from rfl, a2 m (by omega) (by omega) _ (Nat.le_refl _)]
  unfold bestE
  rw [a1, e1, a3 _ (Nat.le_refl _)]
end Go.Sp
