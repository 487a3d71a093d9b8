/-
  Ranges, what is seen and what it means, as values that stand behind calls.
-/
import Derived.Test.YtdmnmhkonfadhaaTea
set_option linter.unusedVariables false
set_option linter.unusedSimpArgs false
set_option linter.deprecated false
namespace Go.Sp
open Go Go.Proofs
theorem ranges_v (a b : Int) (ha : 0 ≤ a ∧ a ≤ 65535) (hb : 0 ≤ b ∧ b ≤ 65535) {r1 r2 : Int} (h : rangesF a b = (r1, r2)) (w : World) : CnV Try.prog 46 #[v16 a, v16 b] w (.agg #[vi r1, vi r2]) := by
  have := ranges_c a b ha hb w
  rw [h] at this; exact this
theorem seen_v (s : Sn) (hs : VS s) (k d word : Int) (h0 : 0 ≤ k) (h1 : k ≤ s.weights.length) (h2 : 1 ≤ d) (h3 : d ≤ 2000) (hw0 : 0 ≤ word) {x : Int} (hx : seenF s k d word = x) (sl : Value) (w : World) (hr : RdI w sl s.weights) :
    CnV Try.prog 47 #[spV s sl, vi k, vi d, vi word] w (vi x) := by
  subst hx; exact seen2_c s hs k d word h0 h1 h2 h3 hw0 (fun hf => can_ne hs h2 hf) sl w hr
theorem mean_step {s : Sn} (hs : VS s) {k seen : Int} (h0 : 0 ≤ k) (h1 : k ≤ s.weights.length) (h2 : -2 ≤ seen) (h3 : seen ≤ s.divisions) {x1 x2 g : Int} (h : meanE s k seen = ((x1, x2), g)) : (g = 0 ∨ g = 7) ∧ (0 ≤ x1 ∧ x1 ≤ 6000001) ∧ 0 ≤ x2 ∧ x2 ≤ 2000 := by
  have hbd := mean_bd hs h0 h1 h2 h3
  rcases meanE_cases hs h0 h1 h2 h3 with ⟨q1, _⟩ | ⟨q1, _⟩
  · rw [q1] at h; cases h; omega
  · rw [q1] at h
    have e1 := congrArg Prod.fst h
    have e2 := congrArg Prod.snd h
    dsimp only at e1 e2
    rw [e1] at hbd
    dsimp only at hbd
    omega
end Go.Sp
