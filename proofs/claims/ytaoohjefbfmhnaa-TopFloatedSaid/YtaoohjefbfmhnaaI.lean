/-
  What a load leaves of a range; Best.
-/
import Derived.Test.YtaoohjefbfmhnaaH
set_option linter.unusedVariables false
set_option linter.unusedSimpArgs false
set_option linter.deprecated false
namespace Go.Sp
open Go Go.Proofs
theorem mean_bd {s : Sn} (hs : VS s) {k seen : Int} (h0 : 0 ≤ k) (h1 : k ≤ s.weights.length) (h2 : -2 ≤ seen) (h3 : seen ≤ s.divisions) : (1 ≤ (meanF s k seen).1 ∧ (meanF s k seen).1 ≤ 6000001) ∧ (0 ≤ (meanF s k seen).2 ∧ (meanF s k seen).2 ≤ 2000) := by
  have hbd := massF_bd hs h0 h1
  have hds := ds_bd hs
  have hv1 := hs.v1
  have hw1 := hs.w1
  have hfb := from_bd hbd.1 hbd.2 (v := s.volume + s.divisions * s.step) (by omega)
  have hbb := below_bd hbd.1 hbd.2 hv1
  unfold meanF
  split
  · simp only [meetF]; omega
  · split
    · simp only [meetF]; omega
    · have hdv := dv_bd hs (n := seen) (by omega) h3
      have hf2 := from_bd hbd.1 hbd.2 (v := s.volume + seen * s.step + s.width) (by omega)
      split
      · have hb2 := below_bd hbd.1 hbd.2 (v := s.volume + seen * s.step - s.width) (by omega)
        simp only [meetF, floF]; omega
      · simp only [meetF, floF]; omega
def leftStep (s : Sn) (r : Int × Int) (k : Int) (acc : Int) (i : Nat) : Int := max acc ((meetF (meanF s k ((i : Int) - 2)) r).2 - (meetF (meanF s k ((i : Int) - 2)) r).1 + 1)
def leftF (s : Sn) (r : Int × Int) (k : Int) (n : Nat) : Int := (List.range n).foldl (leftStep s r k) 0
theorem leftF_succ (s : Sn) (r : Int × Int) (k : Int) (n : Nat) : leftF s r k (n + 1) = leftStep s r k (leftF s r k n) n := by simp [leftF, List.range_succ]
def bestStep (s : Sn) (r : Int × Int) (acc : Int × Int) (k : Nat) : Int × Int := if leftF s r k (s.divisions + 3).toNat < acc.2 then ((k : Int), leftF s r k (s.divisions + 3).toNat) else acc
def bestAcc (s : Sn) (r : Int × Int) (n : Nat) : Int × Int := (List.range n).foldl (bestStep s r) (0, leftF s r 0 (s.divisions + 3).toNat)
theorem bestAcc_succ (s : Sn) (r : Int × Int) (n : Nat) : bestAcc s r (n + 1) = bestStep s r (bestAcc s r n) n := by simp [bestAcc, List.range_succ]
def bestE (s : Sn) (r : Int × Int) : (Int × Int) × Int := if ¬ rangedF s r = 0 then ((0, 0), rangedF s r) else (bestAcc s r (s.weights.length + 1), 0)
end Go.Sp
