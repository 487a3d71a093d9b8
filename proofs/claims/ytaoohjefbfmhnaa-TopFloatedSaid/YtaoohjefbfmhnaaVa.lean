/-
  Contracts with known values.
-/
import Derived.Test.YtaoohjefbfmhnaaR
set_option linter.unusedVariables false
set_option linter.unusedSimpArgs false
set_option linter.deprecated false
namespace Go.Sp
open Go Go.Proofs
theorem meet_all {m : Int × Int} (h1 : 1 ≤ m.1) (h2 : m.2 ≤ 2000) : meetF (1, 2000) m = m := by
  obtain ⟨a, b⟩ := m
  simp only [meetF, Prod.mk.injEq] at h1 h2 ⊢
  omega
theorem nar_one {s : Sn} (hs : VS s) (k seen : Int) : narF s [(k, seen)] [] [(k, seen)].length = meanF s k seen := by
  have hb := mean_lo hs (k := k) (seen := seen)
  show narStep s [(k, seen)] [] (1, 2000) 0 = _
  unfold narStep
  rw [if_neg (by simp)]
  exact meet_all hb.1 hb.2
theorem rAll_one {s : Sn} (hs : VS s) {k seen : Int} (hok : rdOk s (k, seen) = true) :
    rAll s [(k, seen)] 0 = if (meanF s k seen).1 ≤ (meanF s k seen).2 then (meanF s k seen, (meanF s k seen).2 - (meanF s k seen).1 + 1) else ((2001, 0), 0) := by
  have h := rAll_nar hs (l := [(k, seen)]) (List.all_eq_true.2 fun x hx => by rw [List.mem_singleton.1 hx]; exact hok) (out := 0) (o := []) (fun i _ => by rw [outB_0]; exact ⟨fun h => absurd h Bool.false_ne_true, fun h => absurd h List.not_mem_nil⟩)
  rw [nar_one hs] at h
  exact h
theorem nb9 {s : Sn} (h : (s.weights.length : Int) ≤ 9) : NB s := by unfold NB; omega
end Go.Sp
