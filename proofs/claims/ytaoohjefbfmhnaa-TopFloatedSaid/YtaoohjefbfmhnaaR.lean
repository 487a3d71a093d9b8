/-
  The document's examples hold.
-/
import Derived.Test.YtaoohjefbfmhnaaU
set_option linter.unusedVariables false
set_option linter.unusedSimpArgs false
set_option linter.deprecated false
namespace Go.Sp
open Go Go.Proofs
theorem brass_vs : VS brassS := chkF_valid.1 (by decide)
theorem aw1 : floatsF brassS 0 899 = (-1, 0) := by kernel_rfl
theorem aw2 : seeF brassS 0 1050 = ((3, 3), 0) := by kernel_rfl
theorem aw3 : meanE brassS 0 4 = ((1012, 1034), 0) := by kernel_rfl
theorem aw4 : narrowE brassS [(0, 5), (1, 10)] = ((1000, 1010), 0) := by kernel_rfl
theorem aw5 : leaveE brassS [(0, 5), (1, 10), (0, 3)] = ([2], 0) := by kernel_rfl
theorem aw6 : verdictsE brassS (1000, 1100) = ([1, 1, 3], 0) := by kernel_rfl
theorem cov_fun {s : Sn} (hs : VS s) {r : Int × Int} (h1 : 1 ≤ r.1) (h2 : r.2 ≤ 2000) : coversF s r = rCovers s r := funext fun l => covers_eq hs h1 h2 l
/-- Cover, by the reference's test. -/
def coverR (s : Sn) (r : Int × Int) : Option (List Int) := (List.range (s.weights.length + 2)).findSome? fun (k : Nat) => srch (rCovers s r) (s.weights.length + 1) k [] 0
theorem coverO_eq {s : Sn} (hs : VS s) {r : Int × Int} (h1 : 1 ≤ r.1) (h2 : r.2 ≤ 2000) : coverO s r = coverR s r := by unfold coverO coverR; rw [cov_fun hs h1 h2]
theorem aw7 : coverE brassS (950, 1300) = ([0, 2], 0) := by
  unfold coverE
  rw [if_neg (by decide), coverO_eq brass_vs (by decide) (by decide), show coverR brassS (950, 1300) = some [0, 2] from by kernel_rfl]
theorem aw8 : bestE brassS (990, 1011) = ((1, 11), 0) := by kernel_rfl
theorem brass_nb : NB brassS := by unfold NB; decide
end Go.Sp
