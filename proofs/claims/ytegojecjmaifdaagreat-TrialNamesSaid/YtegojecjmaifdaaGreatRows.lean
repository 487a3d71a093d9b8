/-
  No cell of these rows narrows 'for every input' (looked for: loops, veiled, ifaces, maps, wideKeys, modest, calm, conditions, laid).
  DERIVED. THE GIVEN ROWS OF THIS SEAT. 12 by the template 'for every input the law returns true; each argument reads behind the call as it read before'; 0 by the template 'total and deterministic' (their statements: YtegojecjmaifdaaGreatTotals.lean).
  GIVEN WITH THE SEED: the statements are not yours to turn. If you find one false, say at which input.
  Laid BY PROGRAM, IN A SANDBOX (cutbox-rows.mjs): the forced cells as the released guide's own fill.sh prints them over the translation f579414c4a6dfbdf… (all of the seat's roots in one cut). By AI agents, Wed Nov 11 2026. No macro, syntax, notation, axiom, sorry.
-/
import Derived.Test.YtegojecjmaifdaaGreatChecked
import GoSem.Claim
import GoSem.ClaimJoined
import GoSem.ClaimMapViews
import Derived.JoinedTies
import Derived.KernelRfl
namespace Go.Proofs.YtegojecjmaifdaaGreat
/- THE CELL 'sum', in the pinned program and in every row, IS THE sha256 OF THE DUMP (.gsa) THAT YtegojecjmaifdaaGreatProg.lean LOADS. Nothing in Lean hashes anything: it is a label: what it is worth is what the hold of that sum in a sandbox is worth. -/
noncomputable def Tryz.pinned : Pinned := { name := "ytegojecjmaifdaagreat", sum := "f579414c4a6dfbdfc4eb149cdc4d944d80e2298cc213fd7896b0b1ef8b0b678a", checked := Tryz.checked }
namespace Rows
def none {H : Type} : Left H := { results := [], args := [] }

/-- 'saccharumlaw09.TrialShows': WHATEVER THE INPUT: true; the input reads as it did. -/
def trialShowsSpec : ChangeSpec := { name := "trialShows", fn := fun _ => fun
  | [d1, d2, d3, d4] => { results := [.lit (.bool true)], args := [d1, d2, d3, d4] }
  | _ => none }
def trialShowsRow : OpenClaim := { program := "ytegojecjmaifdaagreat", sum := "f579414c4a6dfbdfc4eb149cdc4d944d80e2298cc213fd7896b0b1ef8b0b678a", func := "saccharum/saccharumlaw09.TrialShows", spec := "trialShows", unfollowed := true, recurses := true, plainKeys := false, apart := false }
def TrialShowsSaid : Prop := trialShowsRow.holds Tryz.pinned (OpenSpec.ofChange trialShowsSpec)

/-- ITS FALSE NEIGHBOUR: 'it returns false'. Refute it at one input. -/
def trialShowsWrong : ChangeSpec := { name := "trialShows", fn := fun _ => fun
  | [d1, d2, d3, d4] => { results := [.lit (.bool false)], args := [d1, d2, d3, d4] }
  | _ => none }
def TrialShowsWrongFalsely : Prop := trialShowsRow.holds Tryz.pinned (OpenSpec.ofChange trialShowsWrong)

/-- 'saccharumlaw09.TrialCorrects': WHATEVER THE INPUT: true; the input reads as it did. -/
def trialCorrectsSpec : ChangeSpec := { name := "trialCorrects", fn := fun _ => fun
  | [d1, d2, d3] => { results := [.lit (.bool true)], args := [d1, d2, d3] }
  | _ => none }
def trialCorrectsRow : OpenClaim := { program := "ytegojecjmaifdaagreat", sum := "f579414c4a6dfbdfc4eb149cdc4d944d80e2298cc213fd7896b0b1ef8b0b678a", func := "saccharum/saccharumlaw09.TrialCorrects", spec := "trialCorrects", unfollowed := true, recurses := true, plainKeys := false, apart := false }
def TrialCorrectsSaid : Prop := trialCorrectsRow.holds Tryz.pinned (OpenSpec.ofChange trialCorrectsSpec)

/-- ITS FALSE NEIGHBOUR: 'it returns false'. Refute it at one input. -/
def trialCorrectsWrong : ChangeSpec := { name := "trialCorrects", fn := fun _ => fun
  | [d1, d2, d3] => { results := [.lit (.bool false)], args := [d1, d2, d3] }
  | _ => none }
def TrialCorrectsWrongFalsely : Prop := trialCorrectsRow.holds Tryz.pinned (OpenSpec.ofChange trialCorrectsWrong)

/-- 'saccharumlaw09.TrialDecides': WHATEVER THE INPUT: true; the input reads as it did. -/
def trialDecidesSpec : ChangeSpec := { name := "trialDecides", fn := fun _ => fun
  | [d1, d2, d3] => { results := [.lit (.bool true)], args := [d1, d2, d3] }
  | _ => none }
def trialDecidesRow : OpenClaim := { program := "ytegojecjmaifdaagreat", sum := "f579414c4a6dfbdfc4eb149cdc4d944d80e2298cc213fd7896b0b1ef8b0b678a", func := "saccharum/saccharumlaw09.TrialDecides", spec := "trialDecides", unfollowed := true, recurses := true, plainKeys := false, apart := false }
def TrialDecidesSaid : Prop := trialDecidesRow.holds Tryz.pinned (OpenSpec.ofChange trialDecidesSpec)

/-- ITS FALSE NEIGHBOUR: 'it returns false'. Refute it at one input. -/
def trialDecidesWrong : ChangeSpec := { name := "trialDecides", fn := fun _ => fun
  | [d1, d2, d3] => { results := [.lit (.bool false)], args := [d1, d2, d3] }
  | _ => none }
def TrialDecidesWrongFalsely : Prop := trialDecidesRow.holds Tryz.pinned (OpenSpec.ofChange trialDecidesWrong)

/-- 'saccharumlaw09.TrialMore': WHATEVER THE INPUT: true; the input reads as it did. -/
def trialMoreSpec : ChangeSpec := { name := "trialMore", fn := fun _ => fun
  | [d1, d2, d3] => { results := [.lit (.bool true)], args := [d1, d2, d3] }
  | _ => none }
def trialMoreRow : OpenClaim := { program := "ytegojecjmaifdaagreat", sum := "f579414c4a6dfbdfc4eb149cdc4d944d80e2298cc213fd7896b0b1ef8b0b678a", func := "saccharum/saccharumlaw09.TrialMore", spec := "trialMore", unfollowed := true, recurses := true, plainKeys := false, apart := false }
def TrialMoreSaid : Prop := trialMoreRow.holds Tryz.pinned (OpenSpec.ofChange trialMoreSpec)

/-- ITS FALSE NEIGHBOUR: 'it returns false'. Refute it at one input. -/
def trialMoreWrong : ChangeSpec := { name := "trialMore", fn := fun _ => fun
  | [d1, d2, d3] => { results := [.lit (.bool false)], args := [d1, d2, d3] }
  | _ => none }
def TrialMoreWrongFalsely : Prop := trialMoreRow.holds Tryz.pinned (OpenSpec.ofChange trialMoreWrong)

/-- 'saccharumlaw09.TrialTolerance': WHATEVER THE INPUT: true; the input reads as it did. -/
def trialToleranceSpec : ChangeSpec := { name := "trialTolerance", fn := fun _ => fun
  | [d1, d2, d3, d4, d5] => { results := [.lit (.bool true)], args := [d1, d2, d3, d4, d5] }
  | _ => none }
def trialToleranceRow : OpenClaim := { program := "ytegojecjmaifdaagreat", sum := "f579414c4a6dfbdfc4eb149cdc4d944d80e2298cc213fd7896b0b1ef8b0b678a", func := "saccharum/saccharumlaw09.TrialTolerance", spec := "trialTolerance", unfollowed := true, recurses := true, plainKeys := false, apart := false }
def TrialToleranceSaid : Prop := trialToleranceRow.holds Tryz.pinned (OpenSpec.ofChange trialToleranceSpec)

/-- ITS FALSE NEIGHBOUR: 'it returns false'. Refute it at one input. -/
def trialToleranceWrong : ChangeSpec := { name := "trialTolerance", fn := fun _ => fun
  | [d1, d2, d3, d4, d5] => { results := [.lit (.bool false)], args := [d1, d2, d3, d4, d5] }
  | _ => none }
def TrialToleranceWrongFalsely : Prop := trialToleranceRow.holds Tryz.pinned (OpenSpec.ofChange trialToleranceWrong)

/-- 'saccharumlaw09.TrialWider': WHATEVER THE INPUT: true; the input reads as it did. -/
def trialWiderSpec : ChangeSpec := { name := "trialWider", fn := fun _ => fun
  | [d1, d2, d3] => { results := [.lit (.bool true)], args := [d1, d2, d3] }
  | _ => none }
def trialWiderRow : OpenClaim := { program := "ytegojecjmaifdaagreat", sum := "f579414c4a6dfbdfc4eb149cdc4d944d80e2298cc213fd7896b0b1ef8b0b678a", func := "saccharum/saccharumlaw09.TrialWider", spec := "trialWider", unfollowed := true, recurses := true, plainKeys := false, apart := false }
def TrialWiderSaid : Prop := trialWiderRow.holds Tryz.pinned (OpenSpec.ofChange trialWiderSpec)

/-- ITS FALSE NEIGHBOUR: 'it returns false'. Refute it at one input. -/
def trialWiderWrong : ChangeSpec := { name := "trialWider", fn := fun _ => fun
  | [d1, d2, d3] => { results := [.lit (.bool false)], args := [d1, d2, d3] }
  | _ => none }
def TrialWiderWrongFalsely : Prop := trialWiderRow.holds Tryz.pinned (OpenSpec.ofChange trialWiderWrong)

/-- 'saccharumlaw09.TrialDecided': WHATEVER THE INPUT: true; the input reads as it did. -/
def trialDecidedSpec : ChangeSpec := { name := "trialDecided", fn := fun _ => fun
  | [d1, d2, d3, d4, d5] => { results := [.lit (.bool true)], args := [d1, d2, d3, d4, d5] }
  | _ => none }
def trialDecidedRow : OpenClaim := { program := "ytegojecjmaifdaagreat", sum := "f579414c4a6dfbdfc4eb149cdc4d944d80e2298cc213fd7896b0b1ef8b0b678a", func := "saccharum/saccharumlaw09.TrialDecided", spec := "trialDecided", unfollowed := true, recurses := true, plainKeys := false, apart := false }
def TrialDecidedSaid : Prop := trialDecidedRow.holds Tryz.pinned (OpenSpec.ofChange trialDecidedSpec)

/-- ITS FALSE NEIGHBOUR: 'it returns false'. Refute it at one input. -/
def trialDecidedWrong : ChangeSpec := { name := "trialDecided", fn := fun _ => fun
  | [d1, d2, d3, d4, d5] => { results := [.lit (.bool false)], args := [d1, d2, d3, d4, d5] }
  | _ => none }
def TrialDecidedWrongFalsely : Prop := trialDecidedRow.holds Tryz.pinned (OpenSpec.ofChange trialDecidedWrong)

/-- 'saccharumlaw09.TrialErrors': WHATEVER THE INPUT: true; the input reads as it did. -/
def trialErrorsSpec : ChangeSpec := { name := "trialErrors", fn := fun _ => fun
  | [d1, d2] => { results := [.lit (.bool true)], args := [d1, d2] }
  | _ => none }
def trialErrorsRow : OpenClaim := { program := "ytegojecjmaifdaagreat", sum := "f579414c4a6dfbdfc4eb149cdc4d944d80e2298cc213fd7896b0b1ef8b0b678a", func := "saccharum/saccharumlaw09.TrialErrors", spec := "trialErrors", unfollowed := true, recurses := true, plainKeys := false, apart := false }
def TrialErrorsSaid : Prop := trialErrorsRow.holds Tryz.pinned (OpenSpec.ofChange trialErrorsSpec)

/-- ITS FALSE NEIGHBOUR: 'it returns false'. Refute it at one input. -/
def trialErrorsWrong : ChangeSpec := { name := "trialErrors", fn := fun _ => fun
  | [d1, d2] => { results := [.lit (.bool false)], args := [d1, d2] }
  | _ => none }
def TrialErrorsWrongFalsely : Prop := trialErrorsRow.holds Tryz.pinned (OpenSpec.ofChange trialErrorsWrong)

/-- 'saccharumlaw09.TrialProves': WHATEVER THE INPUT: true; the input reads as it did. -/
def trialProvesSpec : ChangeSpec := { name := "trialProves", fn := fun _ => fun
  | [d1, d2] => { results := [.lit (.bool true)], args := [d1, d2] }
  | _ => none }
def trialProvesRow : OpenClaim := { program := "ytegojecjmaifdaagreat", sum := "f579414c4a6dfbdfc4eb149cdc4d944d80e2298cc213fd7896b0b1ef8b0b678a", func := "saccharum/saccharumlaw09.TrialProves", spec := "trialProves", unfollowed := true, recurses := true, plainKeys := false, apart := false }
def TrialProvesSaid : Prop := trialProvesRow.holds Tryz.pinned (OpenSpec.ofChange trialProvesSpec)

/-- ITS FALSE NEIGHBOUR: 'it returns false'. Refute it at one input. -/
def trialProvesWrong : ChangeSpec := { name := "trialProves", fn := fun _ => fun
  | [d1, d2] => { results := [.lit (.bool false)], args := [d1, d2] }
  | _ => none }
def TrialProvesWrongFalsely : Prop := trialProvesRow.holds Tryz.pinned (OpenSpec.ofChange trialProvesWrong)

/-- 'saccharumlaw09.TrialLeft': WHATEVER THE INPUT: true; the input reads as it did. -/
def trialLeftSpec : ChangeSpec := { name := "trialLeft", fn := fun _ => fun
  | [d1, d2] => { results := [.lit (.bool true)], args := [d1, d2] }
  | _ => none }
def trialLeftRow : OpenClaim := { program := "ytegojecjmaifdaagreat", sum := "f579414c4a6dfbdfc4eb149cdc4d944d80e2298cc213fd7896b0b1ef8b0b678a", func := "saccharum/saccharumlaw09.TrialLeft", spec := "trialLeft", unfollowed := true, recurses := true, plainKeys := false, apart := false }
def TrialLeftSaid : Prop := trialLeftRow.holds Tryz.pinned (OpenSpec.ofChange trialLeftSpec)

/-- ITS FALSE NEIGHBOUR: 'it returns false'. Refute it at one input. -/
def trialLeftWrong : ChangeSpec := { name := "trialLeft", fn := fun _ => fun
  | [d1, d2] => { results := [.lit (.bool false)], args := [d1, d2] }
  | _ => none }
def TrialLeftWrongFalsely : Prop := trialLeftRow.holds Tryz.pinned (OpenSpec.ofChange trialLeftWrong)

/-- 'saccharumlaw09.TrialTruth': WHATEVER THE INPUT: true; the input reads as it did. -/
def trialTruthSpec : ChangeSpec := { name := "trialTruth", fn := fun _ => fun
  | [d1, d2, d3, d4] => { results := [.lit (.bool true)], args := [d1, d2, d3, d4] }
  | _ => none }
def trialTruthRow : OpenClaim := { program := "ytegojecjmaifdaagreat", sum := "f579414c4a6dfbdfc4eb149cdc4d944d80e2298cc213fd7896b0b1ef8b0b678a", func := "saccharum/saccharumlaw09.TrialTruth", spec := "trialTruth", unfollowed := true, recurses := true, plainKeys := false, apart := false }
def TrialTruthSaid : Prop := trialTruthRow.holds Tryz.pinned (OpenSpec.ofChange trialTruthSpec)

/-- ITS FALSE NEIGHBOUR: 'it returns false'. Refute it at one input. -/
def trialTruthWrong : ChangeSpec := { name := "trialTruth", fn := fun _ => fun
  | [d1, d2, d3, d4] => { results := [.lit (.bool false)], args := [d1, d2, d3, d4] }
  | _ => none }
def TrialTruthWrongFalsely : Prop := trialTruthRow.holds Tryz.pinned (OpenSpec.ofChange trialTruthWrong)

/-- 'saccharumlaw09.TrialNames': WHATEVER THE INPUT: true; the input reads as it did. -/
def trialNamesSpec : ChangeSpec := { name := "trialNames", fn := fun _ => fun
  | [] => { results := [.lit (.bool true)], args := [] }
  | _ => none }
def trialNamesRow : OpenClaim := { program := "ytegojecjmaifdaagreat", sum := "f579414c4a6dfbdfc4eb149cdc4d944d80e2298cc213fd7896b0b1ef8b0b678a", func := "saccharum/saccharumlaw09.TrialNames", spec := "trialNames", unfollowed := true, recurses := true, plainKeys := false, apart := false }
def TrialNamesSaid : Prop := trialNamesRow.holds Tryz.pinned (OpenSpec.ofChange trialNamesSpec)

/-- ITS FALSE NEIGHBOUR: 'it returns false'. Refute it at one input. -/
def trialNamesWrong : ChangeSpec := { name := "trialNames", fn := fun _ => fun
  | [] => { results := [.lit (.bool false)], args := [] }
  | _ => none }
def TrialNamesWrongFalsely : Prop := trialNamesRow.holds Tryz.pinned (OpenSpec.ofChange trialNamesWrong)

/- THE SECOND FORM. 'bulk': how many values and letters a reading holds, each counted each time it is reached (what is shared counts as often as it is met; a slice's spare places count too). A statement '..UptoSaid' is the law's where the arguments, and the package variables that the reading takes, are together of bulk at most 1048576: NARROWER than '..Said'. Prove '..Said' where nothing that the law and all that it calls make is longer than what came in: it says more and counts as full. Else prove '..UptoSaid'. A law counts once. -/
mutual
def uptoBulk {H : Type} : DataW H → Nat
  | .lit (.string bytes) => bytes.length + 1
  | .lit _ => 1
  | .nil => 1
  | .ptr d => uptoBulk d + 1
  | .slice elems spare => uptoBulkAll elems + uptoBulkAll spare + 1
  | .agg parts => uptoBulkAll parts + 1
  | .iface _ d => uptoBulk d + 1
  | .map entries => uptoBulkEntries entries + 1
  | .held _ => 1
def uptoBulkAll {H : Type} : List (DataW H) → Nat
  | [] => 0
  | d :: r => uptoBulk d + uptoBulkAll r
def uptoBulkEntries {H : Type} : List (Lit × DataW H) → Nat
  | [] => 0
  | x :: r => uptoBulkEntry x + uptoBulkEntries r
def uptoBulkEntry {H : Type} : Lit × DataW H → Nat
  | (.string bytes, d) => bytes.length + uptoBulk d + 1
  | (_, d) => uptoBulk d + 1
 end
def uptoSmall : (H : Type) → List (DataW H) → Bool := fun _ ds => decide (uptoBulkAll ds ≤ 1048576)
def OpenSpec.upto (s : _root_.Go.ChangeSpec) : _root_.Go.OpenSpec := { _root_.Go.OpenSpec.ofChange s with cond := some uptoSmall }

/-- 'saccharumlaw09.TrialShows', WHERE WHAT IT READS IS OF BULK AT MOST 1048576: true; the input reads as it did. -/
def trialShowsUptoRow : OpenClaim := { program := "ytegojecjmaifdaagreat", sum := "f579414c4a6dfbdfc4eb149cdc4d944d80e2298cc213fd7896b0b1ef8b0b678a", func := "saccharum/saccharumlaw09.TrialShows", spec := "trialShows", unfollowed := true, recurses := true, plainKeys := false, apart := false, narrowed := true }
def TrialShowsUptoSaid : Prop := trialShowsUptoRow.holds Tryz.pinned (OpenSpec.upto trialShowsSpec)

/-- 'saccharumlaw09.TrialCorrects', WHERE WHAT IT READS IS OF BULK AT MOST 1048576: true; the input reads as it did. -/
def trialCorrectsUptoRow : OpenClaim := { program := "ytegojecjmaifdaagreat", sum := "f579414c4a6dfbdfc4eb149cdc4d944d80e2298cc213fd7896b0b1ef8b0b678a", func := "saccharum/saccharumlaw09.TrialCorrects", spec := "trialCorrects", unfollowed := true, recurses := true, plainKeys := false, apart := false, narrowed := true }
def TrialCorrectsUptoSaid : Prop := trialCorrectsUptoRow.holds Tryz.pinned (OpenSpec.upto trialCorrectsSpec)

/-- 'saccharumlaw09.TrialDecides', WHERE WHAT IT READS IS OF BULK AT MOST 1048576: true; the input reads as it did. -/
def trialDecidesUptoRow : OpenClaim := { program := "ytegojecjmaifdaagreat", sum := "f579414c4a6dfbdfc4eb149cdc4d944d80e2298cc213fd7896b0b1ef8b0b678a", func := "saccharum/saccharumlaw09.TrialDecides", spec := "trialDecides", unfollowed := true, recurses := true, plainKeys := false, apart := false, narrowed := true }
def TrialDecidesUptoSaid : Prop := trialDecidesUptoRow.holds Tryz.pinned (OpenSpec.upto trialDecidesSpec)

/-- 'saccharumlaw09.TrialMore', WHERE WHAT IT READS IS OF BULK AT MOST 1048576: true; the input reads as it did. -/
def trialMoreUptoRow : OpenClaim := { program := "ytegojecjmaifdaagreat", sum := "f579414c4a6dfbdfc4eb149cdc4d944d80e2298cc213fd7896b0b1ef8b0b678a", func := "saccharum/saccharumlaw09.TrialMore", spec := "trialMore", unfollowed := true, recurses := true, plainKeys := false, apart := false, narrowed := true }
def TrialMoreUptoSaid : Prop := trialMoreUptoRow.holds Tryz.pinned (OpenSpec.upto trialMoreSpec)

/-- 'saccharumlaw09.TrialTolerance', WHERE WHAT IT READS IS OF BULK AT MOST 1048576: true; the input reads as it did. -/
def trialToleranceUptoRow : OpenClaim := { program := "ytegojecjmaifdaagreat", sum := "f579414c4a6dfbdfc4eb149cdc4d944d80e2298cc213fd7896b0b1ef8b0b678a", func := "saccharum/saccharumlaw09.TrialTolerance", spec := "trialTolerance", unfollowed := true, recurses := true, plainKeys := false, apart := false, narrowed := true }
def TrialToleranceUptoSaid : Prop := trialToleranceUptoRow.holds Tryz.pinned (OpenSpec.upto trialToleranceSpec)

/-- 'saccharumlaw09.TrialWider', WHERE WHAT IT READS IS OF BULK AT MOST 1048576: true; the input reads as it did. -/
def trialWiderUptoRow : OpenClaim := { program := "ytegojecjmaifdaagreat", sum := "f579414c4a6dfbdfc4eb149cdc4d944d80e2298cc213fd7896b0b1ef8b0b678a", func := "saccharum/saccharumlaw09.TrialWider", spec := "trialWider", unfollowed := true, recurses := true, plainKeys := false, apart := false, narrowed := true }
def TrialWiderUptoSaid : Prop := trialWiderUptoRow.holds Tryz.pinned (OpenSpec.upto trialWiderSpec)

/-- 'saccharumlaw09.TrialDecided', WHERE WHAT IT READS IS OF BULK AT MOST 1048576: true; the input reads as it did. -/
def trialDecidedUptoRow : OpenClaim := { program := "ytegojecjmaifdaagreat", sum := "f579414c4a6dfbdfc4eb149cdc4d944d80e2298cc213fd7896b0b1ef8b0b678a", func := "saccharum/saccharumlaw09.TrialDecided", spec := "trialDecided", unfollowed := true, recurses := true, plainKeys := false, apart := false, narrowed := true }
def TrialDecidedUptoSaid : Prop := trialDecidedUptoRow.holds Tryz.pinned (OpenSpec.upto trialDecidedSpec)

/-- 'saccharumlaw09.TrialErrors', WHERE WHAT IT READS IS OF BULK AT MOST 1048576: true; the input reads as it did. -/
def trialErrorsUptoRow : OpenClaim := { program := "ytegojecjmaifdaagreat", sum := "f579414c4a6dfbdfc4eb149cdc4d944d80e2298cc213fd7896b0b1ef8b0b678a", func := "saccharum/saccharumlaw09.TrialErrors", spec := "trialErrors", unfollowed := true, recurses := true, plainKeys := false, apart := false, narrowed := true }
def TrialErrorsUptoSaid : Prop := trialErrorsUptoRow.holds Tryz.pinned (OpenSpec.upto trialErrorsSpec)

/-- 'saccharumlaw09.TrialProves', WHERE WHAT IT READS IS OF BULK AT MOST 1048576: true; the input reads as it did. -/
def trialProvesUptoRow : OpenClaim := { program := "ytegojecjmaifdaagreat", sum := "f579414c4a6dfbdfc4eb149cdc4d944d80e2298cc213fd7896b0b1ef8b0b678a", func := "saccharum/saccharumlaw09.TrialProves", spec := "trialProves", unfollowed := true, recurses := true, plainKeys := false, apart := false, narrowed := true }
def TrialProvesUptoSaid : Prop := trialProvesUptoRow.holds Tryz.pinned (OpenSpec.upto trialProvesSpec)

/-- 'saccharumlaw09.TrialLeft', WHERE WHAT IT READS IS OF BULK AT MOST 1048576: true; the input reads as it did. -/
def trialLeftUptoRow : OpenClaim := { program := "ytegojecjmaifdaagreat", sum := "f579414c4a6dfbdfc4eb149cdc4d944d80e2298cc213fd7896b0b1ef8b0b678a", func := "saccharum/saccharumlaw09.TrialLeft", spec := "trialLeft", unfollowed := true, recurses := true, plainKeys := false, apart := false, narrowed := true }
def TrialLeftUptoSaid : Prop := trialLeftUptoRow.holds Tryz.pinned (OpenSpec.upto trialLeftSpec)

/-- 'saccharumlaw09.TrialTruth', WHERE WHAT IT READS IS OF BULK AT MOST 1048576: true; the input reads as it did. -/
def trialTruthUptoRow : OpenClaim := { program := "ytegojecjmaifdaagreat", sum := "f579414c4a6dfbdfc4eb149cdc4d944d80e2298cc213fd7896b0b1ef8b0b678a", func := "saccharum/saccharumlaw09.TrialTruth", spec := "trialTruth", unfollowed := true, recurses := true, plainKeys := false, apart := false, narrowed := true }
def TrialTruthUptoSaid : Prop := trialTruthUptoRow.holds Tryz.pinned (OpenSpec.upto trialTruthSpec)

/-- 'saccharumlaw09.TrialNames', WHERE WHAT IT READS IS OF BULK AT MOST 1048576: true; the input reads as it did. -/
def trialNamesUptoRow : OpenClaim := { program := "ytegojecjmaifdaagreat", sum := "f579414c4a6dfbdfc4eb149cdc4d944d80e2298cc213fd7896b0b1ef8b0b678a", func := "saccharum/saccharumlaw09.TrialNames", spec := "trialNames", unfollowed := true, recurses := true, plainKeys := false, apart := false, narrowed := true }
def TrialNamesUptoSaid : Prop := trialNamesUptoRow.holds Tryz.pinned (OpenSpec.upto trialNamesSpec)

end Rows
end Go.Proofs.YtegojecjmaifdaaGreat
