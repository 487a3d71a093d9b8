/-
  No cell of these rows narrows 'for every input' (looked for: loops, veiled, ifaces, maps, wideKeys, modest, calm, conditions, laid).
  DERIVED. THE GIVEN ROWS OF THIS SEAT. 12 by the template 'for every input the law returns true; each argument reads behind the call as it read before'; 0 by the template 'total and deterministic' (their statements: YtgfpkpiigkcndaaGreatTotals.lean).
  GIVEN WITH THE SEED: the statements are not yours to turn. If you find one false, say at which input.
  Laid BY PROGRAM, IN A SANDBOX (cutbox-rows.mjs): the forced cells as the released guide's own fill.sh prints them over the translation 78053d38038aa27b… (all of the seat's roots in one cut). By AI agents, Wed Nov 11 2026. No macro, syntax, notation, axiom, sorry.
-/
import Derived.Test.YtgfpkpiigkcndaaGreatChecked
import GoSem.Claim
import GoSem.ClaimJoined
import GoSem.ClaimMapViews
import Derived.JoinedTies
import Derived.KernelRfl
namespace Go.Proofs.YtgfpkpiigkcndaaGreat
/- THE CELL 'sum', in the pinned program and in every row, IS THE sha256 OF THE DUMP (.gsa) THAT YtgfpkpiigkcndaaGreatProg.lean LOADS. Nothing in Lean hashes anything: it is a label: what it is worth is what the hold of that sum in a sandbox is worth. -/
noncomputable def Tryz.pinned : Pinned := { name := "ytgfpkpiigkcndaagreat", sum := "78053d38038aa27b315e8c0505d290ce445b0fcc818edbaec9c8dbcd861f2690", checked := Tryz.checked }
namespace Rows
def none {H : Type} : Left H := { results := [], args := [] }

/-- 'saccharumlaw08.SampleHolds': WHATEVER THE INPUT: true; the input reads as it did. -/
def sampleHoldsSpec : ChangeSpec := { name := "sampleHolds", fn := fun _ => fun
  | [d1, d2, d3] => { results := [.lit (.bool true)], args := [d1, d2, d3] }
  | _ => none }
def sampleHoldsRow : OpenClaim := { program := "ytgfpkpiigkcndaagreat", sum := "78053d38038aa27b315e8c0505d290ce445b0fcc818edbaec9c8dbcd861f2690", func := "saccharum/saccharumlaw08.SampleHolds", spec := "sampleHolds", unfollowed := true, recurses := true, plainKeys := false, apart := false }
def SampleHoldsSaid : Prop := sampleHoldsRow.holds Tryz.pinned (OpenSpec.ofChange sampleHoldsSpec)

/-- ITS FALSE NEIGHBOUR: 'it returns false'. Refute it at one input. -/
def sampleHoldsWrong : ChangeSpec := { name := "sampleHolds", fn := fun _ => fun
  | [d1, d2, d3] => { results := [.lit (.bool false)], args := [d1, d2, d3] }
  | _ => none }
def SampleHoldsWrongFalsely : Prop := sampleHoldsRow.holds Tryz.pinned (OpenSpec.ofChange sampleHoldsWrong)

/-- 'saccharumlaw08.SampleTells': WHATEVER THE INPUT: true; the input reads as it did. -/
def sampleTellsSpec : ChangeSpec := { name := "sampleTells", fn := fun _ => fun
  | [d] => { results := [.lit (.bool true)], args := [d] }
  | _ => none }
def sampleTellsRow : OpenClaim := { program := "ytgfpkpiigkcndaagreat", sum := "78053d38038aa27b315e8c0505d290ce445b0fcc818edbaec9c8dbcd861f2690", func := "saccharum/saccharumlaw08.SampleTells", spec := "sampleTells", unfollowed := true, recurses := true, plainKeys := false, apart := false }
def SampleTellsSaid : Prop := sampleTellsRow.holds Tryz.pinned (OpenSpec.ofChange sampleTellsSpec)

/-- ITS FALSE NEIGHBOUR: 'it returns false'. Refute it at one input. -/
def sampleTellsWrong : ChangeSpec := { name := "sampleTells", fn := fun _ => fun
  | [d] => { results := [.lit (.bool false)], args := [d] }
  | _ => none }
def SampleTellsWrongFalsely : Prop := sampleTellsRow.holds Tryz.pinned (OpenSpec.ofChange sampleTellsWrong)

/-- 'saccharumlaw08.SampleLeaves': WHATEVER THE INPUT: true; the input reads as it did. -/
def sampleLeavesSpec : ChangeSpec := { name := "sampleLeaves", fn := fun _ => fun
  | [d] => { results := [.lit (.bool true)], args := [d] }
  | _ => none }
def sampleLeavesRow : OpenClaim := { program := "ytgfpkpiigkcndaagreat", sum := "78053d38038aa27b315e8c0505d290ce445b0fcc818edbaec9c8dbcd861f2690", func := "saccharum/saccharumlaw08.SampleLeaves", spec := "sampleLeaves", unfollowed := true, recurses := true, plainKeys := false, apart := false }
def SampleLeavesSaid : Prop := sampleLeavesRow.holds Tryz.pinned (OpenSpec.ofChange sampleLeavesSpec)

/-- ITS FALSE NEIGHBOUR: 'it returns false'. Refute it at one input. -/
def sampleLeavesWrong : ChangeSpec := { name := "sampleLeaves", fn := fun _ => fun
  | [d] => { results := [.lit (.bool false)], args := [d] }
  | _ => none }
def SampleLeavesWrongFalsely : Prop := sampleLeavesRow.holds Tryz.pinned (OpenSpec.ofChange sampleLeavesWrong)

/-- 'saccharumlaw08.SampleOpened': WHATEVER THE INPUT: true; the input reads as it did. -/
def sampleOpenedSpec : ChangeSpec := { name := "sampleOpened", fn := fun _ => fun
  | [d1, d2, d3] => { results := [.lit (.bool true)], args := [d1, d2, d3] }
  | _ => none }
def sampleOpenedRow : OpenClaim := { program := "ytgfpkpiigkcndaagreat", sum := "78053d38038aa27b315e8c0505d290ce445b0fcc818edbaec9c8dbcd861f2690", func := "saccharum/saccharumlaw08.SampleOpened", spec := "sampleOpened", unfollowed := true, recurses := true, plainKeys := false, apart := false }
def SampleOpenedSaid : Prop := sampleOpenedRow.holds Tryz.pinned (OpenSpec.ofChange sampleOpenedSpec)

/-- ITS FALSE NEIGHBOUR: 'it returns false'. Refute it at one input. -/
def sampleOpenedWrong : ChangeSpec := { name := "sampleOpened", fn := fun _ => fun
  | [d1, d2, d3] => { results := [.lit (.bool false)], args := [d1, d2, d3] }
  | _ => none }
def SampleOpenedWrongFalsely : Prop := sampleOpenedRow.holds Tryz.pinned (OpenSpec.ofChange sampleOpenedWrong)

/-- 'saccharumlaw08.SampleSealed': WHATEVER THE INPUT: true; the input reads as it did. -/
def sampleSealedSpec : ChangeSpec := { name := "sampleSealed", fn := fun _ => fun
  | [d1, d2, d3] => { results := [.lit (.bool true)], args := [d1, d2, d3] }
  | _ => none }
def sampleSealedRow : OpenClaim := { program := "ytgfpkpiigkcndaagreat", sum := "78053d38038aa27b315e8c0505d290ce445b0fcc818edbaec9c8dbcd861f2690", func := "saccharum/saccharumlaw08.SampleSealed", spec := "sampleSealed", unfollowed := true, recurses := true, plainKeys := false, apart := false }
def SampleSealedSaid : Prop := sampleSealedRow.holds Tryz.pinned (OpenSpec.ofChange sampleSealedSpec)

/-- ITS FALSE NEIGHBOUR: 'it returns false'. Refute it at one input. -/
def sampleSealedWrong : ChangeSpec := { name := "sampleSealed", fn := fun _ => fun
  | [d1, d2, d3] => { results := [.lit (.bool false)], args := [d1, d2, d3] }
  | _ => none }
def SampleSealedWrongFalsely : Prop := sampleSealedRow.holds Tryz.pinned (OpenSpec.ofChange sampleSealedWrong)

/-- 'saccharumlaw08.SampleVerdicts': WHATEVER THE INPUT: true; the input reads as it did. -/
def sampleVerdictsSpec : ChangeSpec := { name := "sampleVerdicts", fn := fun _ => fun
  | [d] => { results := [.lit (.bool true)], args := [d] }
  | _ => none }
def sampleVerdictsRow : OpenClaim := { program := "ytgfpkpiigkcndaagreat", sum := "78053d38038aa27b315e8c0505d290ce445b0fcc818edbaec9c8dbcd861f2690", func := "saccharum/saccharumlaw08.SampleVerdicts", spec := "sampleVerdicts", unfollowed := true, recurses := true, plainKeys := false, apart := false }
def SampleVerdictsSaid : Prop := sampleVerdictsRow.holds Tryz.pinned (OpenSpec.ofChange sampleVerdictsSpec)

/-- ITS FALSE NEIGHBOUR: 'it returns false'. Refute it at one input. -/
def sampleVerdictsWrong : ChangeSpec := { name := "sampleVerdicts", fn := fun _ => fun
  | [d] => { results := [.lit (.bool false)], args := [d] }
  | _ => none }
def SampleVerdictsWrongFalsely : Prop := sampleVerdictsRow.holds Tryz.pinned (OpenSpec.ofChange sampleVerdictsWrong)

/-- 'saccharumlaw08.SampleMore': WHATEVER THE INPUT: true; the input reads as it did. -/
def sampleMoreSpec : ChangeSpec := { name := "sampleMore", fn := fun _ => fun
  | [d1, d2] => { results := [.lit (.bool true)], args := [d1, d2] }
  | _ => none }
def sampleMoreRow : OpenClaim := { program := "ytgfpkpiigkcndaagreat", sum := "78053d38038aa27b315e8c0505d290ce445b0fcc818edbaec9c8dbcd861f2690", func := "saccharum/saccharumlaw08.SampleMore", spec := "sampleMore", unfollowed := true, recurses := true, plainKeys := false, apart := false }
def SampleMoreSaid : Prop := sampleMoreRow.holds Tryz.pinned (OpenSpec.ofChange sampleMoreSpec)

/-- ITS FALSE NEIGHBOUR: 'it returns false'. Refute it at one input. -/
def sampleMoreWrong : ChangeSpec := { name := "sampleMore", fn := fun _ => fun
  | [d1, d2] => { results := [.lit (.bool false)], args := [d1, d2] }
  | _ => none }
def SampleMoreWrongFalsely : Prop := sampleMoreRow.holds Tryz.pinned (OpenSpec.ofChange sampleMoreWrong)

/-- 'saccharumlaw08.SampleWider': WHATEVER THE INPUT: true; the input reads as it did. -/
def sampleWiderSpec : ChangeSpec := { name := "sampleWider", fn := fun _ => fun
  | [d1, d2, d3, d4] => { results := [.lit (.bool true)], args := [d1, d2, d3, d4] }
  | _ => none }
def sampleWiderRow : OpenClaim := { program := "ytgfpkpiigkcndaagreat", sum := "78053d38038aa27b315e8c0505d290ce445b0fcc818edbaec9c8dbcd861f2690", func := "saccharum/saccharumlaw08.SampleWider", spec := "sampleWider", unfollowed := true, recurses := true, plainKeys := false, apart := false }
def SampleWiderSaid : Prop := sampleWiderRow.holds Tryz.pinned (OpenSpec.ofChange sampleWiderSpec)

/-- ITS FALSE NEIGHBOUR: 'it returns false'. Refute it at one input. -/
def sampleWiderWrong : ChangeSpec := { name := "sampleWider", fn := fun _ => fun
  | [d1, d2, d3, d4] => { results := [.lit (.bool false)], args := [d1, d2, d3, d4] }
  | _ => none }
def SampleWiderWrongFalsely : Prop := sampleWiderRow.holds Tryz.pinned (OpenSpec.ofChange sampleWiderWrong)

/-- 'saccharumlaw08.SampleApart': WHATEVER THE INPUT: true; the input reads as it did. -/
def sampleApartSpec : ChangeSpec := { name := "sampleApart", fn := fun _ => fun
  | [d1, d2] => { results := [.lit (.bool true)], args := [d1, d2] }
  | _ => none }
def sampleApartRow : OpenClaim := { program := "ytgfpkpiigkcndaagreat", sum := "78053d38038aa27b315e8c0505d290ce445b0fcc818edbaec9c8dbcd861f2690", func := "saccharum/saccharumlaw08.SampleApart", spec := "sampleApart", unfollowed := true, recurses := true, plainKeys := false, apart := false }
def SampleApartSaid : Prop := sampleApartRow.holds Tryz.pinned (OpenSpec.ofChange sampleApartSpec)

/-- ITS FALSE NEIGHBOUR: 'it returns false'. Refute it at one input. -/
def sampleApartWrong : ChangeSpec := { name := "sampleApart", fn := fun _ => fun
  | [d1, d2] => { results := [.lit (.bool false)], args := [d1, d2] }
  | _ => none }
def SampleApartWrongFalsely : Prop := sampleApartRow.holds Tryz.pinned (OpenSpec.ofChange sampleApartWrong)

/-- 'saccharumlaw08.SamplePlays': WHATEVER THE INPUT: true; the input reads as it did. -/
def samplePlaysSpec : ChangeSpec := { name := "samplePlays", fn := fun _ => fun
  | [d1, d2] => { results := [.lit (.bool true)], args := [d1, d2] }
  | _ => none }
def samplePlaysRow : OpenClaim := { program := "ytgfpkpiigkcndaagreat", sum := "78053d38038aa27b315e8c0505d290ce445b0fcc818edbaec9c8dbcd861f2690", func := "saccharum/saccharumlaw08.SamplePlays", spec := "samplePlays", unfollowed := true, recurses := true, plainKeys := false, apart := false }
def SamplePlaysSaid : Prop := samplePlaysRow.holds Tryz.pinned (OpenSpec.ofChange samplePlaysSpec)

/-- ITS FALSE NEIGHBOUR: 'it returns false'. Refute it at one input. -/
def samplePlaysWrong : ChangeSpec := { name := "samplePlays", fn := fun _ => fun
  | [d1, d2] => { results := [.lit (.bool false)], args := [d1, d2] }
  | _ => none }
def SamplePlaysWrongFalsely : Prop := samplePlaysRow.holds Tryz.pinned (OpenSpec.ofChange samplePlaysWrong)

/-- 'saccharumlaw08.SampleNames': WHATEVER THE INPUT: true; the input reads as it did. -/
def sampleNamesSpec : ChangeSpec := { name := "sampleNames", fn := fun _ => fun
  | [] => { results := [.lit (.bool true)], args := [] }
  | _ => none }
def sampleNamesRow : OpenClaim := { program := "ytgfpkpiigkcndaagreat", sum := "78053d38038aa27b315e8c0505d290ce445b0fcc818edbaec9c8dbcd861f2690", func := "saccharum/saccharumlaw08.SampleNames", spec := "sampleNames", unfollowed := true, recurses := true, plainKeys := false, apart := false }
def SampleNamesSaid : Prop := sampleNamesRow.holds Tryz.pinned (OpenSpec.ofChange sampleNamesSpec)

/-- ITS FALSE NEIGHBOUR: 'it returns false'. Refute it at one input. -/
def sampleNamesWrong : ChangeSpec := { name := "sampleNames", fn := fun _ => fun
  | [] => { results := [.lit (.bool false)], args := [] }
  | _ => none }
def SampleNamesWrongFalsely : Prop := sampleNamesRow.holds Tryz.pinned (OpenSpec.ofChange sampleNamesWrong)

/-- 'saccharumlaw08.SampleTruth': WHATEVER THE INPUT: true; the input reads as it did. -/
def sampleTruthSpec : ChangeSpec := { name := "sampleTruth", fn := fun _ => fun
  | [d1, d2, d3] => { results := [.lit (.bool true)], args := [d1, d2, d3] }
  | _ => none }
def sampleTruthRow : OpenClaim := { program := "ytgfpkpiigkcndaagreat", sum := "78053d38038aa27b315e8c0505d290ce445b0fcc818edbaec9c8dbcd861f2690", func := "saccharum/saccharumlaw08.SampleTruth", spec := "sampleTruth", unfollowed := true, recurses := true, plainKeys := false, apart := false }
def SampleTruthSaid : Prop := sampleTruthRow.holds Tryz.pinned (OpenSpec.ofChange sampleTruthSpec)

/-- ITS FALSE NEIGHBOUR: 'it returns false'. Refute it at one input. -/
def sampleTruthWrong : ChangeSpec := { name := "sampleTruth", fn := fun _ => fun
  | [d1, d2, d3] => { results := [.lit (.bool false)], args := [d1, d2, d3] }
  | _ => none }
def SampleTruthWrongFalsely : Prop := sampleTruthRow.holds Tryz.pinned (OpenSpec.ofChange sampleTruthWrong)

/- THE SECOND FORM. 'bulk': how many values and letters a reading holds, each counted each time it is reached (what is shared counts as often as it is met; a slice's spare places count too). A statement '..UptoSaid' is the law's where the arguments, and the package variables that the reading takes, are together of bulk at most 1048576: NARROWER than '..Said'. Prove '..Said' where nothing that the law and all that it calls make is longer than what came in: it says more and counts as full. Else prove '..UptoSaid'. A law counts once. -/
mutual
def uptoBulk {H : Type} : DataW H → Nat
  | .lit (.string bytes) => bytes.length + 1
  | .lit _ => 1
  | .nil => 1
  | .ptr d => uptoBulk d + 1
  | .slice elems spare => uptoBulkAll elems + uptoBulkAll spare + 1
  | .agg parts => uptoBulkAll parts + 1
  | .iface _ d => uptoBulk d + 1
  | .map entries => uptoBulkEntries entries + 1
  | .held _ => 1
def uptoBulkAll {H : Type} : List (DataW H) → Nat
  | [] => 0
  | d :: r => uptoBulk d + uptoBulkAll r
def uptoBulkEntries {H : Type} : List (Lit × DataW H) → Nat
  | [] => 0
  | x :: r => uptoBulkEntry x + uptoBulkEntries r
def uptoBulkEntry {H : Type} : Lit × DataW H → Nat
  | (.string bytes, d) => bytes.length + uptoBulk d + 1
  | (_, d) => uptoBulk d + 1
 end
def uptoSmall : (H : Type) → List (DataW H) → Bool := fun _ ds => decide (uptoBulkAll ds ≤ 1048576)
def OpenSpec.upto (s : _root_.Go.ChangeSpec) : _root_.Go.OpenSpec := { _root_.Go.OpenSpec.ofChange s with cond := some uptoSmall }

/-- 'saccharumlaw08.SampleHolds', WHERE WHAT IT READS IS OF BULK AT MOST 1048576: true; the input reads as it did. -/
def sampleHoldsUptoRow : OpenClaim := { program := "ytgfpkpiigkcndaagreat", sum := "78053d38038aa27b315e8c0505d290ce445b0fcc818edbaec9c8dbcd861f2690", func := "saccharum/saccharumlaw08.SampleHolds", spec := "sampleHolds", unfollowed := true, recurses := true, plainKeys := false, apart := false, narrowed := true }
def SampleHoldsUptoSaid : Prop := sampleHoldsUptoRow.holds Tryz.pinned (OpenSpec.upto sampleHoldsSpec)

/-- 'saccharumlaw08.SampleTells', WHERE WHAT IT READS IS OF BULK AT MOST 1048576: true; the input reads as it did. -/
def sampleTellsUptoRow : OpenClaim := { program := "ytgfpkpiigkcndaagreat", sum := "78053d38038aa27b315e8c0505d290ce445b0fcc818edbaec9c8dbcd861f2690", func := "saccharum/saccharumlaw08.SampleTells", spec := "sampleTells", unfollowed := true, recurses := true, plainKeys := false, apart := false, narrowed := true }
def SampleTellsUptoSaid : Prop := sampleTellsUptoRow.holds Tryz.pinned (OpenSpec.upto sampleTellsSpec)

/-- 'saccharumlaw08.SampleLeaves', WHERE WHAT IT READS IS OF BULK AT MOST 1048576: true; the input reads as it did. -/
def sampleLeavesUptoRow : OpenClaim := { program := "ytgfpkpiigkcndaagreat", sum := "78053d38038aa27b315e8c0505d290ce445b0fcc818edbaec9c8dbcd861f2690", func := "saccharum/saccharumlaw08.SampleLeaves", spec := "sampleLeaves", unfollowed := true, recurses := true, plainKeys := false, apart := false, narrowed := true }
def SampleLeavesUptoSaid : Prop := sampleLeavesUptoRow.holds Tryz.pinned (OpenSpec.upto sampleLeavesSpec)

/-- 'saccharumlaw08.SampleOpened', WHERE WHAT IT READS IS OF BULK AT MOST 1048576: true; the input reads as it did. -/
def sampleOpenedUptoRow : OpenClaim := { program := "ytgfpkpiigkcndaagreat", sum := "78053d38038aa27b315e8c0505d290ce445b0fcc818edbaec9c8dbcd861f2690", func := "saccharum/saccharumlaw08.SampleOpened", spec := "sampleOpened", unfollowed := true, recurses := true, plainKeys := false, apart := false, narrowed := true }
def SampleOpenedUptoSaid : Prop := sampleOpenedUptoRow.holds Tryz.pinned (OpenSpec.upto sampleOpenedSpec)

/-- 'saccharumlaw08.SampleSealed', WHERE WHAT IT READS IS OF BULK AT MOST 1048576: true; the input reads as it did. -/
def sampleSealedUptoRow : OpenClaim := { program := "ytgfpkpiigkcndaagreat", sum := "78053d38038aa27b315e8c0505d290ce445b0fcc818edbaec9c8dbcd861f2690", func := "saccharum/saccharumlaw08.SampleSealed", spec := "sampleSealed", unfollowed := true, recurses := true, plainKeys := false, apart := false, narrowed := true }
def SampleSealedUptoSaid : Prop := sampleSealedUptoRow.holds Tryz.pinned (OpenSpec.upto sampleSealedSpec)

/-- 'saccharumlaw08.SampleVerdicts', WHERE WHAT IT READS IS OF BULK AT MOST 1048576: true; the input reads as it did. -/
def sampleVerdictsUptoRow : OpenClaim := { program := "ytgfpkpiigkcndaagreat", sum := "78053d38038aa27b315e8c0505d290ce445b0fcc818edbaec9c8dbcd861f2690", func := "saccharum/saccharumlaw08.SampleVerdicts", spec := "sampleVerdicts", unfollowed := true, recurses := true, plainKeys := false, apart := false, narrowed := true }
def SampleVerdictsUptoSaid : Prop := sampleVerdictsUptoRow.holds Tryz.pinned (OpenSpec.upto sampleVerdictsSpec)

/-- 'saccharumlaw08.SampleMore', WHERE WHAT IT READS IS OF BULK AT MOST 1048576: true; the input reads as it did. -/
def sampleMoreUptoRow : OpenClaim := { program := "ytgfpkpiigkcndaagreat", sum := "78053d38038aa27b315e8c0505d290ce445b0fcc818edbaec9c8dbcd861f2690", func := "saccharum/saccharumlaw08.SampleMore", spec := "sampleMore", unfollowed := true, recurses := true, plainKeys := false, apart := false, narrowed := true }
def SampleMoreUptoSaid : Prop := sampleMoreUptoRow.holds Tryz.pinned (OpenSpec.upto sampleMoreSpec)

/-- 'saccharumlaw08.SampleWider', WHERE WHAT IT READS IS OF BULK AT MOST 1048576: true; the input reads as it did. -/
def sampleWiderUptoRow : OpenClaim := { program := "ytgfpkpiigkcndaagreat", sum := "78053d38038aa27b315e8c0505d290ce445b0fcc818edbaec9c8dbcd861f2690", func := "saccharum/saccharumlaw08.SampleWider", spec := "sampleWider", unfollowed := true, recurses := true, plainKeys := false, apart := false, narrowed := true }
def SampleWiderUptoSaid : Prop := sampleWiderUptoRow.holds Tryz.pinned (OpenSpec.upto sampleWiderSpec)

/-- 'saccharumlaw08.SampleApart', WHERE WHAT IT READS IS OF BULK AT MOST 1048576: true; the input reads as it did. -/
def sampleApartUptoRow : OpenClaim := { program := "ytgfpkpiigkcndaagreat", sum := "78053d38038aa27b315e8c0505d290ce445b0fcc818edbaec9c8dbcd861f2690", func := "saccharum/saccharumlaw08.SampleApart", spec := "sampleApart", unfollowed := true, recurses := true, plainKeys := false, apart := false, narrowed := true }
def SampleApartUptoSaid : Prop := sampleApartUptoRow.holds Tryz.pinned (OpenSpec.upto sampleApartSpec)

/-- 'saccharumlaw08.SamplePlays', WHERE WHAT IT READS IS OF BULK AT MOST 1048576: true; the input reads as it did. -/
def samplePlaysUptoRow : OpenClaim := { program := "ytgfpkpiigkcndaagreat", sum := "78053d38038aa27b315e8c0505d290ce445b0fcc818edbaec9c8dbcd861f2690", func := "saccharum/saccharumlaw08.SamplePlays", spec := "samplePlays", unfollowed := true, recurses := true, plainKeys := false, apart := false, narrowed := true }
def SamplePlaysUptoSaid : Prop := samplePlaysUptoRow.holds Tryz.pinned (OpenSpec.upto samplePlaysSpec)

/-- 'saccharumlaw08.SampleNames', WHERE WHAT IT READS IS OF BULK AT MOST 1048576: true; the input reads as it did. -/
def sampleNamesUptoRow : OpenClaim := { program := "ytgfpkpiigkcndaagreat", sum := "78053d38038aa27b315e8c0505d290ce445b0fcc818edbaec9c8dbcd861f2690", func := "saccharum/saccharumlaw08.SampleNames", spec := "sampleNames", unfollowed := true, recurses := true, plainKeys := false, apart := false, narrowed := true }
def SampleNamesUptoSaid : Prop := sampleNamesUptoRow.holds Tryz.pinned (OpenSpec.upto sampleNamesSpec)

/-- 'saccharumlaw08.SampleTruth', WHERE WHAT IT READS IS OF BULK AT MOST 1048576: true; the input reads as it did. -/
def sampleTruthUptoRow : OpenClaim := { program := "ytgfpkpiigkcndaagreat", sum := "78053d38038aa27b315e8c0505d290ce445b0fcc818edbaec9c8dbcd861f2690", func := "saccharum/saccharumlaw08.SampleTruth", spec := "sampleTruth", unfollowed := true, recurses := true, plainKeys := false, apart := false, narrowed := true }
def SampleTruthUptoSaid : Prop := sampleTruthUptoRow.holds Tryz.pinned (OpenSpec.upto sampleTruthSpec)

end Rows
end Go.Proofs.YtgfpkpiigkcndaaGreat
