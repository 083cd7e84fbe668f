/-
  No cell of these rows narrows 'for every input' (looked for: loops, veiled, ifaces, maps, wideKeys, modest, calm, conditions, laid).
  DERIVED. THE GIVEN ROWS OF THIS SEAT. 12 by the template 'for every input the law returns true; each argument reads behind the call as it read before'; 0 by the template 'total and deterministic' (their statements: YthoddembnkmldaaTotals.lean).
  GIVEN WITH THE SEED: the statements are not yours to turn. If you find one false, say at which input.
  Laid BY PROGRAM, IN A SANDBOX (cutbox-rows.mjs): the forced cells as the released guide's own fill.sh prints them over the translation 7e19cac8886bbe9b… (all of the seat's roots in one cut). By AI agents, Wed Nov 11 2026. No macro, syntax, notation, axiom, sorry.
-/
import Derived.Test.YthoddembnkmldaaChecked
import GoSem.Claim
import GoSem.ClaimJoined
import GoSem.ClaimMapViews
import Derived.JoinedTies
import Derived.KernelRfl
namespace Go.Proofs.Ythoddembnkmldaa
/- THE CELL 'sum', in the pinned program and in every row, IS THE sha256 OF THE DUMP (.gsa) THAT YthoddembnkmldaaProg.lean LOADS. Nothing in Lean hashes anything: it is a label: what it is worth is what the hold of that sum in a sandbox is worth. -/
noncomputable def Try.pinned : Pinned := { name := "ythoddembnkmldaa", sum := "7e19cac8886bbe9b46d08d7eab7376872628618945482230cdd4a77b728ba4ef", checked := Try.checked }
namespace Rows
def none {H : Type} : Left H := { results := [], args := [] }

/-- 'laws.FnExactConstants': WHATEVER THE INPUT: true; the input reads as it did. -/
def fnExactConstantsSpec : ChangeSpec := { name := "fnExactConstants", fn := fun _ => fun
  | [] => { results := [.lit (.bool true)], args := [] }
  | _ => none }
def fnExactConstantsRow : OpenClaim := { program := "ythoddembnkmldaa", sum := "7e19cac8886bbe9b46d08d7eab7376872628618945482230cdd4a77b728ba4ef", func := "loop.example/g01239/laws.FnExactConstants", spec := "fnExactConstants", apart := false }
def FnExactConstantsSaid : Prop := fnExactConstantsRow.holds Try.pinned (OpenSpec.ofChange fnExactConstantsSpec)

/-- ITS FALSE NEIGHBOUR: 'it returns false'. Refute it at one input. -/
def fnExactConstantsWrong : ChangeSpec := { name := "fnExactConstants", fn := fun _ => fun
  | [] => { results := [.lit (.bool false)], args := [] }
  | _ => none }
def FnExactConstantsWrongFalsely : Prop := fnExactConstantsRow.holds Try.pinned (OpenSpec.ofChange fnExactConstantsWrong)

/-- 'laws.FnExactIsLeaper': WHATEVER THE INPUT: true; the input reads as it did. -/
def fnExactIsLeaperSpec : ChangeSpec := { name := "fnExactIsLeaper", fn := fun _ => fun
  | [d] => { results := [.lit (.bool true)], args := [d] }
  | _ => none }
def fnExactIsLeaperRow : OpenClaim := { program := "ythoddembnkmldaa", sum := "7e19cac8886bbe9b46d08d7eab7376872628618945482230cdd4a77b728ba4ef", func := "loop.example/g01239/laws.FnExactIsLeaper", spec := "fnExactIsLeaper", apart := false }
def FnExactIsLeaperSaid : Prop := fnExactIsLeaperRow.holds Try.pinned (OpenSpec.ofChange fnExactIsLeaperSpec)

/-- ITS FALSE NEIGHBOUR: 'it returns false'. Refute it at one input. -/
def fnExactIsLeaperWrong : ChangeSpec := { name := "fnExactIsLeaper", fn := fun _ => fun
  | [d] => { results := [.lit (.bool false)], args := [d] }
  | _ => none }
def FnExactIsLeaperWrongFalsely : Prop := fnExactIsLeaperRow.holds Try.pinned (OpenSpec.ofChange fnExactIsLeaperWrong)

/-- 'laws.FnExactIsAround': WHATEVER THE INPUT: true; the input reads as it did. -/
def fnExactIsAroundSpec : ChangeSpec := { name := "fnExactIsAround", fn := fun _ => fun
  | [d] => { results := [.lit (.bool true)], args := [d] }
  | _ => none }
def fnExactIsAroundRow : OpenClaim := { program := "ythoddembnkmldaa", sum := "7e19cac8886bbe9b46d08d7eab7376872628618945482230cdd4a77b728ba4ef", func := "loop.example/g01239/laws.FnExactIsAround", spec := "fnExactIsAround", apart := false }
def FnExactIsAroundSaid : Prop := fnExactIsAroundRow.holds Try.pinned (OpenSpec.ofChange fnExactIsAroundSpec)

/-- ITS FALSE NEIGHBOUR: 'it returns false'. Refute it at one input. -/
def fnExactIsAroundWrong : ChangeSpec := { name := "fnExactIsAround", fn := fun _ => fun
  | [d] => { results := [.lit (.bool false)], args := [d] }
  | _ => none }
def FnExactIsAroundWrongFalsely : Prop := fnExactIsAroundRow.holds Try.pinned (OpenSpec.ofChange fnExactIsAroundWrong)

/-- 'laws.FnExactChangesColour': WHATEVER THE INPUT: true; the input reads as it did. -/
def fnExactChangesColourSpec : ChangeSpec := { name := "fnExactChangesColour", fn := fun _ => fun
  | [d] => { results := [.lit (.bool true)], args := [d] }
  | _ => none }
def fnExactChangesColourRow : OpenClaim := { program := "ythoddembnkmldaa", sum := "7e19cac8886bbe9b46d08d7eab7376872628618945482230cdd4a77b728ba4ef", func := "loop.example/g01239/laws.FnExactChangesColour", spec := "fnExactChangesColour", apart := false }
def FnExactChangesColourSaid : Prop := fnExactChangesColourRow.holds Try.pinned (OpenSpec.ofChange fnExactChangesColourSpec)

/-- ITS FALSE NEIGHBOUR: 'it returns false'. Refute it at one input. -/
def fnExactChangesColourWrong : ChangeSpec := { name := "fnExactChangesColour", fn := fun _ => fun
  | [d] => { results := [.lit (.bool false)], args := [d] }
  | _ => none }
def FnExactChangesColourWrongFalsely : Prop := fnExactChangesColourRow.holds Try.pinned (OpenSpec.ofChange fnExactChangesColourWrong)

/-- 'laws.FnExactCommonStep': WHATEVER THE INPUT: true; the input reads as it did. -/
def fnExactCommonStepSpec : ChangeSpec := { name := "fnExactCommonStep", fn := fun _ => fun
  | [d] => { results := [.lit (.bool true)], args := [d] }
  | _ => none }
def fnExactCommonStepRow : OpenClaim := { program := "ythoddembnkmldaa", sum := "7e19cac8886bbe9b46d08d7eab7376872628618945482230cdd4a77b728ba4ef", func := "loop.example/g01239/laws.FnExactCommonStep", spec := "fnExactCommonStep", apart := false }
def FnExactCommonStepSaid : Prop := fnExactCommonStepRow.holds Try.pinned (OpenSpec.ofChange fnExactCommonStepSpec)

/-- ITS FALSE NEIGHBOUR: 'it returns false'. Refute it at one input. -/
def fnExactCommonStepWrong : ChangeSpec := { name := "fnExactCommonStep", fn := fun _ => fun
  | [d] => { results := [.lit (.bool false)], args := [d] }
  | _ => none }
def FnExactCommonStepWrongFalsely : Prop := fnExactCommonStepRow.holds Try.pinned (OpenSpec.ofChange fnExactCommonStepWrong)

/-- 'laws.FnExactReachesAll': WHATEVER THE INPUT: true; the input reads as it did. -/
def fnExactReachesAllSpec : ChangeSpec := { name := "fnExactReachesAll", fn := fun _ => fun
  | [d] => { results := [.lit (.bool true)], args := [d] }
  | _ => none }
def fnExactReachesAllRow : OpenClaim := { program := "ythoddembnkmldaa", sum := "7e19cac8886bbe9b46d08d7eab7376872628618945482230cdd4a77b728ba4ef", func := "loop.example/g01239/laws.FnExactReachesAll", spec := "fnExactReachesAll", apart := false }
def FnExactReachesAllSaid : Prop := fnExactReachesAllRow.holds Try.pinned (OpenSpec.ofChange fnExactReachesAllSpec)

/-- ITS FALSE NEIGHBOUR: 'it returns false'. Refute it at one input. -/
def fnExactReachesAllWrong : ChangeSpec := { name := "fnExactReachesAll", fn := fun _ => fun
  | [d] => { results := [.lit (.bool false)], args := [d] }
  | _ => none }
def FnExactReachesAllWrongFalsely : Prop := fnExactReachesAllRow.holds Try.pinned (OpenSpec.ofChange fnExactReachesAllWrong)

/-- 'laws.FnExactCanReachFar': WHATEVER THE INPUT: true; the input reads as it did. -/
def fnExactCanReachFarSpec : ChangeSpec := { name := "fnExactCanReachFar", fn := fun _ => fun
  | [d1, d2, d3] => { results := [.lit (.bool true)], args := [d1, d2, d3] }
  | _ => none }
def fnExactCanReachFarRow : OpenClaim := { program := "ythoddembnkmldaa", sum := "7e19cac8886bbe9b46d08d7eab7376872628618945482230cdd4a77b728ba4ef", func := "loop.example/g01239/laws.FnExactCanReachFar", spec := "fnExactCanReachFar", apart := false }
def FnExactCanReachFarSaid : Prop := fnExactCanReachFarRow.holds Try.pinned (OpenSpec.ofChange fnExactCanReachFarSpec)

/-- ITS FALSE NEIGHBOUR: 'it returns false'. Refute it at one input. -/
def fnExactCanReachFarWrong : ChangeSpec := { name := "fnExactCanReachFar", fn := fun _ => fun
  | [d1, d2, d3] => { results := [.lit (.bool false)], args := [d1, d2, d3] }
  | _ => none }
def FnExactCanReachFarWrongFalsely : Prop := fnExactCanReachFarRow.holds Try.pinned (OpenSpec.ofChange fnExactCanReachFarWrong)

/-- 'laws.FnExactCountPlainLeaps': WHATEVER THE INPUT: true; the input reads as it did. -/
def fnExactCountPlainLeapsSpec : ChangeSpec := { name := "fnExactCountPlainLeaps", fn := fun _ => fun
  | [d1, d2, d3] => { results := [.lit (.bool true)], args := [d1, d2, d3] }
  | _ => none }
def fnExactCountPlainLeapsRow : OpenClaim := { program := "ythoddembnkmldaa", sum := "7e19cac8886bbe9b46d08d7eab7376872628618945482230cdd4a77b728ba4ef", func := "loop.example/g01239/laws.FnExactCountPlainLeaps", spec := "fnExactCountPlainLeaps", apart := false }
def FnExactCountPlainLeapsSaid : Prop := fnExactCountPlainLeapsRow.holds Try.pinned (OpenSpec.ofChange fnExactCountPlainLeapsSpec)

/-- ITS FALSE NEIGHBOUR: 'it returns false'. Refute it at one input. -/
def fnExactCountPlainLeapsWrong : ChangeSpec := { name := "fnExactCountPlainLeaps", fn := fun _ => fun
  | [d1, d2, d3] => { results := [.lit (.bool false)], args := [d1, d2, d3] }
  | _ => none }
def FnExactCountPlainLeapsWrongFalsely : Prop := fnExactCountPlainLeapsRow.holds Try.pinned (OpenSpec.ofChange fnExactCountPlainLeapsWrong)

/-- 'laws.FnExactStepAround': WHATEVER THE INPUT: true; the input reads as it did. -/
def fnExactStepAroundSpec : ChangeSpec := { name := "fnExactStepAround", fn := fun _ => fun
  | [d1, d2, d3, d4] => { results := [.lit (.bool true)], args := [d1, d2, d3, d4] }
  | _ => none }
def fnExactStepAroundRow : OpenClaim := { program := "ythoddembnkmldaa", sum := "7e19cac8886bbe9b46d08d7eab7376872628618945482230cdd4a77b728ba4ef", func := "loop.example/g01239/laws.FnExactStepAround", spec := "fnExactStepAround", apart := false }
def FnExactStepAroundSaid : Prop := fnExactStepAroundRow.holds Try.pinned (OpenSpec.ofChange fnExactStepAroundSpec)

/-- ITS FALSE NEIGHBOUR: 'it returns false'. Refute it at one input. -/
def fnExactStepAroundWrong : ChangeSpec := { name := "fnExactStepAround", fn := fun _ => fun
  | [d1, d2, d3, d4] => { results := [.lit (.bool false)], args := [d1, d2, d3, d4] }
  | _ => none }
def FnExactStepAroundWrongFalsely : Prop := fnExactStepAroundRow.holds Try.pinned (OpenSpec.ofChange fnExactStepAroundWrong)

/-- 'laws.FnExactPlainBoard': WHATEVER THE INPUT: true; the input reads as it did. -/
def fnExactPlainBoardSpec : ChangeSpec := { name := "fnExactPlainBoard", fn := fun _ => fun
  | [d1, d2] => { results := [.lit (.bool true)], args := [d1, d2] }
  | _ => none }
def fnExactPlainBoardRow : OpenClaim := { program := "ythoddembnkmldaa", sum := "7e19cac8886bbe9b46d08d7eab7376872628618945482230cdd4a77b728ba4ef", func := "loop.example/g01239/laws.FnExactPlainBoard", spec := "fnExactPlainBoard", apart := false }
def FnExactPlainBoardSaid : Prop := fnExactPlainBoardRow.holds Try.pinned (OpenSpec.ofChange fnExactPlainBoardSpec)

/-- ITS FALSE NEIGHBOUR: 'it returns false'. Refute it at one input. -/
def fnExactPlainBoardWrong : ChangeSpec := { name := "fnExactPlainBoard", fn := fun _ => fun
  | [d1, d2] => { results := [.lit (.bool false)], args := [d1, d2] }
  | _ => none }
def FnExactPlainBoardWrongFalsely : Prop := fnExactPlainBoardRow.holds Try.pinned (OpenSpec.ofChange fnExactPlainBoardWrong)

/-- 'laws.FnExactDoesPaint': WHATEVER THE INPUT: true; the input reads as it did. -/
def fnExactDoesPaintSpec : ChangeSpec := { name := "fnExactDoesPaint", fn := fun _ => fun
  | [d1, d2, d3, d4] => { results := [.lit (.bool true)], args := [d1, d2, d3, d4] }
  | _ => none }
def fnExactDoesPaintRow : OpenClaim := { program := "ythoddembnkmldaa", sum := "7e19cac8886bbe9b46d08d7eab7376872628618945482230cdd4a77b728ba4ef", func := "loop.example/g01239/laws.FnExactDoesPaint", spec := "fnExactDoesPaint", apart := false }
def FnExactDoesPaintSaid : Prop := fnExactDoesPaintRow.holds Try.pinned (OpenSpec.ofChange fnExactDoesPaintSpec)

/-- ITS FALSE NEIGHBOUR: 'it returns false'. Refute it at one input. -/
def fnExactDoesPaintWrong : ChangeSpec := { name := "fnExactDoesPaint", fn := fun _ => fun
  | [d1, d2, d3, d4] => { results := [.lit (.bool false)], args := [d1, d2, d3, d4] }
  | _ => none }
def FnExactDoesPaintWrongFalsely : Prop := fnExactDoesPaintRow.holds Try.pinned (OpenSpec.ofChange fnExactDoesPaintWrong)

/-- 'laws.FnExactOrbitLength': WHATEVER THE INPUT: true; the input reads as it did. -/
def fnExactOrbitLengthSpec : ChangeSpec := { name := "fnExactOrbitLength", fn := fun _ => fun
  | [d1, d2, d3] => { results := [.lit (.bool true)], args := [d1, d2, d3] }
  | _ => none }
def fnExactOrbitLengthRow : OpenClaim := { program := "ythoddembnkmldaa", sum := "7e19cac8886bbe9b46d08d7eab7376872628618945482230cdd4a77b728ba4ef", func := "loop.example/g01239/laws.FnExactOrbitLength", spec := "fnExactOrbitLength", apart := false }
def FnExactOrbitLengthSaid : Prop := fnExactOrbitLengthRow.holds Try.pinned (OpenSpec.ofChange fnExactOrbitLengthSpec)

/-- ITS FALSE NEIGHBOUR: 'it returns false'. Refute it at one input. -/
def fnExactOrbitLengthWrong : ChangeSpec := { name := "fnExactOrbitLength", fn := fun _ => fun
  | [d1, d2, d3] => { results := [.lit (.bool false)], args := [d1, d2, d3] }
  | _ => none }
def FnExactOrbitLengthWrongFalsely : Prop := fnExactOrbitLengthRow.holds Try.pinned (OpenSpec.ofChange fnExactOrbitLengthWrong)

/- THE SECOND FORM. 'bulk': how many values and letters a reading holds, each counted each time it is reached (what is shared counts as often as it is met; a slice's spare places count too). A statement '..UptoSaid' is the law's where the arguments, and the package variables that the reading takes, are together of bulk at most 1048576: NARROWER than '..Said'. Prove '..Said' where nothing that the law and all that it calls make is longer than what came in: it says more and counts as full. Else prove '..UptoSaid'. A law counts once. -/
mutual
def uptoBulk {H : Type} : DataW H → Nat
  | .lit (.string bytes) => bytes.length + 1
  | .lit _ => 1
  | .nil => 1
  | .ptr d => uptoBulk d + 1
  | .slice elems spare => uptoBulkAll elems + uptoBulkAll spare + 1
  | .agg parts => uptoBulkAll parts + 1
  | .iface _ d => uptoBulk d + 1
  | .map entries => uptoBulkEntries entries + 1
  | .held _ => 1
def uptoBulkAll {H : Type} : List (DataW H) → Nat
  | [] => 0
  | d :: r => uptoBulk d + uptoBulkAll r
def uptoBulkEntries {H : Type} : List (Lit × DataW H) → Nat
  | [] => 0
  | x :: r => uptoBulkEntry x + uptoBulkEntries r
def uptoBulkEntry {H : Type} : Lit × DataW H → Nat
  | (.string bytes, d) => bytes.length + uptoBulk d + 1
  | (_, d) => uptoBulk d + 1
 end
def uptoSmall : (H : Type) → List (DataW H) → Bool := fun _ ds => decide (uptoBulkAll ds ≤ 1048576)
def OpenSpec.upto (s : _root_.Go.ChangeSpec) : _root_.Go.OpenSpec := { _root_.Go.OpenSpec.ofChange s with cond := some uptoSmall }

/-- 'laws.FnExactConstants', WHERE WHAT IT READS IS OF BULK AT MOST 1048576: true; the input reads as it did. -/
def fnExactConstantsUptoRow : OpenClaim := { program := "ythoddembnkmldaa", sum := "7e19cac8886bbe9b46d08d7eab7376872628618945482230cdd4a77b728ba4ef", func := "loop.example/g01239/laws.FnExactConstants", spec := "fnExactConstants", apart := false, narrowed := true }
def FnExactConstantsUptoSaid : Prop := fnExactConstantsUptoRow.holds Try.pinned (OpenSpec.upto fnExactConstantsSpec)

/-- 'laws.FnExactIsLeaper', WHERE WHAT IT READS IS OF BULK AT MOST 1048576: true; the input reads as it did. -/
def fnExactIsLeaperUptoRow : OpenClaim := { program := "ythoddembnkmldaa", sum := "7e19cac8886bbe9b46d08d7eab7376872628618945482230cdd4a77b728ba4ef", func := "loop.example/g01239/laws.FnExactIsLeaper", spec := "fnExactIsLeaper", apart := false, narrowed := true }
def FnExactIsLeaperUptoSaid : Prop := fnExactIsLeaperUptoRow.holds Try.pinned (OpenSpec.upto fnExactIsLeaperSpec)

/-- 'laws.FnExactIsAround', WHERE WHAT IT READS IS OF BULK AT MOST 1048576: true; the input reads as it did. -/
def fnExactIsAroundUptoRow : OpenClaim := { program := "ythoddembnkmldaa", sum := "7e19cac8886bbe9b46d08d7eab7376872628618945482230cdd4a77b728ba4ef", func := "loop.example/g01239/laws.FnExactIsAround", spec := "fnExactIsAround", apart := false, narrowed := true }
def FnExactIsAroundUptoSaid : Prop := fnExactIsAroundUptoRow.holds Try.pinned (OpenSpec.upto fnExactIsAroundSpec)

/-- 'laws.FnExactChangesColour', WHERE WHAT IT READS IS OF BULK AT MOST 1048576: true; the input reads as it did. -/
def fnExactChangesColourUptoRow : OpenClaim := { program := "ythoddembnkmldaa", sum := "7e19cac8886bbe9b46d08d7eab7376872628618945482230cdd4a77b728ba4ef", func := "loop.example/g01239/laws.FnExactChangesColour", spec := "fnExactChangesColour", apart := false, narrowed := true }
def FnExactChangesColourUptoSaid : Prop := fnExactChangesColourUptoRow.holds Try.pinned (OpenSpec.upto fnExactChangesColourSpec)

/-- 'laws.FnExactCommonStep', WHERE WHAT IT READS IS OF BULK AT MOST 1048576: true; the input reads as it did. -/
def fnExactCommonStepUptoRow : OpenClaim := { program := "ythoddembnkmldaa", sum := "7e19cac8886bbe9b46d08d7eab7376872628618945482230cdd4a77b728ba4ef", func := "loop.example/g01239/laws.FnExactCommonStep", spec := "fnExactCommonStep", apart := false, narrowed := true }
def FnExactCommonStepUptoSaid : Prop := fnExactCommonStepUptoRow.holds Try.pinned (OpenSpec.upto fnExactCommonStepSpec)

/-- 'laws.FnExactReachesAll', WHERE WHAT IT READS IS OF BULK AT MOST 1048576: true; the input reads as it did. -/
def fnExactReachesAllUptoRow : OpenClaim := { program := "ythoddembnkmldaa", sum := "7e19cac8886bbe9b46d08d7eab7376872628618945482230cdd4a77b728ba4ef", func := "loop.example/g01239/laws.FnExactReachesAll", spec := "fnExactReachesAll", apart := false, narrowed := true }
def FnExactReachesAllUptoSaid : Prop := fnExactReachesAllUptoRow.holds Try.pinned (OpenSpec.upto fnExactReachesAllSpec)

/-- 'laws.FnExactCanReachFar', WHERE WHAT IT READS IS OF BULK AT MOST 1048576: true; the input reads as it did. -/
def fnExactCanReachFarUptoRow : OpenClaim := { program := "ythoddembnkmldaa", sum := "7e19cac8886bbe9b46d08d7eab7376872628618945482230cdd4a77b728ba4ef", func := "loop.example/g01239/laws.FnExactCanReachFar", spec := "fnExactCanReachFar", apart := false, narrowed := true }
def FnExactCanReachFarUptoSaid : Prop := fnExactCanReachFarUptoRow.holds Try.pinned (OpenSpec.upto fnExactCanReachFarSpec)

/-- 'laws.FnExactCountPlainLeaps', WHERE WHAT IT READS IS OF BULK AT MOST 1048576: true; the input reads as it did. -/
def fnExactCountPlainLeapsUptoRow : OpenClaim := { program := "ythoddembnkmldaa", sum := "7e19cac8886bbe9b46d08d7eab7376872628618945482230cdd4a77b728ba4ef", func := "loop.example/g01239/laws.FnExactCountPlainLeaps", spec := "fnExactCountPlainLeaps", apart := false, narrowed := true }
def FnExactCountPlainLeapsUptoSaid : Prop := fnExactCountPlainLeapsUptoRow.holds Try.pinned (OpenSpec.upto fnExactCountPlainLeapsSpec)

/-- 'laws.FnExactStepAround', WHERE WHAT IT READS IS OF BULK AT MOST 1048576: true; the input reads as it did. -/
def fnExactStepAroundUptoRow : OpenClaim := { program := "ythoddembnkmldaa", sum := "7e19cac8886bbe9b46d08d7eab7376872628618945482230cdd4a77b728ba4ef", func := "loop.example/g01239/laws.FnExactStepAround", spec := "fnExactStepAround", apart := false, narrowed := true }
def FnExactStepAroundUptoSaid : Prop := fnExactStepAroundUptoRow.holds Try.pinned (OpenSpec.upto fnExactStepAroundSpec)

/-- 'laws.FnExactPlainBoard', WHERE WHAT IT READS IS OF BULK AT MOST 1048576: true; the input reads as it did. -/
def fnExactPlainBoardUptoRow : OpenClaim := { program := "ythoddembnkmldaa", sum := "7e19cac8886bbe9b46d08d7eab7376872628618945482230cdd4a77b728ba4ef", func := "loop.example/g01239/laws.FnExactPlainBoard", spec := "fnExactPlainBoard", apart := false, narrowed := true }
def FnExactPlainBoardUptoSaid : Prop := fnExactPlainBoardUptoRow.holds Try.pinned (OpenSpec.upto fnExactPlainBoardSpec)

/-- 'laws.FnExactDoesPaint', WHERE WHAT IT READS IS OF BULK AT MOST 1048576: true; the input reads as it did. -/
def fnExactDoesPaintUptoRow : OpenClaim := { program := "ythoddembnkmldaa", sum := "7e19cac8886bbe9b46d08d7eab7376872628618945482230cdd4a77b728ba4ef", func := "loop.example/g01239/laws.FnExactDoesPaint", spec := "fnExactDoesPaint", apart := false, narrowed := true }
def FnExactDoesPaintUptoSaid : Prop := fnExactDoesPaintUptoRow.holds Try.pinned (OpenSpec.upto fnExactDoesPaintSpec)

/-- 'laws.FnExactOrbitLength', WHERE WHAT IT READS IS OF BULK AT MOST 1048576: true; the input reads as it did. -/
def fnExactOrbitLengthUptoRow : OpenClaim := { program := "ythoddembnkmldaa", sum := "7e19cac8886bbe9b46d08d7eab7376872628618945482230cdd4a77b728ba4ef", func := "loop.example/g01239/laws.FnExactOrbitLength", spec := "fnExactOrbitLength", apart := false, narrowed := true }
def FnExactOrbitLengthUptoSaid : Prop := fnExactOrbitLengthUptoRow.holds Try.pinned (OpenSpec.upto fnExactOrbitLengthSpec)

end Rows
end Go.Proofs.Ythoddembnkmldaa
