/-
  No cell of these rows narrows 'for every input' (looked for: loops, veiled, ifaces, maps, wideKeys, modest, calm, conditions, laid).
  DERIVED. THE GIVEN ROWS OF THIS SEAT. 12 by the template 'for every input the law returns true; each argument reads behind the call as it read before'; 0 by the template 'total and deterministic' (their statements: YtebaenenphckbaaTotals.lean).
  GIVEN WITH THE SEED: the statements are not yours to turn. If you find one false, say at which input.
  Laid BY PROGRAM, IN A SANDBOX (cutbox-rows.mjs): the forced cells as the released guide's own fill.sh prints them over the translation f8cac22303a8283f… (all of the seat's roots in one cut). By AI agents, Wed Nov 11 2026. No macro, syntax, notation, axiom, sorry.
-/
import Derived.Test.YtebaenenphckbaaChecked
import GoSem.Claim
import GoSem.ClaimJoined
import GoSem.ClaimMapViews
import Derived.JoinedTies
import Derived.KernelRfl
namespace Go.Proofs.Ytebaenenphckbaa
/- THE CELL 'sum', in the pinned program and in every row, IS THE sha256 OF THE DUMP (.gsa) THAT YtebaenenphckbaaProg.lean LOADS. Nothing in Lean hashes anything: it is a label: what it is worth is what the hold of that sum in a sandbox is worth. -/
noncomputable def Try.pinned : Pinned := { name := "ytebaenenphckbaa", sum := "f8cac22303a8283f725b45684e6ebfd3dd60870e2fce52db23bc582e30c9bbbd", checked := Try.checked }
namespace Rows
def none {H : Type} : Left H := { results := [], args := [] }

/-- 'laws.FnExactCountOrbits': WHATEVER THE INPUT: true; the input reads as it did. -/
def fnExactCountOrbitsSpec : ChangeSpec := { name := "fnExactCountOrbits", fn := fun _ => fun
  | [d1, d2, d3] => { results := [.lit (.bool true)], args := [d1, d2, d3] }
  | _ => none }
def fnExactCountOrbitsRow : OpenClaim := { program := "ytebaenenphckbaa", sum := "f8cac22303a8283f725b45684e6ebfd3dd60870e2fce52db23bc582e30c9bbbd", func := "loop.example/g01239/laws.FnExactCountOrbits", spec := "fnExactCountOrbits", apart := false }
def FnExactCountOrbitsSaid : Prop := fnExactCountOrbitsRow.holds Try.pinned (OpenSpec.ofChange fnExactCountOrbitsSpec)

/-- ITS FALSE NEIGHBOUR: 'it returns false'. Refute it at one input. -/
def fnExactCountOrbitsWrong : ChangeSpec := { name := "fnExactCountOrbits", fn := fun _ => fun
  | [d1, d2, d3] => { results := [.lit (.bool false)], args := [d1, d2, d3] }
  | _ => none }
def FnExactCountOrbitsWrongFalsely : Prop := fnExactCountOrbitsRow.holds Try.pinned (OpenSpec.ofChange fnExactCountOrbitsWrong)

/-- 'laws.FnExactIsBoard': WHATEVER THE INPUT: true; the input reads as it did. -/
def fnExactIsBoardSpec : ChangeSpec := { name := "fnExactIsBoard", fn := fun _ => fun
  | [d] => { results := [.lit (.bool true)], args := [d] }
  | _ => none }
def fnExactIsBoardRow : OpenClaim := { program := "ytebaenenphckbaa", sum := "f8cac22303a8283f725b45684e6ebfd3dd60870e2fce52db23bc582e30c9bbbd", func := "loop.example/g01239/laws.FnExactIsBoard", spec := "fnExactIsBoard", apart := false }
def FnExactIsBoardSaid : Prop := fnExactIsBoardRow.holds Try.pinned (OpenSpec.ofChange fnExactIsBoardSpec)

/-- ITS FALSE NEIGHBOUR: 'it returns false'. Refute it at one input. -/
def fnExactIsBoardWrong : ChangeSpec := { name := "fnExactIsBoard", fn := fun _ => fun
  | [d] => { results := [.lit (.bool false)], args := [d] }
  | _ => none }
def FnExactIsBoardWrongFalsely : Prop := fnExactIsBoardRow.holds Try.pinned (OpenSpec.ofChange fnExactIsBoardWrong)

/-- 'laws.FnExactOrbitOf': WHATEVER THE INPUT: true; the input reads as it did. -/
def fnExactOrbitOfSpec : ChangeSpec := { name := "fnExactOrbitOf", fn := fun _ => fun
  | [d1, d2, d3, d4] => { results := [.lit (.bool true)], args := [d1, d2, d3, d4] }
  | _ => none }
def fnExactOrbitOfRow : OpenClaim := { program := "ytebaenenphckbaa", sum := "f8cac22303a8283f725b45684e6ebfd3dd60870e2fce52db23bc582e30c9bbbd", func := "loop.example/g01239/laws.FnExactOrbitOf", spec := "fnExactOrbitOf", apart := false }
def FnExactOrbitOfSaid : Prop := fnExactOrbitOfRow.holds Try.pinned (OpenSpec.ofChange fnExactOrbitOfSpec)

/-- ITS FALSE NEIGHBOUR: 'it returns false'. Refute it at one input. -/
def fnExactOrbitOfWrong : ChangeSpec := { name := "fnExactOrbitOf", fn := fun _ => fun
  | [d1, d2, d3, d4] => { results := [.lit (.bool false)], args := [d1, d2, d3, d4] }
  | _ => none }
def FnExactOrbitOfWrongFalsely : Prop := fnExactOrbitOfRow.holds Try.pinned (OpenSpec.ofChange fnExactOrbitOfWrong)

/-- 'laws.FnExactStepsOf': WHATEVER THE INPUT: true; the input reads as it did. -/
def fnExactStepsOfSpec : ChangeSpec := { name := "fnExactStepsOf", fn := fun _ => fun
  | [d] => { results := [.lit (.bool true)], args := [d] }
  | _ => none }
def fnExactStepsOfRow : OpenClaim := { program := "ytebaenenphckbaa", sum := "f8cac22303a8283f725b45684e6ebfd3dd60870e2fce52db23bc582e30c9bbbd", func := "loop.example/g01239/laws.FnExactStepsOf", spec := "fnExactStepsOf", apart := false }
def FnExactStepsOfSaid : Prop := fnExactStepsOfRow.holds Try.pinned (OpenSpec.ofChange fnExactStepsOfSpec)

/-- ITS FALSE NEIGHBOUR: 'it returns false'. Refute it at one input. -/
def fnExactStepsOfWrong : ChangeSpec := { name := "fnExactStepsOf", fn := fun _ => fun
  | [d] => { results := [.lit (.bool false)], args := [d] }
  | _ => none }
def FnExactStepsOfWrongFalsely : Prop := fnExactStepsOfRow.holds Try.pinned (OpenSpec.ofChange fnExactStepsOfWrong)

/-- 'laws.FnExactCountCells': WHATEVER THE INPUT: true; the input reads as it did. -/
def fnExactCountCellsSpec : ChangeSpec := { name := "fnExactCountCells", fn := fun _ => fun
  | [d] => { results := [.lit (.bool true)], args := [d] }
  | _ => none }
def fnExactCountCellsRow : OpenClaim := { program := "ytebaenenphckbaa", sum := "f8cac22303a8283f725b45684e6ebfd3dd60870e2fce52db23bc582e30c9bbbd", func := "loop.example/g01239/laws.FnExactCountCells", spec := "fnExactCountCells", apart := false }
def FnExactCountCellsSaid : Prop := fnExactCountCellsRow.holds Try.pinned (OpenSpec.ofChange fnExactCountCellsSpec)

/-- ITS FALSE NEIGHBOUR: 'it returns false'. Refute it at one input. -/
def fnExactCountCellsWrong : ChangeSpec := { name := "fnExactCountCells", fn := fun _ => fun
  | [d] => { results := [.lit (.bool false)], args := [d] }
  | _ => none }
def FnExactCountCellsWrongFalsely : Prop := fnExactCountCellsRow.holds Try.pinned (OpenSpec.ofChange fnExactCountCellsWrong)

/-- 'laws.FnExactLeapsFar': WHATEVER THE INPUT: true; the input reads as it did. -/
def fnExactLeapsFarSpec : ChangeSpec := { name := "fnExactLeapsFar", fn := fun _ => fun
  | [d1, d2, d3] => { results := [.lit (.bool true)], args := [d1, d2, d3] }
  | _ => none }
def fnExactLeapsFarRow : OpenClaim := { program := "ytebaenenphckbaa", sum := "f8cac22303a8283f725b45684e6ebfd3dd60870e2fce52db23bc582e30c9bbbd", func := "loop.example/g01239/laws.FnExactLeapsFar", spec := "fnExactLeapsFar", apart := false }
def FnExactLeapsFarSaid : Prop := fnExactLeapsFarRow.holds Try.pinned (OpenSpec.ofChange fnExactLeapsFarSpec)

/-- ITS FALSE NEIGHBOUR: 'it returns false'. Refute it at one input. -/
def fnExactLeapsFarWrong : ChangeSpec := { name := "fnExactLeapsFar", fn := fun _ => fun
  | [d1, d2, d3] => { results := [.lit (.bool false)], args := [d1, d2, d3] }
  | _ => none }
def FnExactLeapsFarWrongFalsely : Prop := fnExactLeapsFarRow.holds Try.pinned (OpenSpec.ofChange fnExactLeapsFarWrong)

/-- 'laws.FnExactHasCell': WHATEVER THE INPUT: true; the input reads as it did. -/
def fnExactHasCellSpec : ChangeSpec := { name := "fnExactHasCell", fn := fun _ => fun
  | [d1, d2] => { results := [.lit (.bool true)], args := [d1, d2] }
  | _ => none }
def fnExactHasCellRow : OpenClaim := { program := "ytebaenenphckbaa", sum := "f8cac22303a8283f725b45684e6ebfd3dd60870e2fce52db23bc582e30c9bbbd", func := "loop.example/g01239/laws.FnExactHasCell", spec := "fnExactHasCell", apart := false }
def FnExactHasCellSaid : Prop := fnExactHasCellRow.holds Try.pinned (OpenSpec.ofChange fnExactHasCellSpec)

/-- ITS FALSE NEIGHBOUR: 'it returns false'. Refute it at one input. -/
def fnExactHasCellWrong : ChangeSpec := { name := "fnExactHasCell", fn := fun _ => fun
  | [d1, d2] => { results := [.lit (.bool false)], args := [d1, d2] }
  | _ => none }
def FnExactHasCellWrongFalsely : Prop := fnExactHasCellRow.holds Try.pinned (OpenSpec.ofChange fnExactHasCellWrong)

/-- 'laws.FnExactMirrorCell': WHATEVER THE INPUT: true; the input reads as it did. -/
def fnExactMirrorCellSpec : ChangeSpec := { name := "fnExactMirrorCell", fn := fun _ => fun
  | [d1, d2] => { results := [.lit (.bool true)], args := [d1, d2] }
  | _ => none }
def fnExactMirrorCellRow : OpenClaim := { program := "ytebaenenphckbaa", sum := "f8cac22303a8283f725b45684e6ebfd3dd60870e2fce52db23bc582e30c9bbbd", func := "loop.example/g01239/laws.FnExactMirrorCell", spec := "fnExactMirrorCell", apart := false }
def FnExactMirrorCellSaid : Prop := fnExactMirrorCellRow.holds Try.pinned (OpenSpec.ofChange fnExactMirrorCellSpec)

/-- ITS FALSE NEIGHBOUR: 'it returns false'. Refute it at one input. -/
def fnExactMirrorCellWrong : ChangeSpec := { name := "fnExactMirrorCell", fn := fun _ => fun
  | [d1, d2] => { results := [.lit (.bool false)], args := [d1, d2] }
  | _ => none }
def FnExactMirrorCellWrongFalsely : Prop := fnExactMirrorCellRow.holds Try.pinned (OpenSpec.ofChange fnExactMirrorCellWrong)

/-- 'laws.FnExactTurnCell': WHATEVER THE INPUT: true; the input reads as it did. -/
def fnExactTurnCellSpec : ChangeSpec := { name := "fnExactTurnCell", fn := fun _ => fun
  | [d1, d2] => { results := [.lit (.bool true)], args := [d1, d2] }
  | _ => none }
def fnExactTurnCellRow : OpenClaim := { program := "ytebaenenphckbaa", sum := "f8cac22303a8283f725b45684e6ebfd3dd60870e2fce52db23bc582e30c9bbbd", func := "loop.example/g01239/laws.FnExactTurnCell", spec := "fnExactTurnCell", apart := false }
def FnExactTurnCellSaid : Prop := fnExactTurnCellRow.holds Try.pinned (OpenSpec.ofChange fnExactTurnCellSpec)

/-- ITS FALSE NEIGHBOUR: 'it returns false'. Refute it at one input. -/
def fnExactTurnCellWrong : ChangeSpec := { name := "fnExactTurnCell", fn := fun _ => fun
  | [d1, d2] => { results := [.lit (.bool false)], args := [d1, d2] }
  | _ => none }
def FnExactTurnCellWrongFalsely : Prop := fnExactTurnCellRow.holds Try.pinned (OpenSpec.ofChange fnExactTurnCellWrong)

/-- 'laws.FnExactIsSet': WHATEVER THE INPUT: true; the input reads as it did. -/
def fnExactIsSetSpec : ChangeSpec := { name := "fnExactIsSet", fn := fun _ => fun
  | [d1, d2] => { results := [.lit (.bool true)], args := [d1, d2] }
  | _ => none }
def fnExactIsSetRow : OpenClaim := { program := "ytebaenenphckbaa", sum := "f8cac22303a8283f725b45684e6ebfd3dd60870e2fce52db23bc582e30c9bbbd", func := "loop.example/g01239/laws.FnExactIsSet", spec := "fnExactIsSet", apart := false }
def FnExactIsSetSaid : Prop := fnExactIsSetRow.holds Try.pinned (OpenSpec.ofChange fnExactIsSetSpec)

/-- ITS FALSE NEIGHBOUR: 'it returns false'. Refute it at one input. -/
def fnExactIsSetWrong : ChangeSpec := { name := "fnExactIsSet", fn := fun _ => fun
  | [d1, d2] => { results := [.lit (.bool false)], args := [d1, d2] }
  | _ => none }
def FnExactIsSetWrongFalsely : Prop := fnExactIsSetRow.holds Try.pinned (OpenSpec.ofChange fnExactIsSetWrong)

/-- 'laws.FnExactNameOf': WHATEVER THE INPUT: true; the input reads as it did. -/
def fnExactNameOfSpec : ChangeSpec := { name := "fnExactNameOf", fn := fun _ => fun
  | [d1, d2] => { results := [.lit (.bool true)], args := [d1, d2] }
  | _ => none }
def fnExactNameOfRow : OpenClaim := { program := "ytebaenenphckbaa", sum := "f8cac22303a8283f725b45684e6ebfd3dd60870e2fce52db23bc582e30c9bbbd", func := "loop.example/g01239/laws.FnExactNameOf", spec := "fnExactNameOf", recurses := true, apart := false }
def FnExactNameOfSaid : Prop := fnExactNameOfRow.holds Try.pinned (OpenSpec.ofChange fnExactNameOfSpec)

/-- ITS FALSE NEIGHBOUR: 'it returns false'. Refute it at one input. -/
def fnExactNameOfWrong : ChangeSpec := { name := "fnExactNameOf", fn := fun _ => fun
  | [d1, d2] => { results := [.lit (.bool false)], args := [d1, d2] }
  | _ => none }
def FnExactNameOfWrongFalsely : Prop := fnExactNameOfRow.holds Try.pinned (OpenSpec.ofChange fnExactNameOfWrong)

/-- 'laws.FnExactVisitsAll': WHATEVER THE INPUT: true; the input reads as it did. -/
def fnExactVisitsAllSpec : ChangeSpec := { name := "fnExactVisitsAll", fn := fun _ => fun
  | [d1, d2, d3, d4, d5] => { results := [.lit (.bool true)], args := [d1, d2, d3, d4, d5] }
  | _ => none }
def fnExactVisitsAllRow : OpenClaim := { program := "ytebaenenphckbaa", sum := "f8cac22303a8283f725b45684e6ebfd3dd60870e2fce52db23bc582e30c9bbbd", func := "loop.example/g01239/laws.FnExactVisitsAll", spec := "fnExactVisitsAll", apart := false }
def FnExactVisitsAllSaid : Prop := fnExactVisitsAllRow.holds Try.pinned (OpenSpec.ofChange fnExactVisitsAllSpec)

/-- ITS FALSE NEIGHBOUR: 'it returns false'. Refute it at one input. -/
def fnExactVisitsAllWrong : ChangeSpec := { name := "fnExactVisitsAll", fn := fun _ => fun
  | [d1, d2, d3, d4, d5] => { results := [.lit (.bool false)], args := [d1, d2, d3, d4, d5] }
  | _ => none }
def FnExactVisitsAllWrongFalsely : Prop := fnExactVisitsAllRow.holds Try.pinned (OpenSpec.ofChange fnExactVisitsAllWrong)

/- THE SECOND FORM. 'bulk': how many values and letters a reading holds, each counted each time it is reached (what is shared counts as often as it is met; a slice's spare places count too). A statement '..UptoSaid' is the law's where the arguments, and the package variables that the reading takes, are together of bulk at most 1048576: NARROWER than '..Said'. Prove '..Said' where nothing that the law and all that it calls make is longer than what came in: it says more and counts as full. Else prove '..UptoSaid'. A law counts once. -/
mutual
def uptoBulk {H : Type} : DataW H → Nat
  | .lit (.string bytes) => bytes.length + 1
  | .lit _ => 1
  | .nil => 1
  | .ptr d => uptoBulk d + 1
  | .slice elems spare => uptoBulkAll elems + uptoBulkAll spare + 1
  | .agg parts => uptoBulkAll parts + 1
  | .iface _ d => uptoBulk d + 1
  | .map entries => uptoBulkEntries entries + 1
  | .held _ => 1
def uptoBulkAll {H : Type} : List (DataW H) → Nat
  | [] => 0
  | d :: r => uptoBulk d + uptoBulkAll r
def uptoBulkEntries {H : Type} : List (Lit × DataW H) → Nat
  | [] => 0
  | x :: r => uptoBulkEntry x + uptoBulkEntries r
def uptoBulkEntry {H : Type} : Lit × DataW H → Nat
  | (.string bytes, d) => bytes.length + uptoBulk d + 1
  | (_, d) => uptoBulk d + 1
 end
def uptoSmall : (H : Type) → List (DataW H) → Bool := fun _ ds => decide (uptoBulkAll ds ≤ 1048576)
def OpenSpec.upto (s : _root_.Go.ChangeSpec) : _root_.Go.OpenSpec := { _root_.Go.OpenSpec.ofChange s with cond := some uptoSmall }

/-- 'laws.FnExactCountOrbits', WHERE WHAT IT READS IS OF BULK AT MOST 1048576: true; the input reads as it did. -/
def fnExactCountOrbitsUptoRow : OpenClaim := { program := "ytebaenenphckbaa", sum := "f8cac22303a8283f725b45684e6ebfd3dd60870e2fce52db23bc582e30c9bbbd", func := "loop.example/g01239/laws.FnExactCountOrbits", spec := "fnExactCountOrbits", apart := false, narrowed := true }
def FnExactCountOrbitsUptoSaid : Prop := fnExactCountOrbitsUptoRow.holds Try.pinned (OpenSpec.upto fnExactCountOrbitsSpec)

/-- 'laws.FnExactIsBoard', WHERE WHAT IT READS IS OF BULK AT MOST 1048576: true; the input reads as it did. -/
def fnExactIsBoardUptoRow : OpenClaim := { program := "ytebaenenphckbaa", sum := "f8cac22303a8283f725b45684e6ebfd3dd60870e2fce52db23bc582e30c9bbbd", func := "loop.example/g01239/laws.FnExactIsBoard", spec := "fnExactIsBoard", apart := false, narrowed := true }
def FnExactIsBoardUptoSaid : Prop := fnExactIsBoardUptoRow.holds Try.pinned (OpenSpec.upto fnExactIsBoardSpec)

/-- 'laws.FnExactOrbitOf', WHERE WHAT IT READS IS OF BULK AT MOST 1048576: true; the input reads as it did. -/
def fnExactOrbitOfUptoRow : OpenClaim := { program := "ytebaenenphckbaa", sum := "f8cac22303a8283f725b45684e6ebfd3dd60870e2fce52db23bc582e30c9bbbd", func := "loop.example/g01239/laws.FnExactOrbitOf", spec := "fnExactOrbitOf", apart := false, narrowed := true }
def FnExactOrbitOfUptoSaid : Prop := fnExactOrbitOfUptoRow.holds Try.pinned (OpenSpec.upto fnExactOrbitOfSpec)

/-- 'laws.FnExactStepsOf', WHERE WHAT IT READS IS OF BULK AT MOST 1048576: true; the input reads as it did. -/
def fnExactStepsOfUptoRow : OpenClaim := { program := "ytebaenenphckbaa", sum := "f8cac22303a8283f725b45684e6ebfd3dd60870e2fce52db23bc582e30c9bbbd", func := "loop.example/g01239/laws.FnExactStepsOf", spec := "fnExactStepsOf", apart := false, narrowed := true }
def FnExactStepsOfUptoSaid : Prop := fnExactStepsOfUptoRow.holds Try.pinned (OpenSpec.upto fnExactStepsOfSpec)

/-- 'laws.FnExactCountCells', WHERE WHAT IT READS IS OF BULK AT MOST 1048576: true; the input reads as it did. -/
def fnExactCountCellsUptoRow : OpenClaim := { program := "ytebaenenphckbaa", sum := "f8cac22303a8283f725b45684e6ebfd3dd60870e2fce52db23bc582e30c9bbbd", func := "loop.example/g01239/laws.FnExactCountCells", spec := "fnExactCountCells", apart := false, narrowed := true }
def FnExactCountCellsUptoSaid : Prop := fnExactCountCellsUptoRow.holds Try.pinned (OpenSpec.upto fnExactCountCellsSpec)

/-- 'laws.FnExactLeapsFar', WHERE WHAT IT READS IS OF BULK AT MOST 1048576: true; the input reads as it did. -/
def fnExactLeapsFarUptoRow : OpenClaim := { program := "ytebaenenphckbaa", sum := "f8cac22303a8283f725b45684e6ebfd3dd60870e2fce52db23bc582e30c9bbbd", func := "loop.example/g01239/laws.FnExactLeapsFar", spec := "fnExactLeapsFar", apart := false, narrowed := true }
def FnExactLeapsFarUptoSaid : Prop := fnExactLeapsFarUptoRow.holds Try.pinned (OpenSpec.upto fnExactLeapsFarSpec)

/-- 'laws.FnExactHasCell', WHERE WHAT IT READS IS OF BULK AT MOST 1048576: true; the input reads as it did. -/
def fnExactHasCellUptoRow : OpenClaim := { program := "ytebaenenphckbaa", sum := "f8cac22303a8283f725b45684e6ebfd3dd60870e2fce52db23bc582e30c9bbbd", func := "loop.example/g01239/laws.FnExactHasCell", spec := "fnExactHasCell", apart := false, narrowed := true }
def FnExactHasCellUptoSaid : Prop := fnExactHasCellUptoRow.holds Try.pinned (OpenSpec.upto fnExactHasCellSpec)

/-- 'laws.FnExactMirrorCell', WHERE WHAT IT READS IS OF BULK AT MOST 1048576: true; the input reads as it did. -/
def fnExactMirrorCellUptoRow : OpenClaim := { program := "ytebaenenphckbaa", sum := "f8cac22303a8283f725b45684e6ebfd3dd60870e2fce52db23bc582e30c9bbbd", func := "loop.example/g01239/laws.FnExactMirrorCell", spec := "fnExactMirrorCell", apart := false, narrowed := true }
def FnExactMirrorCellUptoSaid : Prop := fnExactMirrorCellUptoRow.holds Try.pinned (OpenSpec.upto fnExactMirrorCellSpec)

/-- 'laws.FnExactTurnCell', WHERE WHAT IT READS IS OF BULK AT MOST 1048576: true; the input reads as it did. -/
def fnExactTurnCellUptoRow : OpenClaim := { program := "ytebaenenphckbaa", sum := "f8cac22303a8283f725b45684e6ebfd3dd60870e2fce52db23bc582e30c9bbbd", func := "loop.example/g01239/laws.FnExactTurnCell", spec := "fnExactTurnCell", apart := false, narrowed := true }
def FnExactTurnCellUptoSaid : Prop := fnExactTurnCellUptoRow.holds Try.pinned (OpenSpec.upto fnExactTurnCellSpec)

/-- 'laws.FnExactIsSet', WHERE WHAT IT READS IS OF BULK AT MOST 1048576: true; the input reads as it did. -/
def fnExactIsSetUptoRow : OpenClaim := { program := "ytebaenenphckbaa", sum := "f8cac22303a8283f725b45684e6ebfd3dd60870e2fce52db23bc582e30c9bbbd", func := "loop.example/g01239/laws.FnExactIsSet", spec := "fnExactIsSet", apart := false, narrowed := true }
def FnExactIsSetUptoSaid : Prop := fnExactIsSetUptoRow.holds Try.pinned (OpenSpec.upto fnExactIsSetSpec)

/-- 'laws.FnExactNameOf', WHERE WHAT IT READS IS OF BULK AT MOST 1048576: true; the input reads as it did. -/
def fnExactNameOfUptoRow : OpenClaim := { program := "ytebaenenphckbaa", sum := "f8cac22303a8283f725b45684e6ebfd3dd60870e2fce52db23bc582e30c9bbbd", func := "loop.example/g01239/laws.FnExactNameOf", spec := "fnExactNameOf", recurses := true, apart := false, narrowed := true }
def FnExactNameOfUptoSaid : Prop := fnExactNameOfUptoRow.holds Try.pinned (OpenSpec.upto fnExactNameOfSpec)

/-- 'laws.FnExactVisitsAll', WHERE WHAT IT READS IS OF BULK AT MOST 1048576: true; the input reads as it did. -/
def fnExactVisitsAllUptoRow : OpenClaim := { program := "ytebaenenphckbaa", sum := "f8cac22303a8283f725b45684e6ebfd3dd60870e2fce52db23bc582e30c9bbbd", func := "loop.example/g01239/laws.FnExactVisitsAll", spec := "fnExactVisitsAll", apart := false, narrowed := true }
def FnExactVisitsAllUptoSaid : Prop := fnExactVisitsAllUptoRow.holds Try.pinned (OpenSpec.upto fnExactVisitsAllSpec)

end Rows
end Go.Proofs.Ytebaenenphckbaa
