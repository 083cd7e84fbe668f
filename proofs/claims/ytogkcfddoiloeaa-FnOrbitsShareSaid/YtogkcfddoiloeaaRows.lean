/-
  No cell of these rows narrows 'for every input' (looked for: loops, veiled, ifaces, maps, wideKeys, modest, calm, conditions, laid).
  DERIVED. THE GIVEN ROWS OF THIS SEAT. 12 by the template 'for every input the law returns true; each argument reads behind the call as it read before'; 0 by the template 'total and deterministic' (their statements: YtogkcfddoiloeaaTotals.lean).
  GIVEN WITH THE SEED: the statements are not yours to turn. If you find one false, say at which input.
  Laid BY PROGRAM, IN A SANDBOX (cutbox-rows.mjs): the forced cells as the released guide's own fill.sh prints them over the translation ca77913548fc55da… (all of the seat's roots in one cut). By AI agents, Wed Nov 11 2026. No macro, syntax, notation, axiom, sorry.
-/
import Derived.Test.YtogkcfddoiloeaaChecked
import GoSem.Claim
import GoSem.ClaimJoined
import GoSem.ClaimMapViews
import Derived.JoinedTies
import Derived.KernelRfl
namespace Go.Proofs.Ytogkcfddoiloeaa
/- THE CELL 'sum', in the pinned program and in every row, IS THE sha256 OF THE DUMP (.gsa) THAT YtogkcfddoiloeaaProg.lean LOADS. Nothing in Lean hashes anything: it is a label: what it is worth is what the hold of that sum in a sandbox is worth. -/
noncomputable def Try.pinned : Pinned := { name := "ytogkcfddoiloeaa", sum := "ca77913548fc55da0048aa299150724adf501ff02d5d576210a8ba09d2129ffa", checked := Try.checked }
namespace Rows
def none {H : Type} : Left H := { results := [], args := [] }

/-- 'laws.FnExactFirstTwoSteps': WHATEVER THE INPUT: true; the input reads as it did. -/
def fnExactFirstTwoStepsSpec : ChangeSpec := { name := "fnExactFirstTwoSteps", fn := fun _ => fun
  | [d1, d2] => { results := [.lit (.bool true)], args := [d1, d2] }
  | _ => none }
def fnExactFirstTwoStepsRow : OpenClaim := { program := "ytogkcfddoiloeaa", sum := "ca77913548fc55da0048aa299150724adf501ff02d5d576210a8ba09d2129ffa", func := "loop.example/g01239/laws.FnExactFirstTwoSteps", spec := "fnExactFirstTwoSteps", apart := false }
def FnExactFirstTwoStepsSaid : Prop := fnExactFirstTwoStepsRow.holds Try.pinned (OpenSpec.ofChange fnExactFirstTwoStepsSpec)

/-- ITS FALSE NEIGHBOUR: 'it returns false'. Refute it at one input. -/
def fnExactFirstTwoStepsWrong : ChangeSpec := { name := "fnExactFirstTwoSteps", fn := fun _ => fun
  | [d1, d2] => { results := [.lit (.bool false)], args := [d1, d2] }
  | _ => none }
def FnExactFirstTwoStepsWrongFalsely : Prop := fnExactFirstTwoStepsRow.holds Try.pinned (OpenSpec.ofChange fnExactFirstTwoStepsWrong)

/-- 'laws.FnExactBalanceOf': WHATEVER THE INPUT: true; the input reads as it did. -/
def fnExactBalanceOfSpec : ChangeSpec := { name := "fnExactBalanceOf", fn := fun _ => fun
  | [d] => { results := [.lit (.bool true)], args := [d] }
  | _ => none }
def fnExactBalanceOfRow : OpenClaim := { program := "ytogkcfddoiloeaa", sum := "ca77913548fc55da0048aa299150724adf501ff02d5d576210a8ba09d2129ffa", func := "loop.example/g01239/laws.FnExactBalanceOf", spec := "fnExactBalanceOf", apart := false }
def FnExactBalanceOfSaid : Prop := fnExactBalanceOfRow.holds Try.pinned (OpenSpec.ofChange fnExactBalanceOfSpec)

/-- ITS FALSE NEIGHBOUR: 'it returns false'. Refute it at one input. -/
def fnExactBalanceOfWrong : ChangeSpec := { name := "fnExactBalanceOf", fn := fun _ => fun
  | [d] => { results := [.lit (.bool false)], args := [d] }
  | _ => none }
def FnExactBalanceOfWrongFalsely : Prop := fnExactBalanceOfRow.holds Try.pinned (OpenSpec.ofChange fnExactBalanceOfWrong)

/-- 'laws.FnExactCellOfName': WHATEVER THE INPUT: true; the input reads as it did. -/
def fnExactCellOfNameSpec : ChangeSpec := { name := "fnExactCellOfName", fn := fun _ => fun
  | [d1, d2] => { results := [.lit (.bool true)], args := [d1, d2] }
  | _ => none }
def fnExactCellOfNameRow : OpenClaim := { program := "ytogkcfddoiloeaa", sum := "ca77913548fc55da0048aa299150724adf501ff02d5d576210a8ba09d2129ffa", func := "loop.example/g01239/laws.FnExactCellOfName", spec := "fnExactCellOfName", recurses := true, apart := false }
def FnExactCellOfNameSaid : Prop := fnExactCellOfNameRow.holds Try.pinned (OpenSpec.ofChange fnExactCellOfNameSpec)

/-- ITS FALSE NEIGHBOUR: 'it returns false'. Refute it at one input. -/
def fnExactCellOfNameWrong : ChangeSpec := { name := "fnExactCellOfName", fn := fun _ => fun
  | [d1, d2] => { results := [.lit (.bool false)], args := [d1, d2] }
  | _ => none }
def FnExactCellOfNameWrongFalsely : Prop := fnExactCellOfNameRow.holds Try.pinned (OpenSpec.ofChange fnExactCellOfNameWrong)

/-- 'laws.FnExactCellsOf': WHATEVER THE INPUT: true; the input reads as it did. -/
def fnExactCellsOfSpec : ChangeSpec := { name := "fnExactCellsOf", fn := fun _ => fun
  | [d] => { results := [.lit (.bool true)], args := [d] }
  | _ => none }
def fnExactCellsOfRow : OpenClaim := { program := "ytogkcfddoiloeaa", sum := "ca77913548fc55da0048aa299150724adf501ff02d5d576210a8ba09d2129ffa", func := "loop.example/g01239/laws.FnExactCellsOf", spec := "fnExactCellsOf", apart := false }
def FnExactCellsOfSaid : Prop := fnExactCellsOfRow.holds Try.pinned (OpenSpec.ofChange fnExactCellsOfSpec)

/-- ITS FALSE NEIGHBOUR: 'it returns false'. Refute it at one input. -/
def fnExactCellsOfWrong : ChangeSpec := { name := "fnExactCellsOf", fn := fun _ => fun
  | [d] => { results := [.lit (.bool false)], args := [d] }
  | _ => none }
def FnExactCellsOfWrongFalsely : Prop := fnExactCellsOfRow.holds Try.pinned (OpenSpec.ofChange fnExactCellsOfWrong)

/-- 'laws.FnExactPaintBySteps': WHATEVER THE INPUT: true; the input reads as it did. -/
def fnExactPaintByStepsSpec : ChangeSpec := { name := "fnExactPaintBySteps", fn := fun _ => fun
  | [d1, d2, d3, d4] => { results := [.lit (.bool true)], args := [d1, d2, d3, d4] }
  | _ => none }
def fnExactPaintByStepsRow : OpenClaim := { program := "ytogkcfddoiloeaa", sum := "ca77913548fc55da0048aa299150724adf501ff02d5d576210a8ba09d2129ffa", func := "loop.example/g01239/laws.FnExactPaintBySteps", spec := "fnExactPaintBySteps", apart := false }
def FnExactPaintByStepsSaid : Prop := fnExactPaintByStepsRow.holds Try.pinned (OpenSpec.ofChange fnExactPaintByStepsSpec)

/-- ITS FALSE NEIGHBOUR: 'it returns false'. Refute it at one input. -/
def fnExactPaintByStepsWrong : ChangeSpec := { name := "fnExactPaintBySteps", fn := fun _ => fun
  | [d1, d2, d3, d4] => { results := [.lit (.bool false)], args := [d1, d2, d3, d4] }
  | _ => none }
def FnExactPaintByStepsWrongFalsely : Prop := fnExactPaintByStepsRow.holds Try.pinned (OpenSpec.ofChange fnExactPaintByStepsWrong)

/-- 'laws.FnExactTwoSteps': WHATEVER THE INPUT: true; the input reads as it did. -/
def fnExactTwoStepsSpec : ChangeSpec := { name := "fnExactTwoSteps", fn := fun _ => fun
  | [d1, d2, d3, d4, d5] => { results := [.lit (.bool true)], args := [d1, d2, d3, d4, d5] }
  | _ => none }
def fnExactTwoStepsRow : OpenClaim := { program := "ytogkcfddoiloeaa", sum := "ca77913548fc55da0048aa299150724adf501ff02d5d576210a8ba09d2129ffa", func := "loop.example/g01239/laws.FnExactTwoSteps", spec := "fnExactTwoSteps", apart := false }
def FnExactTwoStepsSaid : Prop := fnExactTwoStepsRow.holds Try.pinned (OpenSpec.ofChange fnExactTwoStepsSpec)

/-- ITS FALSE NEIGHBOUR: 'it returns false'. Refute it at one input. -/
def fnExactTwoStepsWrong : ChangeSpec := { name := "fnExactTwoSteps", fn := fun _ => fun
  | [d1, d2, d3, d4, d5] => { results := [.lit (.bool false)], args := [d1, d2, d3, d4, d5] }
  | _ => none }
def FnExactTwoStepsWrongFalsely : Prop := fnExactTwoStepsRow.holds Try.pinned (OpenSpec.ofChange fnExactTwoStepsWrong)

/-- 'laws.FnExactPlaceWalk': WHATEVER THE INPUT: true; the input reads as it did. -/
def fnExactPlaceWalkSpec : ChangeSpec := { name := "fnExactPlaceWalk", fn := fun _ => fun
  | [d1, d2, d3, d4, d5, d6] => { results := [.lit (.bool true)], args := [d1, d2, d3, d4, d5, d6] }
  | _ => none }
def fnExactPlaceWalkRow : OpenClaim := { program := "ytogkcfddoiloeaa", sum := "ca77913548fc55da0048aa299150724adf501ff02d5d576210a8ba09d2129ffa", func := "loop.example/g01239/laws.FnExactPlaceWalk", spec := "fnExactPlaceWalk", apart := false }
def FnExactPlaceWalkSaid : Prop := fnExactPlaceWalkRow.holds Try.pinned (OpenSpec.ofChange fnExactPlaceWalkSpec)

/-- ITS FALSE NEIGHBOUR: 'it returns false'. Refute it at one input. -/
def fnExactPlaceWalkWrong : ChangeSpec := { name := "fnExactPlaceWalk", fn := fun _ => fun
  | [d1, d2, d3, d4, d5, d6] => { results := [.lit (.bool false)], args := [d1, d2, d3, d4, d5, d6] }
  | _ => none }
def FnExactPlaceWalkWrongFalsely : Prop := fnExactPlaceWalkRow.holds Try.pinned (OpenSpec.ofChange fnExactPlaceWalkWrong)

/-- 'laws.FnExactColoursForbid': WHATEVER THE INPUT: true; the input reads as it did. -/
def fnExactColoursForbidSpec : ChangeSpec := { name := "fnExactColoursForbid", fn := fun _ => fun
  | [d1, d2] => { results := [.lit (.bool true)], args := [d1, d2] }
  | _ => none }
def fnExactColoursForbidRow : OpenClaim := { program := "ytogkcfddoiloeaa", sum := "ca77913548fc55da0048aa299150724adf501ff02d5d576210a8ba09d2129ffa", func := "loop.example/g01239/laws.FnExactColoursForbid", spec := "fnExactColoursForbid", apart := false }
def FnExactColoursForbidSaid : Prop := fnExactColoursForbidRow.holds Try.pinned (OpenSpec.ofChange fnExactColoursForbidSpec)

/-- ITS FALSE NEIGHBOUR: 'it returns false'. Refute it at one input. -/
def fnExactColoursForbidWrong : ChangeSpec := { name := "fnExactColoursForbid", fn := fun _ => fun
  | [d1, d2] => { results := [.lit (.bool false)], args := [d1, d2] }
  | _ => none }
def FnExactColoursForbidWrongFalsely : Prop := fnExactColoursForbidRow.holds Try.pinned (OpenSpec.ofChange fnExactColoursForbidWrong)

/-- 'laws.FnExactCellsOfColours': WHATEVER THE INPUT: true; the input reads as it did. -/
def fnExactCellsOfColoursSpec : ChangeSpec := { name := "fnExactCellsOfColours", fn := fun _ => fun
  | [d1, d2] => { results := [.lit (.bool true)], args := [d1, d2] }
  | _ => none }
def fnExactCellsOfColoursRow : OpenClaim := { program := "ytogkcfddoiloeaa", sum := "ca77913548fc55da0048aa299150724adf501ff02d5d576210a8ba09d2129ffa", func := "loop.example/g01239/laws.FnExactCellsOfColours", spec := "fnExactCellsOfColours", apart := false }
def FnExactCellsOfColoursSaid : Prop := fnExactCellsOfColoursRow.holds Try.pinned (OpenSpec.ofChange fnExactCellsOfColoursSpec)

/-- ITS FALSE NEIGHBOUR: 'it returns false'. Refute it at one input. -/
def fnExactCellsOfColoursWrong : ChangeSpec := { name := "fnExactCellsOfColours", fn := fun _ => fun
  | [d1, d2] => { results := [.lit (.bool false)], args := [d1, d2] }
  | _ => none }
def FnExactCellsOfColoursWrongFalsely : Prop := fnExactCellsOfColoursRow.holds Try.pinned (OpenSpec.ofChange fnExactCellsOfColoursWrong)

/-- 'laws.FnExactPathText': WHATEVER THE INPUT: true; the input reads as it did. -/
def fnExactPathTextSpec : ChangeSpec := { name := "fnExactPathText", fn := fun _ => fun
  | [d1, d2] => { results := [.lit (.bool true)], args := [d1, d2] }
  | _ => none }
def fnExactPathTextRow : OpenClaim := { program := "ytogkcfddoiloeaa", sum := "ca77913548fc55da0048aa299150724adf501ff02d5d576210a8ba09d2129ffa", func := "loop.example/g01239/laws.FnExactPathText", spec := "fnExactPathText", inPlace := ["internal/abi.NoEscape", "internal/bytealg.MakeNoZero"], recurses := true, apart := false }
def FnExactPathTextSaid : Prop := fnExactPathTextRow.holds Try.pinned (OpenSpec.ofChange fnExactPathTextSpec)

/-- ITS FALSE NEIGHBOUR: 'it returns false'. Refute it at one input. -/
def fnExactPathTextWrong : ChangeSpec := { name := "fnExactPathText", fn := fun _ => fun
  | [d1, d2] => { results := [.lit (.bool false)], args := [d1, d2] }
  | _ => none }
def FnExactPathTextWrongFalsely : Prop := fnExactPathTextRow.holds Try.pinned (OpenSpec.ofChange fnExactPathTextWrong)

/-- 'laws.FnOrbitsShareOfAll': WHATEVER THE INPUT: true; the input reads as it did. -/
def fnOrbitsShareOfAllSpec : ChangeSpec := { name := "fnOrbitsShareOfAll", fn := fun _ => fun
  | [d1, d2, d3, d4, d5, d6, d7, d8, d9, d10, d11] => { results := [.lit (.bool true)], args := [d1, d2, d3, d4, d5, d6, d7, d8, d9, d10, d11] }
  | _ => none }
def fnOrbitsShareOfAllRow : OpenClaim := { program := "ytogkcfddoiloeaa", sum := "ca77913548fc55da0048aa299150724adf501ff02d5d576210a8ba09d2129ffa", func := "loop.example/g01239/laws.FnOrbitsShareOfAll", spec := "fnOrbitsShareOfAll", apart := false }
def FnOrbitsShareOfAllSaid : Prop := fnOrbitsShareOfAllRow.holds Try.pinned (OpenSpec.ofChange fnOrbitsShareOfAllSpec)

/-- ITS FALSE NEIGHBOUR: 'it returns false'. Refute it at one input. -/
def fnOrbitsShareOfAllWrong : ChangeSpec := { name := "fnOrbitsShareOfAll", fn := fun _ => fun
  | [d1, d2, d3, d4, d5, d6, d7, d8, d9, d10, d11] => { results := [.lit (.bool false)], args := [d1, d2, d3, d4, d5, d6, d7, d8, d9, d10, d11] }
  | _ => none }
def FnOrbitsShareOfAllWrongFalsely : Prop := fnOrbitsShareOfAllRow.holds Try.pinned (OpenSpec.ofChange fnOrbitsShareOfAllWrong)

/-- 'laws.FnOrbitsShare': WHATEVER THE INPUT: true; the input reads as it did. -/
def fnOrbitsShareSpec : ChangeSpec := { name := "fnOrbitsShare", fn := fun _ => fun
  | [d1, d2] => { results := [.lit (.bool true)], args := [d1, d2] }
  | _ => none }
def fnOrbitsShareRow : OpenClaim := { program := "ytogkcfddoiloeaa", sum := "ca77913548fc55da0048aa299150724adf501ff02d5d576210a8ba09d2129ffa", func := "loop.example/g01239/laws.FnOrbitsShare", spec := "fnOrbitsShare", apart := false }
def FnOrbitsShareSaid : Prop := fnOrbitsShareRow.holds Try.pinned (OpenSpec.ofChange fnOrbitsShareSpec)

/-- ITS FALSE NEIGHBOUR: 'it returns false'. Refute it at one input. -/
def fnOrbitsShareWrong : ChangeSpec := { name := "fnOrbitsShare", fn := fun _ => fun
  | [d1, d2] => { results := [.lit (.bool false)], args := [d1, d2] }
  | _ => none }
def FnOrbitsShareWrongFalsely : Prop := fnOrbitsShareRow.holds Try.pinned (OpenSpec.ofChange fnOrbitsShareWrong)

/- THE SECOND FORM. 'bulk': how many values and letters a reading holds, each counted each time it is reached (what is shared counts as often as it is met; a slice's spare places count too). A statement '..UptoSaid' is the law's where the arguments, and the package variables that the reading takes, are together of bulk at most 1048576: NARROWER than '..Said'. Prove '..Said' where nothing that the law and all that it calls make is longer than what came in: it says more and counts as full. Else prove '..UptoSaid'. A law counts once. -/
mutual
def uptoBulk {H : Type} : DataW H → Nat
  | .lit (.string bytes) => bytes.length + 1
  | .lit _ => 1
  | .nil => 1
  | .ptr d => uptoBulk d + 1
  | .slice elems spare => uptoBulkAll elems + uptoBulkAll spare + 1
  | .agg parts => uptoBulkAll parts + 1
  | .iface _ d => uptoBulk d + 1
  | .map entries => uptoBulkEntries entries + 1
  | .held _ => 1
def uptoBulkAll {H : Type} : List (DataW H) → Nat
  | [] => 0
  | d :: r => uptoBulk d + uptoBulkAll r
def uptoBulkEntries {H : Type} : List (Lit × DataW H) → Nat
  | [] => 0
  | x :: r => uptoBulkEntry x + uptoBulkEntries r
def uptoBulkEntry {H : Type} : Lit × DataW H → Nat
  | (.string bytes, d) => bytes.length + uptoBulk d + 1
  | (_, d) => uptoBulk d + 1
 end
def uptoSmall : (H : Type) → List (DataW H) → Bool := fun _ ds => decide (uptoBulkAll ds ≤ 1048576)
def OpenSpec.upto (s : _root_.Go.ChangeSpec) : _root_.Go.OpenSpec := { _root_.Go.OpenSpec.ofChange s with cond := some uptoSmall }

/-- 'laws.FnExactFirstTwoSteps', WHERE WHAT IT READS IS OF BULK AT MOST 1048576: true; the input reads as it did. -/
def fnExactFirstTwoStepsUptoRow : OpenClaim := { program := "ytogkcfddoiloeaa", sum := "ca77913548fc55da0048aa299150724adf501ff02d5d576210a8ba09d2129ffa", func := "loop.example/g01239/laws.FnExactFirstTwoSteps", spec := "fnExactFirstTwoSteps", apart := false, narrowed := true }
def FnExactFirstTwoStepsUptoSaid : Prop := fnExactFirstTwoStepsUptoRow.holds Try.pinned (OpenSpec.upto fnExactFirstTwoStepsSpec)

/-- 'laws.FnExactBalanceOf', WHERE WHAT IT READS IS OF BULK AT MOST 1048576: true; the input reads as it did. -/
def fnExactBalanceOfUptoRow : OpenClaim := { program := "ytogkcfddoiloeaa", sum := "ca77913548fc55da0048aa299150724adf501ff02d5d576210a8ba09d2129ffa", func := "loop.example/g01239/laws.FnExactBalanceOf", spec := "fnExactBalanceOf", apart := false, narrowed := true }
def FnExactBalanceOfUptoSaid : Prop := fnExactBalanceOfUptoRow.holds Try.pinned (OpenSpec.upto fnExactBalanceOfSpec)

/-- 'laws.FnExactCellOfName', WHERE WHAT IT READS IS OF BULK AT MOST 1048576: true; the input reads as it did. -/
def fnExactCellOfNameUptoRow : OpenClaim := { program := "ytogkcfddoiloeaa", sum := "ca77913548fc55da0048aa299150724adf501ff02d5d576210a8ba09d2129ffa", func := "loop.example/g01239/laws.FnExactCellOfName", spec := "fnExactCellOfName", recurses := true, apart := false, narrowed := true }
def FnExactCellOfNameUptoSaid : Prop := fnExactCellOfNameUptoRow.holds Try.pinned (OpenSpec.upto fnExactCellOfNameSpec)

/-- 'laws.FnExactCellsOf', WHERE WHAT IT READS IS OF BULK AT MOST 1048576: true; the input reads as it did. -/
def fnExactCellsOfUptoRow : OpenClaim := { program := "ytogkcfddoiloeaa", sum := "ca77913548fc55da0048aa299150724adf501ff02d5d576210a8ba09d2129ffa", func := "loop.example/g01239/laws.FnExactCellsOf", spec := "fnExactCellsOf", apart := false, narrowed := true }
def FnExactCellsOfUptoSaid : Prop := fnExactCellsOfUptoRow.holds Try.pinned (OpenSpec.upto fnExactCellsOfSpec)

/-- 'laws.FnExactPaintBySteps', WHERE WHAT IT READS IS OF BULK AT MOST 1048576: true; the input reads as it did. -/
def fnExactPaintByStepsUptoRow : OpenClaim := { program := "ytogkcfddoiloeaa", sum := "ca77913548fc55da0048aa299150724adf501ff02d5d576210a8ba09d2129ffa", func := "loop.example/g01239/laws.FnExactPaintBySteps", spec := "fnExactPaintBySteps", apart := false, narrowed := true }
def FnExactPaintByStepsUptoSaid : Prop := fnExactPaintByStepsUptoRow.holds Try.pinned (OpenSpec.upto fnExactPaintByStepsSpec)

/-- 'laws.FnExactTwoSteps', WHERE WHAT IT READS IS OF BULK AT MOST 1048576: true; the input reads as it did. -/
def fnExactTwoStepsUptoRow : OpenClaim := { program := "ytogkcfddoiloeaa", sum := "ca77913548fc55da0048aa299150724adf501ff02d5d576210a8ba09d2129ffa", func := "loop.example/g01239/laws.FnExactTwoSteps", spec := "fnExactTwoSteps", apart := false, narrowed := true }
def FnExactTwoStepsUptoSaid : Prop := fnExactTwoStepsUptoRow.holds Try.pinned (OpenSpec.upto fnExactTwoStepsSpec)

/-- 'laws.FnExactPlaceWalk', WHERE WHAT IT READS IS OF BULK AT MOST 1048576: true; the input reads as it did. -/
def fnExactPlaceWalkUptoRow : OpenClaim := { program := "ytogkcfddoiloeaa", sum := "ca77913548fc55da0048aa299150724adf501ff02d5d576210a8ba09d2129ffa", func := "loop.example/g01239/laws.FnExactPlaceWalk", spec := "fnExactPlaceWalk", apart := false, narrowed := true }
def FnExactPlaceWalkUptoSaid : Prop := fnExactPlaceWalkUptoRow.holds Try.pinned (OpenSpec.upto fnExactPlaceWalkSpec)

/-- 'laws.FnExactColoursForbid', WHERE WHAT IT READS IS OF BULK AT MOST 1048576: true; the input reads as it did. -/
def fnExactColoursForbidUptoRow : OpenClaim := { program := "ytogkcfddoiloeaa", sum := "ca77913548fc55da0048aa299150724adf501ff02d5d576210a8ba09d2129ffa", func := "loop.example/g01239/laws.FnExactColoursForbid", spec := "fnExactColoursForbid", apart := false, narrowed := true }
def FnExactColoursForbidUptoSaid : Prop := fnExactColoursForbidUptoRow.holds Try.pinned (OpenSpec.upto fnExactColoursForbidSpec)

/-- 'laws.FnExactCellsOfColours', WHERE WHAT IT READS IS OF BULK AT MOST 1048576: true; the input reads as it did. -/
def fnExactCellsOfColoursUptoRow : OpenClaim := { program := "ytogkcfddoiloeaa", sum := "ca77913548fc55da0048aa299150724adf501ff02d5d576210a8ba09d2129ffa", func := "loop.example/g01239/laws.FnExactCellsOfColours", spec := "fnExactCellsOfColours", apart := false, narrowed := true }
def FnExactCellsOfColoursUptoSaid : Prop := fnExactCellsOfColoursUptoRow.holds Try.pinned (OpenSpec.upto fnExactCellsOfColoursSpec)

/-- 'laws.FnExactPathText', WHERE WHAT IT READS IS OF BULK AT MOST 1048576: true; the input reads as it did. -/
def fnExactPathTextUptoRow : OpenClaim := { program := "ytogkcfddoiloeaa", sum := "ca77913548fc55da0048aa299150724adf501ff02d5d576210a8ba09d2129ffa", func := "loop.example/g01239/laws.FnExactPathText", spec := "fnExactPathText", inPlace := ["internal/abi.NoEscape", "internal/bytealg.MakeNoZero"], recurses := true, apart := false, narrowed := true }
def FnExactPathTextUptoSaid : Prop := fnExactPathTextUptoRow.holds Try.pinned (OpenSpec.upto fnExactPathTextSpec)

/-- 'laws.FnOrbitsShareOfAll', WHERE WHAT IT READS IS OF BULK AT MOST 1048576: true; the input reads as it did. -/
def fnOrbitsShareOfAllUptoRow : OpenClaim := { program := "ytogkcfddoiloeaa", sum := "ca77913548fc55da0048aa299150724adf501ff02d5d576210a8ba09d2129ffa", func := "loop.example/g01239/laws.FnOrbitsShareOfAll", spec := "fnOrbitsShareOfAll", apart := false, narrowed := true }
def FnOrbitsShareOfAllUptoSaid : Prop := fnOrbitsShareOfAllUptoRow.holds Try.pinned (OpenSpec.upto fnOrbitsShareOfAllSpec)

/-- 'laws.FnOrbitsShare', WHERE WHAT IT READS IS OF BULK AT MOST 1048576: true; the input reads as it did. -/
def fnOrbitsShareUptoRow : OpenClaim := { program := "ytogkcfddoiloeaa", sum := "ca77913548fc55da0048aa299150724adf501ff02d5d576210a8ba09d2129ffa", func := "loop.example/g01239/laws.FnOrbitsShare", spec := "fnOrbitsShare", apart := false, narrowed := true }
def FnOrbitsShareUptoSaid : Prop := fnOrbitsShareUptoRow.holds Try.pinned (OpenSpec.upto fnOrbitsShareSpec)

end Rows
end Go.Proofs.Ytogkcfddoiloeaa
