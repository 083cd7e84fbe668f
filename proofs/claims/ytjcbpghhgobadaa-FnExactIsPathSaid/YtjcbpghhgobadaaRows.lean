/-
  No cell of these rows narrows 'for every input' (looked for: loops, veiled, ifaces, maps, wideKeys, modest, calm, conditions, laid).
  DERIVED. THE GIVEN ROWS OF THIS SEAT. 12 by the template 'for every input the law returns true; each argument reads behind the call as it read before'; 0 by the template 'total and deterministic' (their statements: YtjcbpghhgobadaaTotals.lean).
  GIVEN WITH THE SEED: the statements are not yours to turn. If you find one false, say at which input.
  Laid BY PROGRAM, IN A SANDBOX (cutbox-rows.mjs): the forced cells as the released guide's own fill.sh prints them over the translation 145fc870d10c2ea5… (all of the seat's roots in one cut). By AI agents, Wed Nov 11 2026. No macro, syntax, notation, axiom, sorry.
-/
import Derived.Test.YtjcbpghhgobadaaChecked
import GoSem.Claim
import GoSem.ClaimJoined
import GoSem.ClaimMapViews
import Derived.JoinedTies
import Derived.KernelRfl
namespace Go.Proofs.Ytjcbpghhgobadaa
/- THE CELL 'sum', in the pinned program and in every row, IS THE sha256 OF THE DUMP (.gsa) THAT YtjcbpghhgobadaaProg.lean LOADS. Nothing in Lean hashes anything: it is a label: what it is worth is what the hold of that sum in a sandbox is worth. -/
noncomputable def Try.pinned : Pinned := { name := "ytjcbpghhgobadaa", sum := "145fc870d10c2ea50d765a88d99d80ad53a30ed680debd1357d8226a5dc4ab11", checked := Try.checked }
namespace Rows
def none {H : Type} : Left H := { results := [], args := [] }

/-- 'laws.FnExactCountLeaps': WHATEVER THE INPUT: true; the input reads as it did. -/
def fnExactCountLeapsSpec : ChangeSpec := { name := "fnExactCountLeaps", fn := fun _ => fun
  | [d1, d2] => { results := [.lit (.bool true)], args := [d1, d2] }
  | _ => none }
def fnExactCountLeapsRow : OpenClaim := { program := "ytjcbpghhgobadaa", sum := "145fc870d10c2ea50d765a88d99d80ad53a30ed680debd1357d8226a5dc4ab11", func := "loop.example/g01239/laws.FnExactCountLeaps", spec := "fnExactCountLeaps", recurses := true, apart := false }
def FnExactCountLeapsSaid : Prop := fnExactCountLeapsRow.holds Try.pinned (OpenSpec.ofChange fnExactCountLeapsSpec)

/-- ITS FALSE NEIGHBOUR: 'it returns false'. Refute it at one input. -/
def fnExactCountLeapsWrong : ChangeSpec := { name := "fnExactCountLeaps", fn := fun _ => fun
  | [d1, d2] => { results := [.lit (.bool false)], args := [d1, d2] }
  | _ => none }
def FnExactCountLeapsWrongFalsely : Prop := fnExactCountLeapsRow.holds Try.pinned (OpenSpec.ofChange fnExactCountLeapsWrong)

/-- 'laws.FnExactTwoColoursAround': WHATEVER THE INPUT: true; the input reads as it did. -/
def fnExactTwoColoursAroundSpec : ChangeSpec := { name := "fnExactTwoColoursAround", fn := fun _ => fun
  | [d1, d2] => { results := [.lit (.bool true)], args := [d1, d2] }
  | _ => none }
def fnExactTwoColoursAroundRow : OpenClaim := { program := "ytjcbpghhgobadaa", sum := "145fc870d10c2ea50d765a88d99d80ad53a30ed680debd1357d8226a5dc4ab11", func := "loop.example/g01239/laws.FnExactTwoColoursAround", spec := "fnExactTwoColoursAround", recurses := true, apart := false }
def FnExactTwoColoursAroundSaid : Prop := fnExactTwoColoursAroundRow.holds Try.pinned (OpenSpec.ofChange fnExactTwoColoursAroundSpec)

/-- ITS FALSE NEIGHBOUR: 'it returns false'. Refute it at one input. -/
def fnExactTwoColoursAroundWrong : ChangeSpec := { name := "fnExactTwoColoursAround", fn := fun _ => fun
  | [d1, d2] => { results := [.lit (.bool false)], args := [d1, d2] }
  | _ => none }
def FnExactTwoColoursAroundWrongFalsely : Prop := fnExactTwoColoursAroundRow.holds Try.pinned (OpenSpec.ofChange fnExactTwoColoursAroundWrong)

/-- 'laws.FnExactIsWalk': WHATEVER THE INPUT: true; the input reads as it did. -/
def fnExactIsWalkSpec : ChangeSpec := { name := "fnExactIsWalk", fn := fun _ => fun
  | [d1, d2, d3] => { results := [.lit (.bool true)], args := [d1, d2, d3] }
  | _ => none }
def fnExactIsWalkRow : OpenClaim := { program := "ytjcbpghhgobadaa", sum := "145fc870d10c2ea50d765a88d99d80ad53a30ed680debd1357d8226a5dc4ab11", func := "loop.example/g01239/laws.FnExactIsWalk", spec := "fnExactIsWalk", recurses := true, apart := false }
def FnExactIsWalkSaid : Prop := fnExactIsWalkRow.holds Try.pinned (OpenSpec.ofChange fnExactIsWalkSpec)

/-- ITS FALSE NEIGHBOUR: 'it returns false'. Refute it at one input. -/
def fnExactIsWalkWrong : ChangeSpec := { name := "fnExactIsWalk", fn := fun _ => fun
  | [d1, d2, d3] => { results := [.lit (.bool false)], args := [d1, d2, d3] }
  | _ => none }
def FnExactIsWalkWrongFalsely : Prop := fnExactIsWalkRow.holds Try.pinned (OpenSpec.ofChange fnExactIsWalkWrong)

/-- 'laws.FnExactCountLeapsAround': WHATEVER THE INPUT: true; the input reads as it did. -/
def fnExactCountLeapsAroundSpec : ChangeSpec := { name := "fnExactCountLeapsAround", fn := fun _ => fun
  | [d1, d2] => { results := [.lit (.bool true)], args := [d1, d2] }
  | _ => none }
def fnExactCountLeapsAroundRow : OpenClaim := { program := "ytjcbpghhgobadaa", sum := "145fc870d10c2ea50d765a88d99d80ad53a30ed680debd1357d8226a5dc4ab11", func := "loop.example/g01239/laws.FnExactCountLeapsAround", spec := "fnExactCountLeapsAround", recurses := true, apart := false }
def FnExactCountLeapsAroundSaid : Prop := fnExactCountLeapsAroundRow.holds Try.pinned (OpenSpec.ofChange fnExactCountLeapsAroundSpec)

/-- ITS FALSE NEIGHBOUR: 'it returns false'. Refute it at one input. -/
def fnExactCountLeapsAroundWrong : ChangeSpec := { name := "fnExactCountLeapsAround", fn := fun _ => fun
  | [d1, d2] => { results := [.lit (.bool false)], args := [d1, d2] }
  | _ => none }
def FnExactCountLeapsAroundWrongFalsely : Prop := fnExactCountLeapsAroundRow.holds Try.pinned (OpenSpec.ofChange fnExactCountLeapsAroundWrong)

/-- 'laws.FnExactMirrorBoard': WHATEVER THE INPUT: true; the input reads as it did. -/
def fnExactMirrorBoardSpec : ChangeSpec := { name := "fnExactMirrorBoard", fn := fun _ => fun
  | [d] => { results := [.lit (.bool true)], args := [d] }
  | _ => none }
def fnExactMirrorBoardRow : OpenClaim := { program := "ytjcbpghhgobadaa", sum := "145fc870d10c2ea50d765a88d99d80ad53a30ed680debd1357d8226a5dc4ab11", func := "loop.example/g01239/laws.FnExactMirrorBoard", spec := "fnExactMirrorBoard", unfollowed := true, recurses := true, apart := false }
def FnExactMirrorBoardSaid : Prop := fnExactMirrorBoardRow.holds Try.pinned (OpenSpec.ofChange fnExactMirrorBoardSpec)

/-- ITS FALSE NEIGHBOUR: 'it returns false'. Refute it at one input. -/
def fnExactMirrorBoardWrong : ChangeSpec := { name := "fnExactMirrorBoard", fn := fun _ => fun
  | [d] => { results := [.lit (.bool false)], args := [d] }
  | _ => none }
def FnExactMirrorBoardWrongFalsely : Prop := fnExactMirrorBoardRow.holds Try.pinned (OpenSpec.ofChange fnExactMirrorBoardWrong)

/-- 'laws.FnExactSameDegree': WHATEVER THE INPUT: true; the input reads as it did. -/
def fnExactSameDegreeSpec : ChangeSpec := { name := "fnExactSameDegree", fn := fun _ => fun
  | [d1, d2] => { results := [.lit (.bool true)], args := [d1, d2] }
  | _ => none }
def fnExactSameDegreeRow : OpenClaim := { program := "ytjcbpghhgobadaa", sum := "145fc870d10c2ea50d765a88d99d80ad53a30ed680debd1357d8226a5dc4ab11", func := "loop.example/g01239/laws.FnExactSameDegree", spec := "fnExactSameDegree", recurses := true, apart := false }
def FnExactSameDegreeSaid : Prop := fnExactSameDegreeRow.holds Try.pinned (OpenSpec.ofChange fnExactSameDegreeSpec)

/-- ITS FALSE NEIGHBOUR: 'it returns false'. Refute it at one input. -/
def fnExactSameDegreeWrong : ChangeSpec := { name := "fnExactSameDegree", fn := fun _ => fun
  | [d1, d2] => { results := [.lit (.bool false)], args := [d1, d2] }
  | _ => none }
def FnExactSameDegreeWrongFalsely : Prop := fnExactSameDegreeRow.holds Try.pinned (OpenSpec.ofChange fnExactSameDegreeWrong)

/-- 'laws.FnExactTurnBoard': WHATEVER THE INPUT: true; the input reads as it did. -/
def fnExactTurnBoardSpec : ChangeSpec := { name := "fnExactTurnBoard", fn := fun _ => fun
  | [d] => { results := [.lit (.bool true)], args := [d] }
  | _ => none }
def fnExactTurnBoardRow : OpenClaim := { program := "ytjcbpghhgobadaa", sum := "145fc870d10c2ea50d765a88d99d80ad53a30ed680debd1357d8226a5dc4ab11", func := "loop.example/g01239/laws.FnExactTurnBoard", spec := "fnExactTurnBoard", unfollowed := true, recurses := true, apart := false }
def FnExactTurnBoardSaid : Prop := fnExactTurnBoardRow.holds Try.pinned (OpenSpec.ofChange fnExactTurnBoardSpec)

/-- ITS FALSE NEIGHBOUR: 'it returns false'. Refute it at one input. -/
def fnExactTurnBoardWrong : ChangeSpec := { name := "fnExactTurnBoard", fn := fun _ => fun
  | [d] => { results := [.lit (.bool false)], args := [d] }
  | _ => none }
def FnExactTurnBoardWrongFalsely : Prop := fnExactTurnBoardRow.holds Try.pinned (OpenSpec.ofChange fnExactTurnBoardWrong)

/-- 'laws.FnExactLeapsAround': WHATEVER THE INPUT: true; the input reads as it did. -/
def fnExactLeapsAroundSpec : ChangeSpec := { name := "fnExactLeapsAround", fn := fun _ => fun
  | [d1, d2, d3] => { results := [.lit (.bool true)], args := [d1, d2, d3] }
  | _ => none }
def fnExactLeapsAroundRow : OpenClaim := { program := "ytjcbpghhgobadaa", sum := "145fc870d10c2ea50d765a88d99d80ad53a30ed680debd1357d8226a5dc4ab11", func := "loop.example/g01239/laws.FnExactLeapsAround", spec := "fnExactLeapsAround", recurses := true, apart := false }
def FnExactLeapsAroundSaid : Prop := fnExactLeapsAroundRow.holds Try.pinned (OpenSpec.ofChange fnExactLeapsAroundSpec)

/-- ITS FALSE NEIGHBOUR: 'it returns false'. Refute it at one input. -/
def fnExactLeapsAroundWrong : ChangeSpec := { name := "fnExactLeapsAround", fn := fun _ => fun
  | [d1, d2, d3] => { results := [.lit (.bool false)], args := [d1, d2, d3] }
  | _ => none }
def FnExactLeapsAroundWrongFalsely : Prop := fnExactLeapsAroundRow.holds Try.pinned (OpenSpec.ofChange fnExactLeapsAroundWrong)

/-- 'laws.FnExactIsLeap': WHATEVER THE INPUT: true; the input reads as it did. -/
def fnExactIsLeapSpec : ChangeSpec := { name := "fnExactIsLeap", fn := fun _ => fun
  | [d1, d2, d3, d4] => { results := [.lit (.bool true)], args := [d1, d2, d3, d4] }
  | _ => none }
def fnExactIsLeapRow : OpenClaim := { program := "ytjcbpghhgobadaa", sum := "145fc870d10c2ea50d765a88d99d80ad53a30ed680debd1357d8226a5dc4ab11", func := "loop.example/g01239/laws.FnExactIsLeap", spec := "fnExactIsLeap", recurses := true, apart := false }
def FnExactIsLeapSaid : Prop := fnExactIsLeapRow.holds Try.pinned (OpenSpec.ofChange fnExactIsLeapSpec)

/-- ITS FALSE NEIGHBOUR: 'it returns false'. Refute it at one input. -/
def fnExactIsLeapWrong : ChangeSpec := { name := "fnExactIsLeap", fn := fun _ => fun
  | [d1, d2, d3, d4] => { results := [.lit (.bool false)], args := [d1, d2, d3, d4] }
  | _ => none }
def FnExactIsLeapWrongFalsely : Prop := fnExactIsLeapRow.holds Try.pinned (OpenSpec.ofChange fnExactIsLeapWrong)

/-- 'laws.FnExactDistanceAround': WHATEVER THE INPUT: true; the input reads as it did. -/
def fnExactDistanceAroundSpec : ChangeSpec := { name := "fnExactDistanceAround", fn := fun _ => fun
  | [d1, d2, d3, d4] => { results := [.lit (.bool true)], args := [d1, d2, d3, d4] }
  | _ => none }
def fnExactDistanceAroundRow : OpenClaim := { program := "ytjcbpghhgobadaa", sum := "145fc870d10c2ea50d765a88d99d80ad53a30ed680debd1357d8226a5dc4ab11", func := "loop.example/g01239/laws.FnExactDistanceAround", spec := "fnExactDistanceAround", recurses := true, apart := false }
def FnExactDistanceAroundSaid : Prop := fnExactDistanceAroundRow.holds Try.pinned (OpenSpec.ofChange fnExactDistanceAroundSpec)

/-- ITS FALSE NEIGHBOUR: 'it returns false'. Refute it at one input. -/
def fnExactDistanceAroundWrong : ChangeSpec := { name := "fnExactDistanceAround", fn := fun _ => fun
  | [d1, d2, d3, d4] => { results := [.lit (.bool false)], args := [d1, d2, d3, d4] }
  | _ => none }
def FnExactDistanceAroundWrongFalsely : Prop := fnExactDistanceAroundRow.holds Try.pinned (OpenSpec.ofChange fnExactDistanceAroundWrong)

/-- 'laws.FnExactIsPath': WHATEVER THE INPUT: true; the input reads as it did. -/
def fnExactIsPathSpec : ChangeSpec := { name := "fnExactIsPath", fn := fun _ => fun
  | [d1, d2, d3] => { results := [.lit (.bool true)], args := [d1, d2, d3] }
  | _ => none }
def fnExactIsPathRow : OpenClaim := { program := "ytjcbpghhgobadaa", sum := "145fc870d10c2ea50d765a88d99d80ad53a30ed680debd1357d8226a5dc4ab11", func := "loop.example/g01239/laws.FnExactIsPath", spec := "fnExactIsPath", recurses := true, apart := false }
def FnExactIsPathSaid : Prop := fnExactIsPathRow.holds Try.pinned (OpenSpec.ofChange fnExactIsPathSpec)

/-- ITS FALSE NEIGHBOUR: 'it returns false'. Refute it at one input. -/
def fnExactIsPathWrong : ChangeSpec := { name := "fnExactIsPath", fn := fun _ => fun
  | [d1, d2, d3] => { results := [.lit (.bool false)], args := [d1, d2, d3] }
  | _ => none }
def FnExactIsPathWrongFalsely : Prop := fnExactIsPathRow.holds Try.pinned (OpenSpec.ofChange fnExactIsPathWrong)

/-- 'laws.FnExactCountParts': WHATEVER THE INPUT: true; the input reads as it did. -/
def fnExactCountPartsSpec : ChangeSpec := { name := "fnExactCountParts", fn := fun _ => fun
  | [d1, d2] => { results := [.lit (.bool true)], args := [d1, d2] }
  | _ => none }
def fnExactCountPartsRow : OpenClaim := { program := "ytjcbpghhgobadaa", sum := "145fc870d10c2ea50d765a88d99d80ad53a30ed680debd1357d8226a5dc4ab11", func := "loop.example/g01239/laws.FnExactCountParts", spec := "fnExactCountParts", recurses := true, apart := false }
def FnExactCountPartsSaid : Prop := fnExactCountPartsRow.holds Try.pinned (OpenSpec.ofChange fnExactCountPartsSpec)

/-- ITS FALSE NEIGHBOUR: 'it returns false'. Refute it at one input. -/
def fnExactCountPartsWrong : ChangeSpec := { name := "fnExactCountParts", fn := fun _ => fun
  | [d1, d2] => { results := [.lit (.bool false)], args := [d1, d2] }
  | _ => none }
def FnExactCountPartsWrongFalsely : Prop := fnExactCountPartsRow.holds Try.pinned (OpenSpec.ofChange fnExactCountPartsWrong)

/- THE SECOND FORM. 'bulk': how many values and letters a reading holds, each counted each time it is reached (what is shared counts as often as it is met; a slice's spare places count too). A statement '..UptoSaid' is the law's where the arguments, and the package variables that the reading takes, are together of bulk at most 1048576: NARROWER than '..Said'. Prove '..Said' where nothing that the law and all that it calls make is longer than what came in: it says more and counts as full. Else prove '..UptoSaid'. A law counts once. -/
mutual
def uptoBulk {H : Type} : DataW H → Nat
  | .lit (.string bytes) => bytes.length + 1
  | .lit _ => 1
  | .nil => 1
  | .ptr d => uptoBulk d + 1
  | .slice elems spare => uptoBulkAll elems + uptoBulkAll spare + 1
  | .agg parts => uptoBulkAll parts + 1
  | .iface _ d => uptoBulk d + 1
  | .map entries => uptoBulkEntries entries + 1
  | .held _ => 1
def uptoBulkAll {H : Type} : List (DataW H) → Nat
  | [] => 0
  | d :: r => uptoBulk d + uptoBulkAll r
def uptoBulkEntries {H : Type} : List (Lit × DataW H) → Nat
  | [] => 0
  | x :: r => uptoBulkEntry x + uptoBulkEntries r
def uptoBulkEntry {H : Type} : Lit × DataW H → Nat
  | (.string bytes, d) => bytes.length + uptoBulk d + 1
  | (_, d) => uptoBulk d + 1
 end
def uptoSmall : (H : Type) → List (DataW H) → Bool := fun _ ds => decide (uptoBulkAll ds ≤ 1048576)
def OpenSpec.upto (s : _root_.Go.ChangeSpec) : _root_.Go.OpenSpec := { _root_.Go.OpenSpec.ofChange s with cond := some uptoSmall }

/-- 'laws.FnExactCountLeaps', WHERE WHAT IT READS IS OF BULK AT MOST 1048576: true; the input reads as it did. -/
def fnExactCountLeapsUptoRow : OpenClaim := { program := "ytjcbpghhgobadaa", sum := "145fc870d10c2ea50d765a88d99d80ad53a30ed680debd1357d8226a5dc4ab11", func := "loop.example/g01239/laws.FnExactCountLeaps", spec := "fnExactCountLeaps", recurses := true, apart := false, narrowed := true }
def FnExactCountLeapsUptoSaid : Prop := fnExactCountLeapsUptoRow.holds Try.pinned (OpenSpec.upto fnExactCountLeapsSpec)

/-- 'laws.FnExactTwoColoursAround', WHERE WHAT IT READS IS OF BULK AT MOST 1048576: true; the input reads as it did. -/
def fnExactTwoColoursAroundUptoRow : OpenClaim := { program := "ytjcbpghhgobadaa", sum := "145fc870d10c2ea50d765a88d99d80ad53a30ed680debd1357d8226a5dc4ab11", func := "loop.example/g01239/laws.FnExactTwoColoursAround", spec := "fnExactTwoColoursAround", recurses := true, apart := false, narrowed := true }
def FnExactTwoColoursAroundUptoSaid : Prop := fnExactTwoColoursAroundUptoRow.holds Try.pinned (OpenSpec.upto fnExactTwoColoursAroundSpec)

/-- 'laws.FnExactIsWalk', WHERE WHAT IT READS IS OF BULK AT MOST 1048576: true; the input reads as it did. -/
def fnExactIsWalkUptoRow : OpenClaim := { program := "ytjcbpghhgobadaa", sum := "145fc870d10c2ea50d765a88d99d80ad53a30ed680debd1357d8226a5dc4ab11", func := "loop.example/g01239/laws.FnExactIsWalk", spec := "fnExactIsWalk", recurses := true, apart := false, narrowed := true }
def FnExactIsWalkUptoSaid : Prop := fnExactIsWalkUptoRow.holds Try.pinned (OpenSpec.upto fnExactIsWalkSpec)

/-- 'laws.FnExactCountLeapsAround', WHERE WHAT IT READS IS OF BULK AT MOST 1048576: true; the input reads as it did. -/
def fnExactCountLeapsAroundUptoRow : OpenClaim := { program := "ytjcbpghhgobadaa", sum := "145fc870d10c2ea50d765a88d99d80ad53a30ed680debd1357d8226a5dc4ab11", func := "loop.example/g01239/laws.FnExactCountLeapsAround", spec := "fnExactCountLeapsAround", recurses := true, apart := false, narrowed := true }
def FnExactCountLeapsAroundUptoSaid : Prop := fnExactCountLeapsAroundUptoRow.holds Try.pinned (OpenSpec.upto fnExactCountLeapsAroundSpec)

/-- 'laws.FnExactMirrorBoard', WHERE WHAT IT READS IS OF BULK AT MOST 1048576: true; the input reads as it did. -/
def fnExactMirrorBoardUptoRow : OpenClaim := { program := "ytjcbpghhgobadaa", sum := "145fc870d10c2ea50d765a88d99d80ad53a30ed680debd1357d8226a5dc4ab11", func := "loop.example/g01239/laws.FnExactMirrorBoard", spec := "fnExactMirrorBoard", unfollowed := true, recurses := true, apart := false, narrowed := true }
def FnExactMirrorBoardUptoSaid : Prop := fnExactMirrorBoardUptoRow.holds Try.pinned (OpenSpec.upto fnExactMirrorBoardSpec)

/-- 'laws.FnExactSameDegree', WHERE WHAT IT READS IS OF BULK AT MOST 1048576: true; the input reads as it did. -/
def fnExactSameDegreeUptoRow : OpenClaim := { program := "ytjcbpghhgobadaa", sum := "145fc870d10c2ea50d765a88d99d80ad53a30ed680debd1357d8226a5dc4ab11", func := "loop.example/g01239/laws.FnExactSameDegree", spec := "fnExactSameDegree", recurses := true, apart := false, narrowed := true }
def FnExactSameDegreeUptoSaid : Prop := fnExactSameDegreeUptoRow.holds Try.pinned (OpenSpec.upto fnExactSameDegreeSpec)

/-- 'laws.FnExactTurnBoard', WHERE WHAT IT READS IS OF BULK AT MOST 1048576: true; the input reads as it did. -/
def fnExactTurnBoardUptoRow : OpenClaim := { program := "ytjcbpghhgobadaa", sum := "145fc870d10c2ea50d765a88d99d80ad53a30ed680debd1357d8226a5dc4ab11", func := "loop.example/g01239/laws.FnExactTurnBoard", spec := "fnExactTurnBoard", unfollowed := true, recurses := true, apart := false, narrowed := true }
def FnExactTurnBoardUptoSaid : Prop := fnExactTurnBoardUptoRow.holds Try.pinned (OpenSpec.upto fnExactTurnBoardSpec)

/-- 'laws.FnExactLeapsAround', WHERE WHAT IT READS IS OF BULK AT MOST 1048576: true; the input reads as it did. -/
def fnExactLeapsAroundUptoRow : OpenClaim := { program := "ytjcbpghhgobadaa", sum := "145fc870d10c2ea50d765a88d99d80ad53a30ed680debd1357d8226a5dc4ab11", func := "loop.example/g01239/laws.FnExactLeapsAround", spec := "fnExactLeapsAround", recurses := true, apart := false, narrowed := true }
def FnExactLeapsAroundUptoSaid : Prop := fnExactLeapsAroundUptoRow.holds Try.pinned (OpenSpec.upto fnExactLeapsAroundSpec)

/-- 'laws.FnExactIsLeap', WHERE WHAT IT READS IS OF BULK AT MOST 1048576: true; the input reads as it did. -/
def fnExactIsLeapUptoRow : OpenClaim := { program := "ytjcbpghhgobadaa", sum := "145fc870d10c2ea50d765a88d99d80ad53a30ed680debd1357d8226a5dc4ab11", func := "loop.example/g01239/laws.FnExactIsLeap", spec := "fnExactIsLeap", recurses := true, apart := false, narrowed := true }
def FnExactIsLeapUptoSaid : Prop := fnExactIsLeapUptoRow.holds Try.pinned (OpenSpec.upto fnExactIsLeapSpec)

/-- 'laws.FnExactDistanceAround', WHERE WHAT IT READS IS OF BULK AT MOST 1048576: true; the input reads as it did. -/
def fnExactDistanceAroundUptoRow : OpenClaim := { program := "ytjcbpghhgobadaa", sum := "145fc870d10c2ea50d765a88d99d80ad53a30ed680debd1357d8226a5dc4ab11", func := "loop.example/g01239/laws.FnExactDistanceAround", spec := "fnExactDistanceAround", recurses := true, apart := false, narrowed := true }
def FnExactDistanceAroundUptoSaid : Prop := fnExactDistanceAroundUptoRow.holds Try.pinned (OpenSpec.upto fnExactDistanceAroundSpec)

/-- 'laws.FnExactIsPath', WHERE WHAT IT READS IS OF BULK AT MOST 1048576: true; the input reads as it did. -/
def fnExactIsPathUptoRow : OpenClaim := { program := "ytjcbpghhgobadaa", sum := "145fc870d10c2ea50d765a88d99d80ad53a30ed680debd1357d8226a5dc4ab11", func := "loop.example/g01239/laws.FnExactIsPath", spec := "fnExactIsPath", recurses := true, apart := false, narrowed := true }
def FnExactIsPathUptoSaid : Prop := fnExactIsPathUptoRow.holds Try.pinned (OpenSpec.upto fnExactIsPathSpec)

/-- 'laws.FnExactCountParts', WHERE WHAT IT READS IS OF BULK AT MOST 1048576: true; the input reads as it did. -/
def fnExactCountPartsUptoRow : OpenClaim := { program := "ytjcbpghhgobadaa", sum := "145fc870d10c2ea50d765a88d99d80ad53a30ed680debd1357d8226a5dc4ab11", func := "loop.example/g01239/laws.FnExactCountParts", spec := "fnExactCountParts", recurses := true, apart := false, narrowed := true }
def FnExactCountPartsUptoSaid : Prop := fnExactCountPartsUptoRow.holds Try.pinned (OpenSpec.upto fnExactCountPartsSpec)

end Rows
end Go.Proofs.Ytjcbpghhgobadaa
