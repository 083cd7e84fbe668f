/- The functions that laws.FnExactPathText reaches and their contracts: what the call of each comes to. Conditions: none beyond those in each statement. -/
import Derived.Test.YtogkcfddoiloeaaProg
import Derived.Below
import Derived.Deep.Draws
import Derived.Deep.AppendLies
import Derived.Maps.AppendAt
import Derived.OwnWalk
import Derived.Laws.BytesArg
import Derived.Laws.MakeOwn
import Derived.Laws.OwnMore
import Derived.Deep.OwnRows
import Derived.Tactics
import Derived.Lib.ConvBytes
import Derived.Laws.Slices
import Derived.WalkKit
import Derived.KernelRfl
import Derived.RowKit3
import Derived.Deep.LoopGhost
import Derived.Deep.QuietTactic
import Derived.BigQuiet
import Derived.WideLaws
import Derived.Deep.DeepCutAuto
import Derived.Deep.CutBlock
import Derived.Deep.RegionHeld3
import Derived.Laws.Rows
import Derived.Lib.AppendStr
import Derived.ArgAppend
import Derived.Laws.IdiomCopy
import Derived.OrdersHeld
import Derived.Laws.BitsLemmas
import Derived.RowKit
import Derived.Test.YtogkcfddoiloeaaWWords
import Derived.Test.YtogkcfddoiloeaaWLast
import Derived.Test.YtogkcfddoiloeaaWTab
import Derived.Test.YtogkcfddoiloeaaWFour
import Derived.Test.YtogkcfddoiloeaaWQPut
import Derived.Test.YtogkcfddoiloeaaWApart
import Derived.Test.YtogkcfddoiloeaaWArr
import Derived.Test.YtogkcfddoiloeaaWZeros
import Derived.Test.YtogkcfddoiloeaaWFoot
import Derived.Test.YtogkcfddoiloeaaWKept
import Derived.Test.YtogkcfddoiloeaaWShare
import Derived.Test.YtogkcfddoiloeaaWN
import Derived.Test.YtogkcfddoiloeaaWFootNe
import Derived.Test.YtogkcfddoiloeaaWAt
import Derived.Test.YtogkcfddoiloeaaWEqStruct
import Derived.Test.YtogkcfddoiloeaaWRepsOne
import Derived.Test.YtogkcfddoiloeaaWInv
import Derived.Test.YtogkcfddoiloeaaWInvWords
import Derived.Test.YtogkcfddoiloeaaWGuard
import Derived.Test.YtogkcfddoiloeaaWNEv
import Derived.Test.YtogkcfddoiloeaaWMore
import Derived.Test.YtogkcfddoiloeaaShelf
namespace Go.Proofs.Ytogkcfddoiloeaa.PFnExactPathText
open Go.RowKit Go.Proofs.YtogkcfddoiloeaaW.PrintWords Go.Proofs.YtogkcfddoiloeaaW.PrintLast Go.Proofs.YtogkcfddoiloeaaW.PrintMore
attribute [local go_sem] max2_int min2_int max_two min_two max_three min_three max_four min_four   -- for this text's walks alone
set_option linter.unusedVariables false
set_option linter.unusedSimpArgs false



def errW : Option Int → Value
  | none => .nilIface
  | some c => .iface 0 (.int .i64 c)
theorem errW_none : errW none = .nilIface := rfl
theorem errW_some (c : Int) : errW (some c) = .iface 0 (.int .i64 c) := rfl

theorem info3 : (Try.prog.info? 3).map (fun i => (i.zero, i.size, i.bytes)) = some (some (.int .i64 0), 1, 8) := by kernel_rfl
theorem info5 : (Try.prog.info? 5).map (fun i => (i.zero, i.size, i.bytes)) = some (some (.int .u8 0), 1, 1) := by kernel_rfl
theorem info9 : (Try.prog.info? 9).map (fun i => (i.zero, i.size, i.bytes)) = some (some (.string ⟨#[]⟩), 1, 16) := by kernel_rfl
-- the values' own types

end Go.Proofs.Ytogkcfddoiloeaa.PFnExactPathText
