/- The statement about numbers and lists alone to which the row of laws.FnExactIsAround comes down: for every input within the reach there is a number of rounds at which the law's function answers true. -/
import Derived.Test.YthoddembnkmldaaPFnExactIsAroundx1
namespace Go.Proofs.Ythoddembnkmldaa.Said
open Go.RowKit Go.Proofs.Ythoddembnkmldaa.PFnExactIsAround Go.Proofs.YthoddembnkmldaaW.PrintWords Go.Proofs.YthoddembnkmldaaW.PrintLast
def FnExactIsAround : Prop := ∀ (a0_0 : Int) (a0_1 : Int) (a0_2 : Bool) (a0_3 : Bool), (Lit.int .i64 a0_0).wf = true → (Lit.int .i64 a0_1).wf = true → laws_FnExactIsAround.f a0_0 a0_1 a0_2 a0_3 = some true
end Go.Proofs.Ythoddembnkmldaa.Said
