/- The statement about numbers and lists alone to which the row of laws.FnExactCanReachFar comes down: for every input within the reach there is a number of rounds at which the law's function answers true. -/
import Derived.Test.YthoddembnkmldaaPFnExactCanReachFarx1
namespace Go.Proofs.Ythoddembnkmldaa.Said
open Go.RowKit Go.Proofs.Ythoddembnkmldaa.PFnExactCanReachFar Go.Proofs.YthoddembnkmldaaW.PrintWords Go.Proofs.YthoddembnkmldaaW.PrintLast
def FnExactCanReachFar : Prop := ∀ (a0_0 : Int) (a0_1 : Int) (a1 : Int) (a2 : Int), (Lit.int .i64 a0_0).wf = true → (Lit.int .i64 a0_1).wf = true → (Lit.int .i64 a1).wf = true → (Lit.int .i64 a2).wf = true → ∃ k, laws_FnExactCanReachFar.f k a0_0 a0_1 a1 a2 = some true
end Go.Proofs.Ythoddembnkmldaa.Said
