/- The statement about numbers and lists alone to which the row of laws.FnExactReachesAll comes down: for every input within the reach there is a number of rounds at which the law's function answers true. -/
import Derived.Test.YthoddembnkmldaaPFnExactReachesAllx1
namespace Go.Proofs.Ythoddembnkmldaa.Said
open Go.RowKit Go.Proofs.Ythoddembnkmldaa.PFnExactReachesAll Go.Proofs.YthoddembnkmldaaW.PrintWords Go.Proofs.YthoddembnkmldaaW.PrintLast
def FnExactReachesAll : Prop := ∀ (a0_0 : Int) (a0_1 : Int), (Lit.int .i64 a0_0).wf = true → (Lit.int .i64 a0_1).wf = true → ∃ k, laws_FnExactReachesAll.f k a0_0 a0_1 = some true
end Go.Proofs.Ythoddembnkmldaa.Said
