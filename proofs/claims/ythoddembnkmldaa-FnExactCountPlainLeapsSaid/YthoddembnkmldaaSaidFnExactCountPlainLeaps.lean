/- The statement about numbers and lists alone to which the row of laws.FnExactCountPlainLeaps comes down: for every input within the reach there is a number of rounds at which the law's function answers true. -/
import Derived.Test.YthoddembnkmldaaPFnExactCountPlainLeapsx2
namespace Go.Proofs.Ythoddembnkmldaa.Said
open Go.RowKit Go.Proofs.Ythoddembnkmldaa.PFnExactCountPlainLeaps Go.Proofs.YthoddembnkmldaaW.PrintWords Go.Proofs.YthoddembnkmldaaW.PrintLast
def FnExactCountPlainLeaps : Prop := ∀ (a0 : Int) (a1 : Int) (a2_0 : Int) (a2_1 : Int), (Lit.int .i64 a0).wf = true → (Lit.int .i64 a1).wf = true → (Lit.int .i64 a2_0).wf = true → (Lit.int .i64 a2_1).wf = true → ∃ k, laws_FnExactCountPlainLeaps.f k a0 a1 a2_0 a2_1 = some true
end Go.Proofs.Ythoddembnkmldaa.Said
