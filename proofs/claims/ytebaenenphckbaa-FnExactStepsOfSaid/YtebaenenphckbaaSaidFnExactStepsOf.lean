/- The statement about numbers and lists alone to which the row of laws.FnExactStepsOf comes down: for every input within the reach there is a number of rounds at which the law's function answers true. -/
import Derived.Test.YtebaenenphckbaaMFnExactStepsOfx2
namespace Go.Proofs.Ytebaenenphckbaa.Said
open Go.RowKit Go.Proofs.Ytebaenenphckbaa.PFnExactStepsOf Go.Proofs.YtebaenenphckbaaW.PrintWords Go.Proofs.YtebaenenphckbaaW.PrintLast
def FnExactStepsOf : Prop := ∀ (a0_0 : Int) (a0_1 : Int), (Lit.int .i64 a0_0).wf = true → (Lit.int .i64 a0_1).wf = true → ∃ k, laws_FnExactStepsOf.f k a0_0 a0_1 = some true
end Go.Proofs.Ytebaenenphckbaa.Said
