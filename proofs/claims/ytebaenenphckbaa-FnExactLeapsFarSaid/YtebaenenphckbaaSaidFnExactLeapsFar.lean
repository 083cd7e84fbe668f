/- The statement about numbers and lists alone to which the row of laws.FnExactLeapsFar comes down: for every input within the reach there is a number of rounds at which the law's function answers true. -/
import Derived.Test.YtebaenenphckbaaMFnExactLeapsFarx4
namespace Go.Proofs.Ytebaenenphckbaa.Said
open Go.RowKit Go.Proofs.Ytebaenenphckbaa.PFnExactLeapsFar Go.Proofs.YtebaenenphckbaaW.PrintWords Go.Proofs.YtebaenenphckbaaW.PrintLast
def FnExactLeapsFar : Prop := ∀ (a0_0 : Int) (a0_1 : Int) (a1 : Int) (a2 : Int), (Lit.int .i64 a0_0).wf = true → (Lit.int .i64 a0_1).wf = true → (Lit.int .i64 a1).wf = true → (Lit.int .i64 a2).wf = true → ∃ k, laws_FnExactLeapsFar.f k a0_0 a0_1 a1 a2 = some true
end Go.Proofs.Ytebaenenphckbaa.Said
