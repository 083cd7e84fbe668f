/- The statement about numbers and lists alone to which the row of laws.FnExactVisitsAll comes down: for every input within the reach there is a number of rounds at which the law's function answers true. -/
import Derived.Test.YtebaenenphckbaaMFnExactVisitsAllx7
namespace Go.Proofs.Ytebaenenphckbaa.Said
open Go.RowKit Go.Proofs.Ytebaenenphckbaa.PFnExactVisitsAll Go.Proofs.YtebaenenphckbaaW.PrintWords Go.Proofs.YtebaenenphckbaaW.PrintLast
def FnExactVisitsAll : Prop := ∀ (a0_0 : Int) (a0_1 : Int) (a0_2 : Bool) (a0_3 : Bool) (a1_0 : Int) (a1_1 : Int) (a2 : Int) (a3 : Int) (a4 : Int), (Lit.int .i64 a0_0).wf = true → (Lit.int .i64 a0_1).wf = true → (Lit.int .i64 a1_0).wf = true → (Lit.int .i64 a1_1).wf = true → (Lit.int .i64 a2).wf = true → (Lit.int .i64 a3).wf = true → (Lit.int .i64 a4).wf = true → ∃ k, laws_FnExactVisitsAll.f k a0_0 a0_1 a0_2 a0_3 a1_0 a1_1 a2 a3 a4 = some true
end Go.Proofs.Ytebaenenphckbaa.Said
