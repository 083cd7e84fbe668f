/- The statement about numbers and lists alone to which the row of laws.FnExactTurnCell comes down: for every input within the reach there is a number of rounds at which the law's function answers true. -/
import Derived.Test.YtebaenenphckbaaPFnExactTurnCellx4
namespace Go.Proofs.Ytebaenenphckbaa.Said
open Go.RowKit Go.Proofs.Ytebaenenphckbaa.PFnExactTurnCell Go.Proofs.YtebaenenphckbaaW.PrintWords Go.Proofs.YtebaenenphckbaaW.PrintLast
def FnExactTurnCell : Prop := ∀ (a0_0 : Int) (a0_1 : Int) (l0_2 : List Int) (a1 : Int), (Lit.int .i64 a0_0).wf = true → (Lit.int .i64 a0_1).wf = true → l0_2.length * 8 ≤ 140737488351232 → (∀ x ∈ l0_2, (Lit.int .i64 x).wf = true) → (Lit.int .i64 a1).wf = true → ∃ k, laws_FnExactTurnCell.f k a0_0 a0_1 l0_2 a1 = some true
end Go.Proofs.Ytebaenenphckbaa.Said
