/- The statement about numbers and lists alone to which the row of laws.FnExactCellOfName comes down: for every input within the reach there is a number of rounds at which the law's function answers true. -/
import Derived.Test.YtogkcfddoiloeaaMFnExactCellOfNamex5
namespace Go.Proofs.Ytogkcfddoiloeaa.Said
open Go.RowKit Go.Proofs.Ytogkcfddoiloeaa.PFnExactCellOfName Go.Proofs.YtogkcfddoiloeaaW.PrintWords Go.Proofs.YtogkcfddoiloeaaW.PrintLast
def FnExactCellOfName : Prop := ∀ (a0_0 : Int) (a0_1 : Int) (l0_2 : List Int) (a1 : ByteArray), (Lit.int .i64 a0_0).wf = true → (Lit.int .i64 a0_1).wf = true → l0_2.length * 8 ≤ 140737488351232 → (∀ x ∈ l0_2, (Lit.int .i64 x).wf = true) → a1.size ≤ 140737488351232 → ∃ k, laws_FnExactCellOfName.f k a0_0 a0_1 l0_2 a1 = some true
end Go.Proofs.Ytogkcfddoiloeaa.Said
