/- The statement about numbers and lists alone to which the row of laws.FnExactPathText comes down: for every input within the reach there is a number of rounds at which the law's function answers true. -/
import Derived.Test.YtogkcfddoiloeaaMFnExactPathTextx3
namespace Go.Proofs.Ytogkcfddoiloeaa.Said
open Go.RowKit Go.Proofs.Ytogkcfddoiloeaa.PFnExactPathText Go.Proofs.YtogkcfddoiloeaaW.PrintWords Go.Proofs.YtogkcfddoiloeaaW.PrintLast
def FnExactPathText : Prop := ∀ (a0_0 : Int) (a0_1 : Int) (l0_2 : List Int) (l1 : List Int), (Lit.int .i64 a0_0).wf = true → (Lit.int .i64 a0_1).wf = true → l0_2.length * 8 ≤ 140737488351232 → (∀ x ∈ l0_2, (Lit.int .i64 x).wf = true) → l1.length * 8 ≤ 140737488351232 → (∀ x ∈ l1, (Lit.int .i64 x).wf = true) → ∃ k, laws_FnExactPathText.f k a0_0 a0_1 l0_2 l1 = some true
end Go.Proofs.Ytogkcfddoiloeaa.Said
