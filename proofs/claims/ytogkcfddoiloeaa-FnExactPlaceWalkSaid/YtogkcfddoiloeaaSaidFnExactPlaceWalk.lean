/- The statement about numbers and lists alone to which the row of laws.FnExactPlaceWalk comes down: for every input within the reach there is a number of rounds at which the law's function answers true. -/
import Derived.Test.YtogkcfddoiloeaaMFnExactPlaceWalkx6
namespace Go.Proofs.Ytogkcfddoiloeaa.Said
open Go.RowKit Go.Proofs.Ytogkcfddoiloeaa.PFnExactPlaceWalk Go.Proofs.YtogkcfddoiloeaaW.PrintWords Go.Proofs.YtogkcfddoiloeaaW.PrintLast
def FnExactPlaceWalk : Prop := ∀ (a0 : Int) (a1 : Int) (l2 : List Int) (a3_0 : Int) (a3_1 : Int) (l3_2 : List Int) (a4 : Int) (a5 : Int), (Lit.int .i64 a0).wf = true → (Lit.int .i64 a1).wf = true → l2.length * 8 ≤ 140737488351232 → (∀ x ∈ l2, (Lit.int .i64 x).wf = true) → (Lit.int .i64 a3_0).wf = true → (Lit.int .i64 a3_1).wf = true → l3_2.length * 8 ≤ 140737488351232 → (∀ x ∈ l3_2, (Lit.int .i64 x).wf = true) → (Lit.int .i64 a4).wf = true → (Lit.int .i64 a5).wf = true → ∃ k, laws_FnExactPlaceWalk.f k a0 a1 l2 a3_0 a3_1 l3_2 a4 a5 = some true
end Go.Proofs.Ytogkcfddoiloeaa.Said
