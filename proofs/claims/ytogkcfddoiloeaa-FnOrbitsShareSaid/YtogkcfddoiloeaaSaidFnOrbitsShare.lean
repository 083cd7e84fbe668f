/- The statement about lists of numbers alone to which the row of laws.FnOrbitsShare comes down: for every input within the reach there is a number of rounds at which the law's function answers true. -/
import Derived.Test.YtogkcfddoiloeaaYFnOrbitsSharex12
namespace Go.Proofs.Ytogkcfddoiloeaa.Said
open Go.RowKit Go.Proofs.Ytogkcfddoiloeaa.PFnOrbitsShare Go.Proofs.YtogkcfddoiloeaaW.PrintWords Go.Proofs.YtogkcfddoiloeaaW.PrintLast
def FnOrbitsShare : Prop := ∀ (l0 : List Int) (l1 : List Int), l0.length ≤ maxLen → l0.length * 1 ≤ 140737488351232 → (∀ x ∈ l0, (Lit.int .u8 x).wf = true) → l1.length ≤ maxLen → l1.length * 1 ≤ 140737488351232 → (∀ x ∈ l1, (Lit.int .u8 x).wf = true) → ∃ k, laws_FnOrbitsShare.f k l0 l1 = some true
end Go.Proofs.Ytogkcfddoiloeaa.Said
