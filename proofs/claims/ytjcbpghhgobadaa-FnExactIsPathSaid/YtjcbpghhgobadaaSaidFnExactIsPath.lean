/- The statement about numbers and lists alone to which the row of laws.FnExactIsPath comes down: for every input within the reach there is a number of rounds at which the law's function answers true. -/
import Derived.Test.YtjcbpghhgobadaaMFnExactIsPathx5
namespace Go.Proofs.Ytjcbpghhgobadaa.Said
open Go.RowKit Go.Proofs.Ytjcbpghhgobadaa.PFnExactIsPath Go.Proofs.YtjcbpghhgobadaaW.PrintWords Go.Proofs.YtjcbpghhgobadaaW.PrintLast
def FnExactIsPath : Prop := ∀ (a0_0 : Int) (a0_1 : Int) (l0_2 : List Int) (a1_0 : Int) (a1_1 : Int) (l2 : List Int), (Lit.int .i64 a0_0).wf = true → (Lit.int .i64 a0_1).wf = true → l0_2.length * 8 ≤ 140737488351232 → (∀ x ∈ l0_2, (Lit.int .i64 x).wf = true) → (Lit.int .i64 a1_0).wf = true → (Lit.int .i64 a1_1).wf = true → l2.length * 8 ≤ 140737488351232 → (∀ x ∈ l2, (Lit.int .i64 x).wf = true) → ∃ k, laws_FnExactIsPath.f k a0_0 a0_1 l0_2 a1_0 a1_1 l2 = some true
end Go.Proofs.Ytjcbpghhgobadaa.Said
