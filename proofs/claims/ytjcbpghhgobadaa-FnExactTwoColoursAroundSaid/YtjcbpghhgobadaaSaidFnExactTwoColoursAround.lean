/- The statement about numbers and lists alone to which the row of laws.FnExactTwoColoursAround comes down: for every input within the reach there is a number of rounds at which the law's function answers true. -/
import Derived.Test.YtjcbpghhgobadaaMFnExactTwoColoursAroundx6
namespace Go.Proofs.Ytjcbpghhgobadaa.Said
open Go.RowKit Go.Proofs.Ytjcbpghhgobadaa.PFnExactTwoColoursAround Go.Proofs.YtjcbpghhgobadaaW.PrintWords Go.Proofs.YtjcbpghhgobadaaW.PrintLast
def FnExactTwoColoursAround : Prop := ∀ (a0_0 : Int) (a0_1 : Int) (a0_2 : Bool) (a0_3 : Bool) (a1_0 : Int) (a1_1 : Int), (Lit.int .i64 a0_0).wf = true → (Lit.int .i64 a0_1).wf = true → (Lit.int .i64 a1_0).wf = true → (Lit.int .i64 a1_1).wf = true → ∃ k, laws_FnExactTwoColoursAround.f k a0_0 a0_1 a0_2 a0_3 a1_0 a1_1 = some true
end Go.Proofs.Ytjcbpghhgobadaa.Said
