/- The statement about numbers and lists alone to which the row of laws.FnExactParsePath comes down: for every input within the reach there is a number of rounds at which the law's function answers true. -/
import Derived.Test.YtbgabdbbkimcaaaDoorMFnExactParsePathx3
namespace Go.Proofs.YtbgabdbbkimcaaaDoor.Said
open Go.RowKit Go.Proofs.YtbgabdbbkimcaaaDoor.PFnExactParsePath Go.Proofs.YtbgabdbbkimcaaaDoorW.PrintWords Go.Proofs.YtbgabdbbkimcaaaDoorW.PrintLast
def FnExactParsePath : Prop := ∀ (a0_0 : Int) (a0_1 : Int) (l0_2 : List Int) (a1 : ByteArray), (Lit.int .i64 a0_0).wf = true → (Lit.int .i64 a0_1).wf = true → l0_2.length * 8 ≤ 140737488351232 → (∀ x ∈ l0_2, (Lit.int .i64 x).wf = true) → a1.size ≤ 140737488351232 → ∃ k, laws_FnExactParsePath.f k a0_0 a0_1 l0_2 a1 = some true
end Go.Proofs.YtbgabdbbkimcaaaDoor.Said
