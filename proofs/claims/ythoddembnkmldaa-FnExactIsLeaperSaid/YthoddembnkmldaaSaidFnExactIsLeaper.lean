/- The statement about numbers and lists alone to which the row of laws.FnExactIsLeaper comes down: for every input within the reach there is a number of rounds at which the law's function answers true. -/
import Derived.Test.YthoddembnkmldaaPFnExactIsLeaperx1
namespace Go.Proofs.Ythoddembnkmldaa.Said
open Go.RowKit Go.Proofs.Ythoddembnkmldaa.PFnExactIsLeaper Go.Proofs.YthoddembnkmldaaW.PrintWords Go.Proofs.YthoddembnkmldaaW.PrintLast
def FnExactIsLeaper : Prop := ∀ (a0_0 : Int) (a0_1 : Int), (Lit.int .i64 a0_0).wf = true → (Lit.int .i64 a0_1).wf = true → laws_FnExactIsLeaper.f a0_0 a0_1 = some true
end Go.Proofs.Ythoddembnkmldaa.Said
