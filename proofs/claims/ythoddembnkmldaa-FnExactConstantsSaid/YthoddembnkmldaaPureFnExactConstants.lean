/- The plain law of laws.FnExactConstants: for every input within the reach there is a number of rounds at which the law's printed function answers true. Conditions: those of the printed statement (each number is of its kind, each list within the reach). -/
import Derived.Test.YthoddembnkmldaaPFnExactConstantsx1
import Derived.IntWalk
namespace Go.Proofs.Ythoddembnkmldaa.Pure
open Go.RowKit Go.Proofs.Ythoddembnkmldaa.PFnExactConstants Go.Proofs.YthoddembnkmldaaW.PrintWords Go.Proofs.YthoddembnkmldaaW.PrintLast Go.Proofs.YthoddembnkmldaaW.PrintMore
theorem FnExactConstants : laws_FnExactConstants.Pure := by
  unfold laws_FnExactConstants.Pure laws_FnExactConstants.f
  rfl

end Go.Proofs.Ythoddembnkmldaa.Pure
