/- Words of the walk (those of the seat's printed words that this claim's texts reach). -/
import Derived.Test.YtogkcfddoiloeaaVTab
namespace Go.Proofs.YtogkcfddoiloeaaW.PrintLast
end Go.Proofs.YtogkcfddoiloeaaW.PrintLast
