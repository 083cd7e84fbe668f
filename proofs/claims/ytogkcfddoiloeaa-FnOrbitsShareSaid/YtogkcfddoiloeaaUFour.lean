/- Words of the walk (those of the seat's printed words that this claim's texts reach). -/
import Derived.Test.YtogkcfddoiloeaaUTab
namespace Go.Proofs.YtogkcfddoiloeaaW.PrintLast
end Go.Proofs.YtogkcfddoiloeaaW.PrintLast
