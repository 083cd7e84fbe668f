/- Words of the walk (those of the seat's printed words that this claim's texts reach). -/
import Derived.Test.YtogkcfddoiloeaaUInv
import Derived.Test.YtogkcfddoiloeaaUFootNe
namespace Go.Proofs.YtogkcfddoiloeaaW.PrintWords
open Go.RowKit
end Go.Proofs.YtogkcfddoiloeaaW.PrintWords
namespace Go.Proofs.YtogkcfddoiloeaaW.PrintLast
end Go.Proofs.YtogkcfddoiloeaaW.PrintLast
