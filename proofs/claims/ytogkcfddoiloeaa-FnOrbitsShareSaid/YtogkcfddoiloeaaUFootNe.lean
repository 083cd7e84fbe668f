/- Words of the walk (those of the seat's printed words that this claim's texts reach). -/
import Derived.Test.YtogkcfddoiloeaaUN
namespace Go.Proofs.YtogkcfddoiloeaaW.PrintWords
open Go.RowKit
end Go.Proofs.YtogkcfddoiloeaaW.PrintWords
