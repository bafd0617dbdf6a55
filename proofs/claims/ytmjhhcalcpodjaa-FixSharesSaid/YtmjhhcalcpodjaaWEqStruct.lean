/- Words of the print, those that this claim's walks use. -/
import Derived.Test.YtmjhhcalcpodjaaWWords
import Derived.Laws.StructEq
namespace Go.Proofs.YtmjhhcalcpodjaaW.PrintWords
open Go.RowKit
end Go.Proofs.YtmjhhcalcpodjaaW.PrintWords
