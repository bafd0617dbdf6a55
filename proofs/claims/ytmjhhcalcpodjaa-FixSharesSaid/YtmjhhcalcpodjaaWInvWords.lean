/- Words of the print, those that this claim's walks use. -/
import Derived.Test.YtmjhhcalcpodjaaWInv
import Derived.Test.YtmjhhcalcpodjaaWFootNe
namespace Go.Proofs.YtmjhhcalcpodjaaW.PrintWords
open Go.RowKit
end Go.Proofs.YtmjhhcalcpodjaaW.PrintWords
namespace Go.Proofs.YtmjhhcalcpodjaaW.PrintLast
end Go.Proofs.YtmjhhcalcpodjaaW.PrintLast
