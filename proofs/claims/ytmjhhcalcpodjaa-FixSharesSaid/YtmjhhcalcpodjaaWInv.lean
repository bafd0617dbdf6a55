/- Words of the print, those that this claim's walks use. -/
import Derived.Test.YtmjhhcalcpodjaaWTab
namespace Go.Proofs.YtmjhhcalcpodjaaW.PrintLast
end Go.Proofs.YtmjhhcalcpodjaaW.PrintLast
