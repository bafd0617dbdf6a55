/- Words of the print, those that this claim's walks use. -/
import Derived.Test.YtmjhhcalcpodjaaWWords
namespace Go.Proofs.YtmjhhcalcpodjaaW.PrintWords
open Go.RowKit
namespace Kd
end Kd
end Go.Proofs.YtmjhhcalcpodjaaW.PrintWords
