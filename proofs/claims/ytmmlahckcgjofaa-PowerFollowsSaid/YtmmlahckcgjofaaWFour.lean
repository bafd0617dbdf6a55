/- Words of the print, those that this claim's walks use. -/
import Derived.Test.YtmmlahckcgjofaaWTab
namespace Go.Proofs.YtmmlahckcgjofaaW.PrintLast
end Go.Proofs.YtmmlahckcgjofaaW.PrintLast
