/- Words of the print, those that this claim's walks use. -/
import Derived.Test.YtmmlahckcgjofaaWN
namespace Go.Proofs.YtmmlahckcgjofaaW.PrintWords
open Go.RowKit
namespace Kd
end Kd
end Go.Proofs.YtmmlahckcgjofaaW.PrintWords
