/- Words of the print, those that this claim's walks use. -/
import Derived.Test.YtpfnonfehkiemaaWApart
import Derived.Test.YtpfnonfehkiemaaWArr
namespace Go.Proofs.YtpfnonfehkiemaaW.PrintWords
open Go.RowKit
namespace Kd
end Kd
end Go.Proofs.YtpfnonfehkiemaaW.PrintWords
