/- Words of the print, those that this claim's walks use. -/
import Derived.Test.YtpfnonfehkiemaaWTab
namespace Go.Proofs.YtpfnonfehkiemaaW.PrintLast
end Go.Proofs.YtpfnonfehkiemaaW.PrintLast
