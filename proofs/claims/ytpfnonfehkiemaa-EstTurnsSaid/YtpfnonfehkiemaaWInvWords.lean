/- Words of the print, those that this claim's walks use. -/
import Derived.Test.YtpfnonfehkiemaaWInv
import Derived.Test.YtpfnonfehkiemaaWFootNe
namespace Go.Proofs.YtpfnonfehkiemaaW.PrintWords
open Go.RowKit
end Go.Proofs.YtpfnonfehkiemaaW.PrintWords
namespace Go.Proofs.YtpfnonfehkiemaaW.PrintLast
end Go.Proofs.YtpfnonfehkiemaaW.PrintLast
