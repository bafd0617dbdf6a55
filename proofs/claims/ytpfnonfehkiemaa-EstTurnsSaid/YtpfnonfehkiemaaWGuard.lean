/- Words of the print, those that this claim's walks use. -/
import Derived.Test.YtpfnonfehkiemaaWWords
namespace Go.Proofs.YtpfnonfehkiemaaW.PrintWords
open Go.RowKit
end Go.Proofs.YtpfnonfehkiemaaW.PrintWords
