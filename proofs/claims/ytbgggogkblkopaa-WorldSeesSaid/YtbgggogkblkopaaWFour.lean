/- Words of the print, those that this claim's walks use. -/
import Derived.Test.YtbgggogkblkopaaWTab
namespace Go.Proofs.YtbgggogkblkopaaW.PrintLast
end Go.Proofs.YtbgggogkblkopaaW.PrintLast
