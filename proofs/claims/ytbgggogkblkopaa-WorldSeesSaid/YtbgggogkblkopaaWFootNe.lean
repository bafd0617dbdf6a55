/- Words of the print, those that this claim's walks use. -/
import Derived.Test.YtbgggogkblkopaaWN
namespace Go.Proofs.YtbgggogkblkopaaW.PrintWords
open Go.RowKit
namespace Kd
end Kd
end Go.Proofs.YtbgggogkblkopaaW.PrintWords
