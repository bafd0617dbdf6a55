/- Words of the print, those that this claim's walks use. -/
import Derived.Test.YtbgggogkblkopaaWInv
import Derived.Test.YtbgggogkblkopaaWFootNe
namespace Go.Proofs.YtbgggogkblkopaaW.PrintWords
open Go.RowKit
end Go.Proofs.YtbgggogkblkopaaW.PrintWords
namespace Go.Proofs.YtbgggogkblkopaaW.PrintLast
end Go.Proofs.YtbgggogkblkopaaW.PrintLast
