/- Words of the print, those that this claim's walks use. -/
import Derived.SizedLaws
import Derived.ChangeSlices
namespace Go.Proofs.YtbgggogkblkopaaW.PrintWords
open Go.ChangeShapes Go.WideShapes
end Go.Proofs.YtbgggogkblkopaaW.PrintWords
