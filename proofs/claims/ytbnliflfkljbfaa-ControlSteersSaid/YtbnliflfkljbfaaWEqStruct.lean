/- Words of the print, those that this claim's walks use. -/
import Derived.Test.YtbnliflfkljbfaaWWords
import Derived.Laws.StructEq
namespace Go.Proofs.YtbnliflfkljbfaaW.PrintWords
open Go.RowKit
end Go.Proofs.YtbnliflfkljbfaaW.PrintWords
