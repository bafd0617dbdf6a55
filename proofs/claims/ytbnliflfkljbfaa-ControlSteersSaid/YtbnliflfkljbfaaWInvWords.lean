/- Words of the print, those that this claim's walks use. -/
import Derived.Test.YtbnliflfkljbfaaWInv
import Derived.Test.YtbnliflfkljbfaaWFootNe
namespace Go.Proofs.YtbnliflfkljbfaaW.PrintWords
open Go.RowKit
end Go.Proofs.YtbnliflfkljbfaaW.PrintWords
namespace Go.Proofs.YtbnliflfkljbfaaW.PrintLast
end Go.Proofs.YtbnliflfkljbfaaW.PrintLast
