/- Words of the print, those that this claim's walks use. -/
import Derived.Test.YtbnliflfkljbfaaWTab
namespace Go.Proofs.YtbnliflfkljbfaaW.PrintLast
end Go.Proofs.YtbnliflfkljbfaaW.PrintLast
