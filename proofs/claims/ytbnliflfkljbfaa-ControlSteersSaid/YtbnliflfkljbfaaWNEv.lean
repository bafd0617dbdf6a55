/- Words of the print, those that this claim's walks use. -/
import Derived.Test.YtbnliflfkljbfaaWN
namespace Go.Proofs.YtbnliflfkljbfaaW.PrintWords
open Go.RowKit
namespace Kd
end Kd
end Go.Proofs.YtbnliflfkljbfaaW.PrintWords
