/- Words of the print, those that this claim's walks use. -/
import Derived.Test.YtmmlahckcgjofaaWTab
namespace Go.Proofs.YtmmlahckcgjofaaW.PrintLast
def up (b : Nat → Bool) (i : Nat) : Nat → Bool := fun j => if j = i then true else b j
end Go.Proofs.YtmmlahckcgjofaaW.PrintLast
