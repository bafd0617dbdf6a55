/- Words of the print, those that this claim's walks use. -/
import Derived.Test.YtmmlahckcgjofaaWFootNe
namespace Go.Proofs.YtmmlahckcgjofaaW.PrintWords
open Go.RowKit
section
variable {w w' u : World} {m B g : Nat} {o : Obj} {row : Option Nat} {S : Nat → Prop} {a : Addr} {v : Value}
theorem below_at (hq : w.drewN m = w') (h : Below B u w) : Below B u w' := by subst hq; exact pw_below_drewN h m
theorem blk_at (hq : w.drewN m = w') (h : w.heap[g]? = some o) : w'.heap[g]? = some o := by subst hq; exact h
end
namespace Kd
end Kd
end Go.Proofs.YtmmlahckcgjofaaW.PrintWords
