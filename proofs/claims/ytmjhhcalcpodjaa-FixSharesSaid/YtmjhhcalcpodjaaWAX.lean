/- Words of the print, those that this claim's walks use. -/
import Derived.Test.YtmjhhcalcpodjaaWWords
import Derived.Test.YtmjhhcalcpodjaaWEqStruct
import Derived.ChangeKeysEq
namespace Go.Proofs.YtmjhhcalcpodjaaW.PrintWords
open Go.RowKit
theorem blk_cells2 {w : World} {g : Nat} {t : TypeId} {a0 a1 : Value} (h : w.heap[g]? = some (.cells #[a0, a1] t (0, 0))) : w.cell? ⟨g, 0, none⟩ = some a0 ∧ w.cell? ⟨g, 1, none⟩ = some a1 := ⟨(blk_cell h 0).trans rfl, (blk_cell h 1).trans rfl⟩
end Go.Proofs.YtmjhhcalcpodjaaW.PrintWords
