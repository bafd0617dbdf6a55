/- EstNil: for any measure, a nil filter and a nil compass of est know nothing, and the awake example holds. -/
import Derived.Test.YtpfnonfehkiemaaPEstNilx8
namespace Go.Proofs.Ytpfnonfehkiemaa.Pure
open Go.RowKit Go.Proofs.Ytpfnonfehkiemaa.PEstNil Go.Proofs.YtpfnonfehkiemaaW.PrintWords Go.Proofs.YtpfnonfehkiemaaW.PrintLast

set_option linter.unusedVariables false
set_option linter.unusedSimpArgs false
theorem Ev.now {α : Type} (r : α) : Ev (fun _ => some r) r := ⟨0, fun _ _ => rfl⟩

set_option maxRecDepth 100000 in
theorem awake13_ev : Ev (fun k => windhoverlaw13_awake.f k) true := by
  have h : windhoverlaw13_awake.f 60 = some true := by decide +kernel
  exact Ev.of (fun k => windhoverlaw13_awake.mono k) h
theorem EstNil : windhoverlaw13_EstNil.Pure := by
  intro a b c _ _
  apply Ev.rounds
  have hm : est_Filter_Middle_nil.f = some (0, 0) := by decide +kernel
  refine Ev.congr (fun k => ?_) (Ev.bind awake13_ev (Ev.now true))
  rw [windhoverlaw13_EstNil.f, hm]
  rfl

end Go.Proofs.Ytpfnonfehkiemaa.Pure
