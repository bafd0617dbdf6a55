/- The plain law of ControlNil. -/
import Derived.Test.YtbnliflfkljbfaaPControlNilx6
namespace Go.Proofs.Ytbnliflfkljbfaa.Pure
open Go.RowKit Go.Proofs.Ytbnliflfkljbfaa.PControlNil Go.Proofs.YtbnliflfkljbfaaW.PrintWords Go.Proofs.YtbnliflfkljbfaaW.PrintLast

set_option linter.unusedVariables false
set_option linter.unusedSimpArgs false
theorem Ev.now {α : Type} (r : α) : Ev (fun _ => some r) r := ⟨0, fun _ _ => rfl⟩

set_option maxRecDepth 100000 in
theorem awake17_ev : Ev (fun k => windhoverlaw17_awake.f k) true := by
  have h : windhoverlaw17_awake.f 120 = some true := by decide +kernel
  exact Ev.of (fun k => windhoverlaw17_awake.mono k) h
theorem ControlNil : windhoverlaw17_ControlNil.Pure := by
  intro a _
  apply Ev.rounds
  refine Ev.congr (fun k => ?_) (Ev.bind awake17_ev (Ev.now true))
  rw [windhoverlaw17_ControlNil.f]
  rfl

end Go.Proofs.Ytbnliflfkljbfaa.Pure
