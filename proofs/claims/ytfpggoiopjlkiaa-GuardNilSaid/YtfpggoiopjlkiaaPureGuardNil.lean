/- A nil backup asks for nothing. -/
import Derived.Test.YtfpggoiopjlkiaaPGuardNilx6
namespace Go.Proofs.Ytfpggoiopjlkiaa.Pure
open Go.RowKit Go.Proofs.Ytfpggoiopjlkiaa.PGuardNil Go.Proofs.YtfpggoiopjlkiaaW.PrintWords Go.Proofs.YtfpggoiopjlkiaaW.PrintLast

set_option linter.unusedVariables false
set_option linter.unusedSimpArgs false
theorem Ev.now {α : Type} (r : α) : Ev (fun _ => some r) r := ⟨0, fun _ _ => rfl⟩

theorem awake_ev : Ev (fun k => windhoverlaw18_awake.f k) true := by
  have h : windhoverlaw18_awake.f 60 = some true := by decide +kernel
  exact Ev.of (fun k => windhoverlaw18_awake.mono k) h
theorem GuardNil : windhoverlaw18_GuardNil.Pure := by
  intro a ha
  apply Ev.rounds
  exact Ev.congr (fun k => by rw [windhoverlaw18_GuardNil.f]) awake_ev

end Go.Proofs.Ytfpggoiopjlkiaa.Pure
