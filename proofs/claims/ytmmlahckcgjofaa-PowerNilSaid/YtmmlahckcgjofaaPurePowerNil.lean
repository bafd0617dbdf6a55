/- The plain law of PowerNil. -/
import Derived.Test.YtmmlahckcgjofaaPPowerNilx6
namespace Go.Proofs.Ytmmlahckcgjofaa.Pure
open Go.RowKit Go.Proofs.Ytmmlahckcgjofaa.PPowerNil Go.Proofs.YtmmlahckcgjofaaW.PrintWords Go.Proofs.YtmmlahckcgjofaaW.PrintLast

set_option linter.unusedVariables false
set_option linter.unusedSimpArgs false
theorem Ev.now {α : Type} (r : α) : Ev (fun _ => some r) r := ⟨0, fun _ _ => rfl⟩

set_option maxRecDepth 100000 in
theorem awake14_ev : Ev (fun k => windhoverlaw14_awake.f k) true := by
  have h : windhoverlaw14_awake.f 80 = some true := by decide +kernel
  exact Ev.of (fun k => windhoverlaw14_awake.mono k) h
theorem PowerNil : windhoverlaw14_PowerNil.Pure := by
  intro a b _
  apply Ev.rounds
  refine Ev.congr (fun k => ?_) (Ev.bind awake14_ev (Ev.now true))
  rw [windhoverlaw14_PowerNil.f]
  rfl

end Go.Proofs.Ytmmlahckcgjofaa.Pure
