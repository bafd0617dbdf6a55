/- The law FixClamps: a clamp of fix keeps within its bounds and is the document's, for every three ints. -/
import Derived.Test.YtmjhhcalcpodjaaPFixClampsx4
namespace Go.Proofs.Ytmjhhcalcpodjaa.Pure
open Go.RowKit Go.Proofs.Ytmjhhcalcpodjaa.PFixClamps Go.Proofs.YtmjhhcalcpodjaaW.PrintWords Go.Proofs.YtmjhhcalcpodjaaW.PrintLast

set_option linter.unusedVariables false
set_option linter.unusedSimpArgs false
theorem FixClamps : windhoverlaw01_FixClamps.Pure := by
  intro a b c _ _ _
  have w : windhoverlaw01_awake.f 40 = some true := by decide +kernel
  refine ⟨40, ?_⟩
  rw [windhoverlaw01_FixClamps.f, w]
  by_cases h1 : a < b <;> by_cases h2 : a > c <;> by_cases h3 : b > c <;> simp [fix_Clamp.f, windhoverref01_Clamp.f, h1, h2, h3] <;> omega

end Go.Proofs.Ytmjhhcalcpodjaa.Pure
