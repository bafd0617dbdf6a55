-- WRITTEN BY wip/tools/aprint.py of this claim's repository over the kit's words: not typed by hand
import Derived.Test.YtaabdnamofmfcaaPParamsChecksx0
namespace Go.Proofs.Ytaabdnamofmfcaa.PParamsChecks
open Go.RowKit Go.Proofs.YtaabdnamofmfcaaW.PrintWords Go.Proofs.YtaabdnamofmfcaaW.PrintLast Go.Proofs.YtaabdnamofmfcaaW.PrintMore
attribute [local go_sem] max2_int min2_int max_two min_two max_three min_three max_four min_four   -- for this text's walks alone
set_option linter.unusedVariables false
set_option linter.unusedSimpArgs false

/-! ### params_way: function 40 -/
def params_way.f (a0 : Int) (a1 : Int) : Option (Int) := if a1 = 0 then (none) else (some (wrap64 ((wrap64 ((wrap64 (Int.tdiv a0 a1)) * a0)) - (wrap64 (a1 * (wrap64 (Int.tdiv (wrap64 ((wrap64 (Int.tdiv a0 a1)) * (wrap64 ((wrap64 (Int.tdiv a0 a1)) + 1)))) 2)))))))
set_option maxHeartbeats 8000000 in
set_option maxRecDepth 100000 in
theorem params_way.calls (a0 : Int) (a1 : Int) (r : Int) (w : World) (h : params_way.f a0 a1 = some r) :
    Calls Try.prog 40 #[.int .i64 a0, .int .i64 a1] w fun e w' => e = .returned (.int .i64 r) ∧ Drawn0 w w' := by
  have H : (if a1 = 0 then (none) else (some (wrap64 ((wrap64 ((wrap64 (Int.tdiv a0 a1)) * a0)) - (wrap64 (a1 * (wrap64 (Int.tdiv (wrap64 ((wrap64 (Int.tdiv a0 a1)) * (wrap64 ((wrap64 (Int.tdiv a0 a1)) + 1)))) 2)))))))) = some r := h
  clear h
  by_cases c3 : a1 = 0
  · rw [if_pos c3] at H
    exact absurd H (by simp)
  · rw [if_neg c3] at H
    have c3b0 : (a1 == 0) = false := beq_eq_false_iff_ne.mpr c3
    have c3b1 : (a1 != 0) = true := bne_iff_ne.mpr c3
    obtain rfl := Option.some.inj H
    go_enter Try.func40, Try.ntmps40
    go_wp2
    go_ret
    exact ⟨by first | rfl | (simp; done) | (simp [*]; done), by repeat (first | exact Drawn0.refl _ | apply Drawn0.step)⟩

end Go.Proofs.Ytaabdnamofmfcaa.PParamsChecks
