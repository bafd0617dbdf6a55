/- The plain law of ParamsRanges. -/
import Derived.Test.YtaabdnamofmfcaaPParamsRangesx7
namespace Go.Proofs.Ytaabdnamofmfcaa.Pure
open Go.RowKit Go.Proofs.Ytaabdnamofmfcaa.PParamsRanges Go.Proofs.YtaabdnamofmfcaaW.PrintWords Go.Proofs.YtaabdnamofmfcaaW.PrintLast

set_option linter.unusedVariables false
set_option linter.unusedSimpArgs false
theorem Ev.now {α : Type} (r : α) : Ev (fun _ => some r) r := ⟨0, fun _ _ => rfl⟩

theorem awake8_ev : Ev (fun k => windhoverlaw08_awake.f k) true := by
  have h : windhoverlaw08_awake.f 60 = some true := by decide +kernel
  exact Ev.of (fun k => windhoverlaw08_awake.mono k) h

theorem def8_ev : Ev (fun k => params_Defaults.f k) [6, 20, 4, 20, 4, 2, 12, 16000, 8000, 8000, 5000, 2000, 1000, 500, 4000, 400, 8, 1000, 100, 1, 2, 500, 4000, 800] := by
  have h : params_Defaults.f 60 = some [6, 20, 4, 20, 4, 2, 12, 16000, 8000, 8000, 5000, 2000, 1000, 500, 4000, 400, 8, 1000, 100, 1, 2, 500, 4000, 800] := by decide +kernel
  exact Ev.of (fun k => params_Defaults.mono k) h
theorem same8_ev : Ev (fun k => windhoverref00_SameInts.f k [6, 20, 4, 20, 4, 2, 12, 16000, 8000, 8000, 5000, 2000, 1000, 500, 4000, 400, 8, 1000, 100, 1, 2, 500, 4000, 800] [6, 20, 4, 20, 4, 2, 12, 16000, 8000, 8000, 5000, 2000, 1000, 500, 4000, 400, 8, 1000, 100, 1, 2, 500, 4000, 800]) true := by
  have h : windhoverref00_SameInts.f 60 [6, 20, 4, 20, 4, 2, 12, 16000, 8000, 8000, 5000, 2000, 1000, 500, 4000, 400, 8, 1000, 100, 1, 2, 500, 4000, 800] [6, 20, 4, 20, 4, 2, 12, 16000, 8000, 8000, 5000, 2000, 1000, 500, 4000, 400, 8, 1000, 100, 1, 2, 500, 4000, 800] = some true := by decide +kernel
  exact Ev.of (fun k => windhoverref00_SameInts.mono _ _ k) h
theorem apart8 : windhoverkeep_Apart.f [[6, 20, 4, 20, 4, 2, 12, 16000, 8000, 8000, 5000, 2000, 1000, 500, 4000, 400, 8, 1000, 100, 1, 2, 500, 4000, 800], [6, 20, 4, 20, 4, 2, 12, 16000, 8000, 8000, 5000, 2000, 1000, 500, 4000, 400, 8, 1000, 100, 1, 2, 500, 4000, 800]] = some true := by decide
theorem rrange_out {i : Int} (h : ¬ (0 ≤ i ∧ i < 24)) : Ev (fun k => windhoverref08_Range.f k i) (0, 0, 1) := by
  have g : Ev (fun k => windhoverref08_Range.j0 k i true) (0, 0, 1) := Ev.step (f := fun _ => some (0, 0, 1)) (fun k => by rw [windhoverref08_Range.j0, if_pos rfl]) (Ev.now _)
  by_cases h0 : i < 0
  · exact Ev.congr (fun k => by rw [windhoverref08_Range.f, if_pos h0]) g
  · exact Ev.congr (fun k => by rw [windhoverref08_Range.f, if_neg h0, decide_eq_true (show i ≥ 24 by omega)]) g
theorem prange_out {i : Int} (h : ¬ (0 ≤ i ∧ i < 24)) : params_Range.f i = some (0, 0, 1) := by
  unfold params_Range.f
  by_cases h0 : i < 0
  · rw [if_pos h0]
  · rw [if_neg h0, if_pos (show i ≥ 24 by omega)]
theorem ParamsRanges : windhoverlaw08_ParamsRanges.Pure := by
  intro i _
  by_cases h : 0 ≤ i ∧ i < 24
  · have key : ∀ n : Nat, n < 24 → windhoverlaw08_ParamsRanges.f 60 (n : Int) = some true := by decide +kernel
    obtain ⟨n, rfl⟩ : ∃ n : Nat, i = n := ⟨i.toNat, by omega⟩
    exact ⟨60, key n (by omega)⟩
  · apply Ev.rounds
    refine Ev.congr (fun k => by rw [windhoverlaw08_ParamsRanges.f, prange_out h, Option.bind_some]) ?_
    refine Ev.bind (rrange_out h) ?_
    refine Ev.bind def8_ev ?_
    refine Ev.bind def8_ev ?_
    refine Ev.congr (f := fun k => (windhoverref08_Defaults.f).bind fun t428 => ((windhoverref00_SameInts.f k [6, 20, 4, 20, 4, 2, 12, 16000, 8000, 8000, 5000, 2000, 1000, 500, 4000, 400, 8, 1000, 100, 1, 2, 500, 4000, 800] t428).bind fun t431 => (windhoverlaw08_ParamsRanges.j0 k i 1 [6, 20, 4, 20, 4, 2, 12, 16000, 8000, 8000, 5000, 2000, 1000, 500, 4000, 400, 8, 1000, 100, 1, 2, 500, 4000, 800] [6, 20, 4, 20, 4, 2, 12, 16000, 8000, 8000, 5000, 2000, 1000, 500, 4000, 400, 8, 1000, 100, 1, 2, 500, 4000, 800] (!t431) 0 0))) (fun k => by rw [if_neg (by decide), if_pos rfl]) ?_
    refine Ev.congr (fun k => by rw [windhoverref08_Defaults.f, windhoverref08_starts.f, Option.bind_some, Option.bind_some]) ?_
    refine Ev.bind same8_ev ?_
    refine Ev.step (f := fun k => windhoverlaw08_ParamsRanges.j1 k [6, 20, 4, 20, 4, 2, 12, 16000, 8000, 8000, 5000, 2000, 1000, 500, 4000, 400, 8, 1000, 100, 1, 2, 500, 4000, 800] [6, 20, 4, 20, 4, 2, 12, 16000, 8000, 8000, 5000, 2000, 1000, 500, 4000, 400, 8, 1000, 100, 1, 2, 500, 4000, 800] false) (fun k => by rw [windhoverlaw08_ParamsRanges.j0, if_neg (by decide), if_neg (by decide)]) ?_
    refine Ev.step (f := fun k => (windhoverlaw08_awake.f k).bind fun t438 => (some t438)) (fun k => by rw [windhoverlaw08_ParamsRanges.j1, if_neg (by decide), apart8, Option.bind_some, if_pos rfl]) ?_
    exact Ev.bind awake8_ev (Ev.now true)

end Go.Proofs.Ytaabdnamofmfcaa.Pure
