/- The law TrigThere: the way from an angle to another leads there, is the shortest, and back again is the same. -/
import Derived.Test.YtplfcbbaanjdgaaPTrigTherex3
namespace Go.Proofs.Ytplfcbbaanjdgaa.Pure
open Go.RowKit Go.Proofs.Ytplfcbbaanjdgaa.PTrigThere Go.Proofs.YtplfcbbaanjdgaaW.PrintWords Go.Proofs.YtplfcbbaanjdgaaW.PrintLast

set_option linter.unusedVariables false
set_option linter.unusedSimpArgs false
theorem wsm {a : Int} (h1 : -9223372036854775808 ≤ a) (h2 : a ≤ 9223372036854775807) : wrap64 a = a := by unfold wrap64; omega
theorem awake_ev : Ev (fun k => windhoverlaw02_awake.f k) true := by
  have h : windhoverlaw02_awake.f 40 = some true := by decide +kernel
  exact Ev.of (fun k => windhoverlaw02_awake.mono k) h
theorem way_f (a b : Int) : trig_Way.f a b = some ((b - a + 32768) % 65536 - 32768) := by
  have e : IntKind.i16.wrap (wrap64 (b - a)) = (b - a + 32768) % 65536 - 32768 := by
    show (if (true && decide (wrap64 (b - a) % 65536 ≥ 32768)) = true then wrap64 (b - a) % 65536 - 65536 else wrap64 (b - a) % 65536) = _
    have w : wrap64 (b - a) % 65536 = (b - a) % 65536 := by unfold wrap64; omega
    rw [w, Bool.true_and]
    by_cases g : (b - a) % 65536 ≥ 32768
    · rw [decide_eq_true g, if_pos rfl]; omega
    · rw [decide_eq_false g, if_neg (by decide)]; omega
  rw [trig_Way.f, e, wsm (by omega) (by omega)]
theorem tmod_c (a : Int) : ∃ t, Int.tmod a 65536 = t ∧ -65536 < t ∧ t < 65536 ∧ t % 65536 = a % 65536 := by
  by_cases h : 0 ≤ a
  · exact ⟨a % 65536, Int.tmod_eq_emod_of_nonneg h, by omega, by omega, by omega⟩
  · refine ⟨-((-a) % 65536), ?_, by omega, by omega, by omega⟩
    have := Int.tmod_eq_emod_of_nonneg (a := -a) (b := 65536) (by omega)
    rw [Int.neg_tmod] at this
    omega
theorem TrigThere : windhoverlaw02_TrigThere.Pure := by
  intro a b ha hb
  apply Ev.rounds
  obtain ⟨t, ht, t0, t1, t2⟩ := tmod_c a
  obtain ⟨u, hu, u0, u1, u2⟩ := tmod_c b
  refine Ev.congr (fun k => by rw [windhoverlaw02_TrigThere.f, way_f, way_f, ht, hu]) ?_
  refine Ev.bind (f := fun k t => _) (Ev.now _) (Ev.bind (f := fun k t => _) (Ev.now _) ?_)
  refine Ev.bind awake_ev ?_
  obtain ⟨v, hv⟩ : ∃ v, v = (b - a + 32768) % 65536 - 32768 := ⟨_, rfl⟩
  obtain ⟨z, hz⟩ : ∃ z, z = (a - b + 32768) % 65536 - 32768 := ⟨_, rfl⟩
  rw [← hv, ← hz]
  have w1 : wrap64 (t + v) = t + v := wsm (by omega) (by omega)
  have w2 : wrap64 (t + v - u) = t + v - u := wsm (by omega) (by omega)
  have w3 : wrap64 (v + z) = v + z := wsm (by omega) (by omega)
  have d : Int.tmod (t + v - u) 65536 = 0 := Int.tmod_eq_zero_of_dvd (Int.dvd_of_emod_eq_zero (by omega))
  refine Ev.congr (fun k => by rw [if_pos rfl, w1, w2, if_pos d, if_pos (by omega), if_pos (by omega), w3]) ?_
  by_cases g : v + z = 0
  · exact Ev.congr (fun k => by rw [if_pos g]) (Ev.now _)
  · refine Ev.congr (fun k => ?_) (Ev.now true)
    rw [if_neg g, if_pos (by omega), show z = -32768 by omega]
    rfl

end Go.Proofs.Ytplfcbbaanjdgaa.Pure
