/- The law TrigWays: the way from an angle to another is the document's, for every two angles. -/
import Derived.Test.YtplfcbbaanjdgaaPTrigWaysx3
namespace Go.Proofs.Ytplfcbbaanjdgaa.Pure
open Go.RowKit Go.Proofs.Ytplfcbbaanjdgaa.PTrigWays Go.Proofs.YtplfcbbaanjdgaaW.PrintWords Go.Proofs.YtplfcbbaanjdgaaW.PrintLast

set_option linter.unusedVariables false
set_option linter.unusedSimpArgs false
theorem wsm {a : Int} (h1 : -9223372036854775808 ≤ a) (h2 : a ≤ 9223372036854775807) : wrap64 a = a := by unfold wrap64; omega
def I64 (n : Int) : Prop := -9223372036854775808 ≤ n ∧ n ≤ 9223372036854775807
theorem I64_of {a : Int} (h : (Lit.int .i64 a).wf = true) : I64 a := by
  simp [Lit.wf, IntKind.min, IntKind.max, IntKind.signed, IntKind.bits] at h
  unfold I64; omega
theorem awake_ev : Ev (fun k => windhoverlaw02_awake.f k) true := by
  have h : windhoverlaw02_awake.f 40 = some true := by decide +kernel
  exact Ev.of (fun k => windhoverlaw02_awake.mono k) h
theorem way_f (a b : Int) : trig_Way.f a b = some ((b - a + 32768) % 65536 - 32768) := by
  have e : IntKind.i16.wrap (wrap64 (b - a)) = (b - a + 32768) % 65536 - 32768 := by
    show (if (true && decide (wrap64 (b - a) % 65536 ≥ 32768)) = true then wrap64 (b - a) % 65536 - 65536 else wrap64 (b - a) % 65536) = _
    have w : wrap64 (b - a) % 65536 = (b - a) % 65536 := by unfold wrap64; omega
    rw [w, Bool.true_and]
    by_cases g : (b - a) % 65536 ≥ 32768
    · rw [decide_eq_true g, if_pos rfl]; omega
    · rw [decide_eq_false g, if_neg (by decide)]; omega
  rw [trig_Way.f, e, wsm (by omega) (by omega)]
theorem place_f {a : Int} (A : I64 a) : windhoverref02_Place.f a = some (a % 65536) := by
  unfold I64 at A
  have T : (0 ≤ Int.tmod a 65536 ∧ Int.tmod a 65536 = a % 65536) ∨ (Int.tmod a 65536 < 0 ∧ Int.tmod a 65536 + 65536 = a % 65536) := by
    by_cases h : 0 ≤ a
    · have := Int.tmod_eq_emod_of_nonneg (a := a) (b := 65536) h
      omega
    · have := Int.tmod_eq_emod_of_nonneg (a := -a) (b := 65536) (by omega)
      rw [Int.neg_tmod] at this
      omega
  rw [windhoverref02_Place.f]
  rcases T with ⟨g, e⟩ | ⟨g, e⟩
  · rw [if_neg (by omega), e]
  · rw [if_pos g, e, wsm (by omega) (by omega)]
theorem TrigWays : windhoverlaw02_TrigWays.Pure := by
  intro a b ha hb
  have A := I64_of ha
  have B := I64_of hb
  apply Ev.rounds
  have r : windhoverref02_Way.f a b = some ((b - a + 32768) % 65536 - 32768) := by
    rw [windhoverref02_Way.f, place_f A, place_f B]
    show (if wrap64 (b % 65536 - a % 65536) < -32768 then some (wrap64 (wrap64 (b % 65536 - a % 65536) + 65536)) else if wrap64 (b % 65536 - a % 65536) > 32767 then some (wrap64 (wrap64 (b % 65536 - a % 65536) - 65536)) else some (wrap64 (b % 65536 - a % 65536))) = _
    have w0 : wrap64 (b % 65536 - a % 65536) = b % 65536 - a % 65536 := wsm (by omega) (by omega)
    have w1 : wrap64 (b % 65536 - a % 65536 + 65536) = b % 65536 - a % 65536 + 65536 := wsm (by omega) (by omega)
    have w2 : wrap64 (b % 65536 - a % 65536 - 65536) = b % 65536 - a % 65536 - 65536 := wsm (by omega) (by omega)
    rw [w0, w1, w2]
    split
    · congr 1; omega
    · split <;> (congr 1; omega)
  refine Ev.congr (fun k => by rw [windhoverlaw02_TrigWays.f, way_f, r]) ?_
  refine Ev.bind awake_ev (Ev.congr (fun k => ?_) (Ev.now true))
  simp

end Go.Proofs.Ytplfcbbaanjdgaa.Pure
