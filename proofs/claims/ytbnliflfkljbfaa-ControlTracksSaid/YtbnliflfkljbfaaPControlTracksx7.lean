-- WRITTEN BY wip/tools/aprint.py of this claim's repository over the kit's words: not typed by hand
import Derived.Test.YtbnliflfkljbfaaPControlTracksx0
import Derived.Test.YtbnliflfkljbfaaPControlTracksx4
import Derived.Test.YtbnliflfkljbfaaPControlTracksx5
import Derived.Test.YtbnliflfkljbfaaPControlTracksx6
namespace Go.Proofs.Ytbnliflfkljbfaa.PControlTracks
open Go.RowKit Go.Proofs.YtbnliflfkljbfaaW.PrintWords Go.Proofs.YtbnliflfkljbfaaW.PrintLast Go.Proofs.YtbnliflfkljbfaaW.PrintMore
attribute [local go_sem] max2_int min2_int max_two min_two max_three min_three max_four min_four   -- for this text's walks alone
set_option linter.unusedVariables false
set_option linter.unusedSimpArgs false

/-! ### windhoverlaw17_ControlTracks: function 5 -/
mutual
def windhoverlaw17_ControlTracks.j0 : Nat → Int → Bool → List Int → List Int → List Int → Int → Int → Int → Int → Int → Int → Option (Bool)
  | 0, _, _, _, _, _, _, _, _, _, _, _ => none
  | k + 1, x5, x54, x385000, x385001, x385002, x385003, x385004, x393000, x393001, x393002, x393003 => if x54 = true then ((windhoverlaw17_awake.f k).bind fun t399 => (some t399)) else (windhoverlaw17_ControlTracks.l0 k x5 0 0 x385000 x385001 x385002 x385003 x385004 x393000 x393001 x393002 x393003)
def windhoverlaw17_ControlTracks.l0 : Nat → Int → Int → Int → List Int → List Int → List Int → Int → Int → Int → Int → Int → Int → Option (Bool)
  | 0, _, _, _, _, _, _, _, _, _, _, _, _ => none
  | k + 1, x5, x6, x7, x385000, x385001, x385002, x385003, x385004, x393000, x393001, x393002, x393003 => if x7 < (x385000.length : Int) then (if x7 < (x385001.length : Int) then (windhoverlaw17_ControlTracks.j2 k x5 x6 x7 (decide (x7 < (x385002.length : Int))) x385000 x385001 x385002 x385003 x385004 x393000 x393001 x393002 x393003) else (windhoverlaw17_ControlTracks.j2 k x5 x6 x7 false x385000 x385001 x385002 x385003 x385004 x393000 x393001 x393002 x393003)) else (windhoverlaw17_ControlTracks.j2 k x5 x6 x7 false x385000 x385001 x385002 x385003 x385004 x393000 x393001 x393002 x393003)
def windhoverlaw17_ControlTracks.j2 : Nat → Int → Int → Int → Bool → List Int → List Int → List Int → Int → Int → Int → Int → Int → Int → Option (Bool)
  | 0, _, _, _, _, _, _, _, _, _, _, _, _, _ => none
  | k + 1, x5, x6, x7, x74, x385000, x385001, x385002, x385003, x385004, x393000, x393001, x393002, x393003 => if x74 = true then (if 0 ≤ x7 then (if x7 < (x385001.length : Int) then ((windhoverref01_Clamp.f (rd x385001 x7) (wrap64 (-x385003)) x385003).bind fun t402 => ((control_Steer_Refs.f x393000 x393001 x393002 x393003).bind fun bt403 => (if x7 < (x385000.length : Int) then ((windhoverref01_Clamp.f (rd x385000 x7) (-1099511627776) 1099511627776).bind fun t411 => ((control_Steer_Step.f k x393000 x393001 x393002 x393003 false 0 t411 false 0 0 false 0 0 0 0 0 (wrap64 (x6 + t402)) 0 0).bind fun bt412 => ((control_Steer_Refs.f bt412.2.2.2.1 bt412.2.2.2.2.1 bt412.2.2.2.2.2.1 bt412.2.2.2.2.2.2).bind fun bt420 => (if x7 < (x385002.length : Int) then ((windhoverref01_Clamp.f (rd x385002 x7) (wrap64 (-x385004)) x385004).bind fun t428 => (if (wrap64 (bt420.1 - bt403.1)) > x5 then (none) else (if (wrap64 (bt403.1 - bt420.1)) > x5 then (none) else (if (wrap64 ((wrap64 ((wrap64 (x6 + bt412.1)) + t428)) - bt420.1)) > (wrap64 (x385003 + x385004)) then (none) else (if (wrap64 (bt420.1 - (wrap64 ((wrap64 (x6 + bt412.1)) + t428)))) > (wrap64 (x385003 + x385004)) then (none) else (windhoverlaw17_ControlTracks.l0 k x5 (wrap64 ((wrap64 (x6 + bt412.1)) + t428)) (wrap64 (x7 + 1)) x385000 x385001 x385002 x385003 x385004 bt412.2.2.2.1 bt412.2.2.2.2.1 bt412.2.2.2.2.2.1 bt412.2.2.2.2.2.2)))))) else (none))))) else (none)))) else (none)) else (none)) else ((windhoverlaw17_awake.f k).bind fun t400 => (some t400))
end
def windhoverlaw17_ControlTracks.f (k : Nat) (l0_0 : List Int) (l0_1 : List Int) (l0_2 : List Int) (a0_3 : Int) (a0_4 : Int) : Option (Bool) := (params_Defaults.f k).bind fun t385 => ((control_New.f k t385).bind fun bt388 => (if bt388.2.2.2.2 = 0 then ((params_Defaults.f k).bind fun t395 => (if 6 < (t395.length : Int) then (if a0_3 < 0 then (windhoverlaw17_ControlTracks.j0 k (rd t395 6) true l0_0 l0_1 l0_2 a0_3 a0_4 bt388.1 bt388.2.1 bt388.2.2.1 bt388.2.2.2.1) else (if a0_4 < 0 then (windhoverlaw17_ControlTracks.j0 k (rd t395 6) true l0_0 l0_1 l0_2 a0_3 a0_4 bt388.1 bt388.2.1 bt388.2.2.1 bt388.2.2.2.1) else (if a0_3 > 64 then (windhoverlaw17_ControlTracks.j0 k (rd t395 6) true l0_0 l0_1 l0_2 a0_3 a0_4 bt388.1 bt388.2.1 bt388.2.2.1 bt388.2.2.2.1) else (if a0_4 > 64 then (windhoverlaw17_ControlTracks.j0 k (rd t395 6) true l0_0 l0_1 l0_2 a0_3 a0_4 bt388.1 bt388.2.1 bt388.2.2.1 bt388.2.2.2.1) else (windhoverlaw17_ControlTracks.j0 k (rd t395 6) (decide ((wrap64 ((wrap64 ((rd t395 6) + a0_4)) + (wrap64 (2 * a0_3)))) > 64)) l0_0 l0_1 l0_2 a0_3 a0_4 bt388.1 bt388.2.1 bt388.2.2.1 bt388.2.2.2.1))))) else (none))) else (none)))
theorem windhoverlaw17_ControlTracks.mono_l : ∀ k, (∀ y0 y1 y2 y3 y4 y5 y6 y7 y8 y9 y10, LeO (windhoverlaw17_ControlTracks.j0 k y0 y1 y2 y3 y4 y5 y6 y7 y8 y9 y10) (windhoverlaw17_ControlTracks.j0 (k + 1) y0 y1 y2 y3 y4 y5 y6 y7 y8 y9 y10)) ∧ (∀ y0 y1 y2 y3 y4 y5 y6 y7 y8 y9 y10 y11, LeO (windhoverlaw17_ControlTracks.l0 k y0 y1 y2 y3 y4 y5 y6 y7 y8 y9 y10 y11) (windhoverlaw17_ControlTracks.l0 (k + 1) y0 y1 y2 y3 y4 y5 y6 y7 y8 y9 y10 y11)) ∧ (∀ y0 y1 y2 y3 y4 y5 y6 y7 y8 y9 y10 y11 y12, LeO (windhoverlaw17_ControlTracks.j2 k y0 y1 y2 y3 y4 y5 y6 y7 y8 y9 y10 y11 y12) (windhoverlaw17_ControlTracks.j2 (k + 1) y0 y1 y2 y3 y4 y5 y6 y7 y8 y9 y10 y11 y12))
  | 0 => ⟨fun _ _ _ _ _ _ _ _ _ _ _ r h => by simp [windhoverlaw17_ControlTracks.j0] at h, fun _ _ _ _ _ _ _ _ _ _ _ _ r h => by simp [windhoverlaw17_ControlTracks.l0] at h, fun _ _ _ _ _ _ _ _ _ _ _ _ _ r h => by simp [windhoverlaw17_ControlTracks.j2] at h⟩
  | k + 1 => by
    obtain ⟨ih0, ih1, ih2⟩ := windhoverlaw17_ControlTracks.mono_l k
    refine ⟨?_, ?_, ?_⟩
    · intro y0 y1 y2 y3 y4 y5 y6 y7 y8 y9 y10
      unfold windhoverlaw17_ControlTracks.j0
      repeat' first
      | (with_reducible exact ih0 _ _ _ _ _ _ _ _ _ _ _)
      | (with_reducible exact ih1 _ _ _ _ _ _ _ _ _ _ _ _)
      | (with_reducible exact ih2 _ _ _ _ _ _ _ _ _ _ _ _ _)
      | (with_reducible exact control_New.mono _ _)
      | (with_reducible exact control_Steer_Step.mono _ _ _ _ _ _ _ _ _ _ _ _ _ _ _ _ _ _ _ _)
      | (with_reducible exact params_Defaults.mono _)
      | (with_reducible exact windhoverlaw17_awake.mono _)
      | (with_reducible exact LeO.refl _)
      | (with_reducible exact LeO.none _)
      | (with_reducible refine LeO.ite ?_ ?_)
      | (with_reducible refine LeO.bind ?_ (fun _ => ?_))
      | exact ih0 _ _ _ _ _ _ _ _ _ _ _
      | exact ih1 _ _ _ _ _ _ _ _ _ _ _ _
      | exact ih2 _ _ _ _ _ _ _ _ _ _ _ _ _
      | exact control_New.mono _ _
      | exact control_Steer_Step.mono _ _ _ _ _ _ _ _ _ _ _ _ _ _ _ _ _ _ _ _
      | exact params_Defaults.mono _
      | exact windhoverlaw17_awake.mono _
      | exact LeO.none _
      | refine LeO.ite ?_ ?_
      | refine LeO.bind ?_ (fun _ => ?_)
    · intro y0 y1 y2 y3 y4 y5 y6 y7 y8 y9 y10 y11
      unfold windhoverlaw17_ControlTracks.l0
      repeat' first
      | (with_reducible exact ih0 _ _ _ _ _ _ _ _ _ _ _)
      | (with_reducible exact ih1 _ _ _ _ _ _ _ _ _ _ _ _)
      | (with_reducible exact ih2 _ _ _ _ _ _ _ _ _ _ _ _ _)
      | (with_reducible exact control_New.mono _ _)
      | (with_reducible exact control_Steer_Step.mono _ _ _ _ _ _ _ _ _ _ _ _ _ _ _ _ _ _ _ _)
      | (with_reducible exact params_Defaults.mono _)
      | (with_reducible exact windhoverlaw17_awake.mono _)
      | (with_reducible exact LeO.refl _)
      | (with_reducible exact LeO.none _)
      | (with_reducible refine LeO.ite ?_ ?_)
      | (with_reducible refine LeO.bind ?_ (fun _ => ?_))
      | exact ih0 _ _ _ _ _ _ _ _ _ _ _
      | exact ih1 _ _ _ _ _ _ _ _ _ _ _ _
      | exact ih2 _ _ _ _ _ _ _ _ _ _ _ _ _
      | exact control_New.mono _ _
      | exact control_Steer_Step.mono _ _ _ _ _ _ _ _ _ _ _ _ _ _ _ _ _ _ _ _
      | exact params_Defaults.mono _
      | exact windhoverlaw17_awake.mono _
      | exact LeO.none _
      | refine LeO.ite ?_ ?_
      | refine LeO.bind ?_ (fun _ => ?_)
    · intro y0 y1 y2 y3 y4 y5 y6 y7 y8 y9 y10 y11 y12
      unfold windhoverlaw17_ControlTracks.j2
      repeat' first
      | (with_reducible exact ih0 _ _ _ _ _ _ _ _ _ _ _)
      | (with_reducible exact ih1 _ _ _ _ _ _ _ _ _ _ _ _)
      | (with_reducible exact ih2 _ _ _ _ _ _ _ _ _ _ _ _ _)
      | (with_reducible exact control_New.mono _ _)
      | (with_reducible exact control_Steer_Step.mono _ _ _ _ _ _ _ _ _ _ _ _ _ _ _ _ _ _ _ _)
      | (with_reducible exact params_Defaults.mono _)
      | (with_reducible exact windhoverlaw17_awake.mono _)
      | (with_reducible exact LeO.refl _)
      | (with_reducible exact LeO.none _)
      | (with_reducible refine LeO.ite ?_ ?_)
      | (with_reducible refine LeO.bind ?_ (fun _ => ?_))
      | exact ih0 _ _ _ _ _ _ _ _ _ _ _
      | exact ih1 _ _ _ _ _ _ _ _ _ _ _ _
      | exact ih2 _ _ _ _ _ _ _ _ _ _ _ _ _
      | exact control_New.mono _ _
      | exact control_Steer_Step.mono _ _ _ _ _ _ _ _ _ _ _ _ _ _ _ _ _ _ _ _
      | exact params_Defaults.mono _
      | exact windhoverlaw17_awake.mono _
      | exact LeO.none _
      | refine LeO.ite ?_ ?_
      | refine LeO.bind ?_ (fun _ => ?_)
theorem windhoverlaw17_ControlTracks.mono : ∀ a0 a1 a2 a3 a4 k, LeO (windhoverlaw17_ControlTracks.f k a0 a1 a2 a3 a4) (windhoverlaw17_ControlTracks.f (k + 1) a0 a1 a2 a3 a4) := by
  intro a0 a1 a2 a3 a4 k
  obtain ⟨ih0, ih1, ih2⟩ := windhoverlaw17_ControlTracks.mono_l k
  unfold windhoverlaw17_ControlTracks.f
  repeat' first
      | (with_reducible exact ih0 _ _ _ _ _ _ _ _ _ _ _)
      | (with_reducible exact ih1 _ _ _ _ _ _ _ _ _ _ _ _)
      | (with_reducible exact ih2 _ _ _ _ _ _ _ _ _ _ _ _ _)
      | (with_reducible exact control_New.mono _ _)
      | (with_reducible exact control_Steer_Step.mono _ _ _ _ _ _ _ _ _ _ _ _ _ _ _ _ _ _ _ _)
      | (with_reducible exact params_Defaults.mono _)
      | (with_reducible exact windhoverlaw17_awake.mono _)
      | (with_reducible exact LeO.refl _)
      | (with_reducible exact LeO.none _)
      | (with_reducible refine LeO.ite ?_ ?_)
      | (with_reducible refine LeO.bind ?_ (fun _ => ?_))
      | exact ih0 _ _ _ _ _ _ _ _ _ _ _
      | exact ih1 _ _ _ _ _ _ _ _ _ _ _ _
      | exact ih2 _ _ _ _ _ _ _ _ _ _ _ _ _
      | exact control_New.mono _ _
      | exact control_Steer_Step.mono _ _ _ _ _ _ _ _ _ _ _ _ _ _ _ _ _ _ _ _
      | exact params_Defaults.mono _
      | exact windhoverlaw17_awake.mono _
      | exact LeO.none _
      | refine LeO.ite ?_ ?_
      | refine LeO.bind ?_ (fun _ => ?_)
set_option maxHeartbeats 8000000 in
set_option maxRecDepth 100000 in
theorem windhoverlaw17_ControlTracks.calls (k : Nat) (A0_0 : Option Addr) (c0_0 : Nat) (l0_0 : List Int) (A0_1 : Option Addr) (c0_1 : Nat) (l0_1 : List Int) (A0_2 : Option Addr) (c0_2 : Nat) (l0_2 : List Int) (a0_3 : Int) (a0_4 : Int) (r : Bool) (w : World) (hr0_0 : Kd.C (Kd.int .i64) w A0_0 l0_0.length l0_0) (hc0_0 : l0_0.length ≤ c0_0) (hr0_1 : Kd.C (Kd.int .i64) w A0_1 l0_1.length l0_1) (hc0_1 : l0_1.length ≤ c0_1) (hr0_2 : Kd.C (Kd.int .i64) w A0_2 l0_2.length l0_2) (hc0_2 : l0_2.length ≤ c0_2) (h : windhoverlaw17_ControlTracks.f k l0_0 l0_1 l0_2 a0_3 a0_4 = some r) :
    Calls Try.prog 5 #[.agg #[.slice A0_0 l0_0.length c0_0, .slice A0_1 l0_1.length c0_1, .slice A0_2 l0_2.length c0_2, .int .i64 a0_3, .int .i64 a0_4]] w fun e w' => e = .returned (.bool r) ∧ Below w.heap.size w w' := by
  have hu31 := Try.underlying31
  have hu41 := Try.underlying41
  have hu42 := Try.underlying42
  have hu37 := Try.underlying37
  have hix37_0 : ∀ (x0_ x1_ x2_ : Value) (W : World), (Instr.index 37 (.agg #[x0_, x1_, x2_]) (.int .i64 0)).run Try.prog W = .ok (x0_) W := fun x0_ x1_ x2_ W => rfl
  have hix37_1 : ∀ (x0_ x1_ x2_ : Value) (W : World), (Instr.index 37 (.agg #[x0_, x1_, x2_]) (.int .i64 1)).run Try.prog W = .ok (x1_) W := fun x0_ x1_ x2_ W => rfl
  have hix37_2 : ∀ (x0_ x1_ x2_ : Value) (W : World), (Instr.index 37 (.agg #[x0_, x1_, x2_]) (.int .i64 2)).run Try.prog W = .ok (x2_) W := fun x0_ x1_ x2_ W => rfl
  have HR0_0 := Aside0.mk hr0_0
  have HC0_0 := Aside0.mk hc0_0
  clear hr0_0 hc0_0
  have HR0_1 := Aside0.mk hr0_1
  have HC0_1 := Aside0.mk hc0_1
  clear hr0_1 hc0_1
  have HR0_2 := Aside0.mk hr0_2
  have HC0_2 := Aside0.mk hc0_2
  clear hr0_2 hc0_2
  have HB := Aside0.mk (Below.refl w.heap.size w)
  have H : ((params_Defaults.f k).bind fun t385 => ((control_New.f k t385).bind fun bt388 => (if bt388.2.2.2.2 = 0 then ((params_Defaults.f k).bind fun t395 => (if 6 < (t395.length : Int) then (if a0_3 < 0 then (windhoverlaw17_ControlTracks.j0 k (rd t395 6) true l0_0 l0_1 l0_2 a0_3 a0_4 bt388.1 bt388.2.1 bt388.2.2.1 bt388.2.2.2.1) else (if a0_4 < 0 then (windhoverlaw17_ControlTracks.j0 k (rd t395 6) true l0_0 l0_1 l0_2 a0_3 a0_4 bt388.1 bt388.2.1 bt388.2.2.1 bt388.2.2.2.1) else (if a0_3 > 64 then (windhoverlaw17_ControlTracks.j0 k (rd t395 6) true l0_0 l0_1 l0_2 a0_3 a0_4 bt388.1 bt388.2.1 bt388.2.2.1 bt388.2.2.2.1) else (if a0_4 > 64 then (windhoverlaw17_ControlTracks.j0 k (rd t395 6) true l0_0 l0_1 l0_2 a0_3 a0_4 bt388.1 bt388.2.1 bt388.2.2.1 bt388.2.2.2.1) else (windhoverlaw17_ControlTracks.j0 k (rd t395 6) (decide ((wrap64 ((wrap64 ((rd t395 6) + a0_4)) + (wrap64 (2 * a0_3)))) > 64)) l0_0 l0_1 l0_2 a0_3 a0_4 bt388.1 bt388.2.1 bt388.2.2.1 bt388.2.2.2.1))))) else (none))) else (none)))) = some r := h
  clear h
  replace H := Option.bind_eq_some_iff.mp H
  obtain ⟨t385, A20, H⟩ := H
  replace H : ((control_New.f k t385).bind fun bt388 => (if bt388.2.2.2.2 = 0 then ((params_Defaults.f k).bind fun t395 => (if 6 < (t395.length : Int) then (if a0_3 < 0 then (windhoverlaw17_ControlTracks.j0 k (rd t395 6) true l0_0 l0_1 l0_2 a0_3 a0_4 bt388.1 bt388.2.1 bt388.2.2.1 bt388.2.2.2.1) else (if a0_4 < 0 then (windhoverlaw17_ControlTracks.j0 k (rd t395 6) true l0_0 l0_1 l0_2 a0_3 a0_4 bt388.1 bt388.2.1 bt388.2.2.1 bt388.2.2.2.1) else (if a0_3 > 64 then (windhoverlaw17_ControlTracks.j0 k (rd t395 6) true l0_0 l0_1 l0_2 a0_3 a0_4 bt388.1 bt388.2.1 bt388.2.2.1 bt388.2.2.2.1) else (if a0_4 > 64 then (windhoverlaw17_ControlTracks.j0 k (rd t395 6) true l0_0 l0_1 l0_2 a0_3 a0_4 bt388.1 bt388.2.1 bt388.2.2.1 bt388.2.2.2.1) else (windhoverlaw17_ControlTracks.j0 k (rd t395 6) (decide ((wrap64 ((wrap64 ((rd t395 6) + a0_4)) + (wrap64 (2 * a0_3)))) > 64)) l0_0 l0_1 l0_2 a0_3 a0_4 bt388.1 bt388.2.1 bt388.2.2.1 bt388.2.2.2.1))))) else (none))) else (none))) = some r := H
  have A2 := Aside0.mk A20
  clear A20
  replace H := Option.bind_eq_some_iff.mp H
  obtain ⟨⟨t388, t389, t390, t391, t393⟩, A30, H⟩ := H
  replace H : (if t393 = 0 then ((params_Defaults.f k).bind fun t395 => (if 6 < (t395.length : Int) then (if a0_3 < 0 then (windhoverlaw17_ControlTracks.j0 k (rd t395 6) true l0_0 l0_1 l0_2 a0_3 a0_4 t388 t389 t390 t391) else (if a0_4 < 0 then (windhoverlaw17_ControlTracks.j0 k (rd t395 6) true l0_0 l0_1 l0_2 a0_3 a0_4 t388 t389 t390 t391) else (if a0_3 > 64 then (windhoverlaw17_ControlTracks.j0 k (rd t395 6) true l0_0 l0_1 l0_2 a0_3 a0_4 t388 t389 t390 t391) else (if a0_4 > 64 then (windhoverlaw17_ControlTracks.j0 k (rd t395 6) true l0_0 l0_1 l0_2 a0_3 a0_4 t388 t389 t390 t391) else (windhoverlaw17_ControlTracks.j0 k (rd t395 6) (decide ((wrap64 ((wrap64 ((rd t395 6) + a0_4)) + (wrap64 (2 * a0_3)))) > 64)) l0_0 l0_1 l0_2 a0_3 a0_4 t388 t389 t390 t391))))) else (none))) else (none)) = some r := H
  have A3 := Aside0.mk A30
  clear A30
  by_cases c4 : t393 = 0
  · rw [if_pos c4] at H
    have c4b0 : (t393 == 0) = true := beq_iff_eq.mpr c4
    have c4b1 : (t393 != 0) = false := bne_eq_false_iff_eq.mpr c4
    clear c4
    replace H := Option.bind_eq_some_iff.mp H
    obtain ⟨t395, A50, H⟩ := H
    replace H : (if 6 < (t395.length : Int) then (if a0_3 < 0 then (windhoverlaw17_ControlTracks.j0 k (rd t395 6) true l0_0 l0_1 l0_2 a0_3 a0_4 t388 t389 t390 t391) else (if a0_4 < 0 then (windhoverlaw17_ControlTracks.j0 k (rd t395 6) true l0_0 l0_1 l0_2 a0_3 a0_4 t388 t389 t390 t391) else (if a0_3 > 64 then (windhoverlaw17_ControlTracks.j0 k (rd t395 6) true l0_0 l0_1 l0_2 a0_3 a0_4 t388 t389 t390 t391) else (if a0_4 > 64 then (windhoverlaw17_ControlTracks.j0 k (rd t395 6) true l0_0 l0_1 l0_2 a0_3 a0_4 t388 t389 t390 t391) else (windhoverlaw17_ControlTracks.j0 k (rd t395 6) (decide ((wrap64 ((wrap64 ((rd t395 6) + a0_4)) + (wrap64 (2 * a0_3)))) > 64)) l0_0 l0_1 l0_2 a0_3 a0_4 t388 t389 t390 t391))))) else (none)) = some r := H
    have A5 := Aside0.mk A50
    clear A50
    by_cases c6 : 6 < (t395.length : Int)
    · rw [if_pos c6] at H
      have c6b0 : decide (6 < (t395.length : Int)) = true := decide_eq_true c6
      have c6b1 : decide (6 < t395.length) = true := decide_eq_true (by omega)
      clear c6
      have HC7 := Aside0.mk H
      clear H
      go_enter Try.func5, Try.ntmps5
      go_upto_region 5 with (first | ((with_reducible refine gate_dst (N := 1) rfl ?_); (try (refine gate_guard (by rfl) ?_; dsimp only)); refine box_event ?hg (N := 1) ?hd (cs := #[.slice A0_0 l0_0.length c0_0, .slice A0_1 l0_1.length c0_1, .slice A0_2 l0_2.length c0_2, .int .i64 a0_3, .int .i64 a0_4]) (t := 31) ?hr ?_; (case hd => rfl); (case hg => rfl); (case hr => first | (go_simp; done) | (go_simp; rfl)); intro gb384 hg w8 hbox hb; have n0_ := Aside0.mk (below_step (by repeat (first | (with_reducible first | exact HB.out | apply below_alloc | apply pw_below_drewN | apply below_drew1) | exact HB.out)) hb); have n1_ := Aside0.mk (hbox); have n2_ := Aside0.mk ((by rw [hg]; exact (below_size (by repeat (first | (with_reducible first | exact HB.out | apply below_alloc | apply pw_below_drewN | apply below_drew1) | exact HB.out))) : w.heap.size ≤ gb384)); have n3_ := Aside0.mk ((by rw [hg]; exact (below_size (by repeat (first | (with_reducible first | exact HB.out | apply below_alloc | apply pw_below_drewN | apply below_drew1) | exact HB.out))) : w.heap.size ≤ gb384)); clear HB; have HB := n0_; have BK384 := n1_; have GW384 := n2_; have GE384 := n3_; clear n0_ n1_ n2_ n3_; clear hb hbox hg) | (go_at_call 17; (with_reducible refine (params_Defaults.calls k  t385 _ A2.out).mono ?_); rintro e w9 ⟨v386, rfl, ho0, hb⟩; have n0_ := Aside0.mk (Kd.R_lower ho0 (below_size (by repeat (first | (with_reducible first | exact HB.out | apply below_alloc | apply pw_below_drewN | apply below_drew1 | refine below_set ?_ GE384.out) | exact HB.out)))); have n1_ := Aside0.mk (blk_below (g := gb384) (o := .cells #[.slice A0_0 l0_0.length c0_0, .slice A0_1 l0_1.length c0_1, .slice A0_2 l0_2.length c0_2, .int .i64 a0_3, .int .i64 a0_4] 31 (0, 0)) (by (with_reducible repeat (first | refine blk_drewN ?_ _ | refine blk_drew ?_ | refine blk_alloc ?_ _)); exact BK384.out) hb); have n2_ := Aside0.mk (below_step (by repeat (first | (with_reducible first | exact HB.out | apply below_alloc | apply pw_below_drewN | apply below_drew1 | refine below_set ?_ GE384.out) | exact HB.out)) hb); clear BK384; clear HB; have HO387 := n0_; have BK384 := n1_; have HB := n2_; clear n0_ n1_ n2_; (try clear hb); (try clear hb2); (try clear hk); (try clear hi); (try clear ho0); clear A2; obtain ⟨Ao10, co10, eo10⟩ := Kd.R_slice HO387.out; subst eo10) | (go_at_call 16; (with_reducible refine (control_New.callsNew k _ _ t385 t388 t389 t390 t391 t393 w _ ?side1 ?side2 ?side3 A3.out (by assumption)).mono ?_); (case side1 => repeat (first | (with_reducible first | exact HB.out | apply below_alloc | apply pw_below_drewN | apply below_drew1 | refine below_set ?_ GE384.out) | exact HB.out)); (case side2 => repeat (first | exact (Kd.R_reads' HO387.out).2.2 | (with_reducible refine Kd.C_alloc ?_ _) | (with_reducible refine Kd.C_drewN ?_ _) | (with_reducible refine Kd.C_drew ?_))); (case side3 => exact (Kd.R_reads' HO387.out).2.1); rintro e w11 ⟨g392, rfl, hi, hb, hb2⟩; have n0_ := Aside0.mk (Kd.R_below (by (with_reducible repeat (first | apply Kd.R_alloc | apply Kd.R_drewN | apply Kd.R_drew)); exact HO387.out) hb2); have n1_ := Aside0.mk (blk_below (g := gb384) (o := .cells #[.slice A0_0 l0_0.length c0_0, .slice A0_1 l0_1.length c0_1, .slice A0_2 l0_2.length c0_2, .int .i64 a0_3, .int .i64 a0_4] 31 (0, 0)) (by (with_reducible repeat (first | refine blk_drewN ?_ _ | refine blk_drew ?_ | refine blk_alloc ?_ _)); exact BK384.out) hb2); have n2_ := Aside0.mk (hb); have n3_ := Aside0.mk (hi); have n4_ := Aside0.mk (IsS65.ne_blk hi (blk_below (g := gb384) (o := .cells #[.slice A0_0 l0_0.length c0_0, .slice A0_1 l0_1.length c0_1, .slice A0_2 l0_2.length c0_2, .int .i64 a0_3, .int .i64 a0_4] 31 (0, 0)) (by (with_reducible repeat (first | refine blk_drewN ?_ _ | refine blk_drew ?_ | refine blk_alloc ?_ _)); exact BK384.out) hb2) (by decide)); have n5_ := Aside0.mk (Ne.symm (IsS65.ne_blk hi (blk_below (g := gb384) (o := .cells #[.slice A0_0 l0_0.length c0_0, .slice A0_1 l0_1.length c0_1, .slice A0_2 l0_2.length c0_2, .int .i64 a0_3, .int .i64 a0_4] 31 (0, 0)) (by (with_reducible repeat (first | refine blk_drewN ?_ _ | refine blk_drew ?_ | refine blk_alloc ?_ _)); exact BK384.out) hb2) (by decide))); clear HO387; clear BK384; clear HB; have HO387 := n0_; have BK384 := n1_; have HB := n2_; have HI392 := n3_; have NB392_384 := n4_; have NB384_392 := n5_; clear n0_ n1_ n2_ n3_ n4_ n5_; (try clear hb); (try clear hb2); (try clear hk); (try clear hi)) | (go_at_call 17; (with_reducible refine (params_Defaults.calls k  t395 _ A5.out).mono ?_); rintro e w12 ⟨v396, rfl, ho0, hb⟩; have n0_ := Aside0.mk (Kd.R_elder' (by (with_reducible repeat (first | apply Kd.R_alloc | apply Kd.R_drewN | apply Kd.R_drew)); exact HO387.out) (Kd.R_base ho0) hb); have n1_ := Aside0.mk (Kd.R_lower (Kd.R_new' ho0 (Kd.R_lt (by (with_reducible repeat (first | apply Kd.R_alloc | apply Kd.R_drewN | apply Kd.R_drew)); exact HO387.out))) (below_size (by repeat (first | (with_reducible first | exact HB.out | apply below_alloc | apply pw_below_drewN | apply below_drew1 | refine below_set ?_ (IsS65.ge HI392.out) | refine below_set ?_ GE384.out) | exact HB.out)))); have n2_ := Aside0.mk (blk_below (g := gb384) (o := .cells #[.slice A0_0 l0_0.length c0_0, .slice A0_1 l0_1.length c0_1, .slice A0_2 l0_2.length c0_2, .int .i64 a0_3, .int .i64 a0_4] 31 (0, 0)) (by (with_reducible repeat (first | refine blk_drewN ?_ _ | refine blk_drew ?_ | refine blk_alloc ?_ _)); exact BK384.out) hb); have n3_ := Aside0.mk (IsS65.below (by repeat (first | (with_reducible first | exact HI392.out | apply IsS65.alloc | apply IsS65.drewN | apply IsS65.drew | apply IsS65.set_0 | apply IsS65.set_1 | apply IsS65.set_2 | apply IsS65.set_3 | refine IsS65.far ?_ NB392_384.out _) | exact HI392.out)) hb); have n4_ := Aside0.mk (below_step (by repeat (first | (with_reducible first | exact HB.out | apply below_alloc | apply pw_below_drewN | apply below_drew1 | refine below_set ?_ (IsS65.ge HI392.out) | refine below_set ?_ GE384.out) | exact HB.out)) hb); clear HO387; clear BK384; clear HI392; clear HB; have HO387 := n0_; have HO397 := n1_; have BK384 := n2_; have HI392 := n3_; have HB := n4_; clear n0_ n1_ n2_ n3_ n4_; (try clear hb); (try clear hb2); (try clear hk); (try clear hi); (try clear ho0); clear A5; obtain ⟨Ao13, co13, eo13⟩ := Kd.R_slice HO397.out; subst eo13; have p398 : 0 ≤ (6 : Int) := (by omega); have q398 : 6 < (t395.length : Int) := of_decide_eq_true (by first | (with_reducible assumption) | assumption); obtain ⟨ad398, e398, hx398_0⟩ := Kd.at_int (Kd.R_reads' HO397.out).2.2 6 p398 q398; cases e398; (try simp only [show (6 : Int).toNat = 6 from rfl, Nat.reduceMul, Nat.reduceEqDiff, Go.Addr.add, ↓reduceIte] at hx398_0); have qi398 : (6 < t395.length) = True := eq_true (by omega); (try rw [show ((6 : Int)).toNat = 6 from rfl] at hx398_0); replace p398 := eq_true p398; replace q398 := eq_true q398))
      repeat (go_quiet (first | ((with_reducible refine gate_dst (N := 1) rfl ?_); (try (refine gate_guard (by rfl) ?_; dsimp only)); refine box_event ?hg (N := 1) ?hd (cs := #[.slice A0_0 l0_0.length c0_0, .slice A0_1 l0_1.length c0_1, .slice A0_2 l0_2.length c0_2, .int .i64 a0_3, .int .i64 a0_4]) (t := 31) ?hr ?_; (case hd => rfl); (case hg => rfl); (case hr => first | (go_simp; done) | (go_simp; rfl)); intro gb384 hg w8 hbox hb; have n0_ := Aside0.mk (below_step (by repeat (first | (with_reducible first | exact HB.out | apply below_alloc | apply pw_below_drewN | apply below_drew1) | exact HB.out)) hb); have n1_ := Aside0.mk (hbox); have n2_ := Aside0.mk ((by rw [hg]; exact (below_size (by repeat (first | (with_reducible first | exact HB.out | apply below_alloc | apply pw_below_drewN | apply below_drew1) | exact HB.out))) : w.heap.size ≤ gb384)); have n3_ := Aside0.mk ((by rw [hg]; exact (below_size (by repeat (first | (with_reducible first | exact HB.out | apply below_alloc | apply pw_below_drewN | apply below_drew1) | exact HB.out))) : w.heap.size ≤ gb384)); clear HB; have HB := n0_; have BK384 := n1_; have GW384 := n2_; have GE384 := n3_; clear n0_ n1_ n2_ n3_; clear hb hbox hg) | (go_at_call 17; (with_reducible refine (params_Defaults.calls k  t385 _ A2.out).mono ?_); rintro e w9 ⟨v386, rfl, ho0, hb⟩; have n0_ := Aside0.mk (Kd.R_lower ho0 (below_size (by repeat (first | (with_reducible first | exact HB.out | apply below_alloc | apply pw_below_drewN | apply below_drew1 | refine below_set ?_ GE384.out) | exact HB.out)))); have n1_ := Aside0.mk (blk_below (g := gb384) (o := .cells #[.slice A0_0 l0_0.length c0_0, .slice A0_1 l0_1.length c0_1, .slice A0_2 l0_2.length c0_2, .int .i64 a0_3, .int .i64 a0_4] 31 (0, 0)) (by (with_reducible repeat (first | refine blk_drewN ?_ _ | refine blk_drew ?_ | refine blk_alloc ?_ _)); exact BK384.out) hb); have n2_ := Aside0.mk (below_step (by repeat (first | (with_reducible first | exact HB.out | apply below_alloc | apply pw_below_drewN | apply below_drew1 | refine below_set ?_ GE384.out) | exact HB.out)) hb); clear BK384; clear HB; have HO387 := n0_; have BK384 := n1_; have HB := n2_; clear n0_ n1_ n2_; (try clear hb); (try clear hb2); (try clear hk); (try clear hi); (try clear ho0); clear A2; obtain ⟨Ao10, co10, eo10⟩ := Kd.R_slice HO387.out; subst eo10) | (go_at_call 16; (with_reducible refine (control_New.callsNew k _ _ t385 t388 t389 t390 t391 t393 w _ ?side1 ?side2 ?side3 A3.out (by assumption)).mono ?_); (case side1 => repeat (first | (with_reducible first | exact HB.out | apply below_alloc | apply pw_below_drewN | apply below_drew1 | refine below_set ?_ GE384.out) | exact HB.out)); (case side2 => repeat (first | exact (Kd.R_reads' HO387.out).2.2 | (with_reducible refine Kd.C_alloc ?_ _) | (with_reducible refine Kd.C_drewN ?_ _) | (with_reducible refine Kd.C_drew ?_))); (case side3 => exact (Kd.R_reads' HO387.out).2.1); rintro e w11 ⟨g392, rfl, hi, hb, hb2⟩; have n0_ := Aside0.mk (Kd.R_below (by (with_reducible repeat (first | apply Kd.R_alloc | apply Kd.R_drewN | apply Kd.R_drew)); exact HO387.out) hb2); have n1_ := Aside0.mk (blk_below (g := gb384) (o := .cells #[.slice A0_0 l0_0.length c0_0, .slice A0_1 l0_1.length c0_1, .slice A0_2 l0_2.length c0_2, .int .i64 a0_3, .int .i64 a0_4] 31 (0, 0)) (by (with_reducible repeat (first | refine blk_drewN ?_ _ | refine blk_drew ?_ | refine blk_alloc ?_ _)); exact BK384.out) hb2); have n2_ := Aside0.mk (hb); have n3_ := Aside0.mk (hi); have n4_ := Aside0.mk (IsS65.ne_blk hi (blk_below (g := gb384) (o := .cells #[.slice A0_0 l0_0.length c0_0, .slice A0_1 l0_1.length c0_1, .slice A0_2 l0_2.length c0_2, .int .i64 a0_3, .int .i64 a0_4] 31 (0, 0)) (by (with_reducible repeat (first | refine blk_drewN ?_ _ | refine blk_drew ?_ | refine blk_alloc ?_ _)); exact BK384.out) hb2) (by decide)); have n5_ := Aside0.mk (Ne.symm (IsS65.ne_blk hi (blk_below (g := gb384) (o := .cells #[.slice A0_0 l0_0.length c0_0, .slice A0_1 l0_1.length c0_1, .slice A0_2 l0_2.length c0_2, .int .i64 a0_3, .int .i64 a0_4] 31 (0, 0)) (by (with_reducible repeat (first | refine blk_drewN ?_ _ | refine blk_drew ?_ | refine blk_alloc ?_ _)); exact BK384.out) hb2) (by decide))); clear HO387; clear BK384; clear HB; have HO387 := n0_; have BK384 := n1_; have HB := n2_; have HI392 := n3_; have NB392_384 := n4_; have NB384_392 := n5_; clear n0_ n1_ n2_ n3_ n4_ n5_; (try clear hb); (try clear hb2); (try clear hk); (try clear hi)) | (go_at_call 17; (with_reducible refine (params_Defaults.calls k  t395 _ A5.out).mono ?_); rintro e w12 ⟨v396, rfl, ho0, hb⟩; have n0_ := Aside0.mk (Kd.R_elder' (by (with_reducible repeat (first | apply Kd.R_alloc | apply Kd.R_drewN | apply Kd.R_drew)); exact HO387.out) (Kd.R_base ho0) hb); have n1_ := Aside0.mk (Kd.R_lower (Kd.R_new' ho0 (Kd.R_lt (by (with_reducible repeat (first | apply Kd.R_alloc | apply Kd.R_drewN | apply Kd.R_drew)); exact HO387.out))) (below_size (by repeat (first | (with_reducible first | exact HB.out | apply below_alloc | apply pw_below_drewN | apply below_drew1 | refine below_set ?_ (IsS65.ge HI392.out) | refine below_set ?_ GE384.out) | exact HB.out)))); have n2_ := Aside0.mk (blk_below (g := gb384) (o := .cells #[.slice A0_0 l0_0.length c0_0, .slice A0_1 l0_1.length c0_1, .slice A0_2 l0_2.length c0_2, .int .i64 a0_3, .int .i64 a0_4] 31 (0, 0)) (by (with_reducible repeat (first | refine blk_drewN ?_ _ | refine blk_drew ?_ | refine blk_alloc ?_ _)); exact BK384.out) hb); have n3_ := Aside0.mk (IsS65.below (by repeat (first | (with_reducible first | exact HI392.out | apply IsS65.alloc | apply IsS65.drewN | apply IsS65.drew | apply IsS65.set_0 | apply IsS65.set_1 | apply IsS65.set_2 | apply IsS65.set_3 | refine IsS65.far ?_ NB392_384.out _) | exact HI392.out)) hb); have n4_ := Aside0.mk (below_step (by repeat (first | (with_reducible first | exact HB.out | apply below_alloc | apply pw_below_drewN | apply below_drew1 | refine below_set ?_ (IsS65.ge HI392.out) | refine below_set ?_ GE384.out) | exact HB.out)) hb); clear HO387; clear BK384; clear HI392; clear HB; have HO387 := n0_; have HO397 := n1_; have BK384 := n2_; have HI392 := n3_; have HB := n4_; clear n0_ n1_ n2_ n3_ n4_; (try clear hb); (try clear hb2); (try clear hk); (try clear hi); (try clear ho0); clear A5; obtain ⟨Ao13, co13, eo13⟩ := Kd.R_slice HO397.out; subst eo13; have p398 : 0 ≤ (6 : Int) := (by omega); have q398 : 6 < (t395.length : Int) := of_decide_eq_true (by first | (with_reducible assumption) | assumption); obtain ⟨ad398, e398, hx398_0⟩ := Kd.at_int (Kd.R_reads' HO397.out).2.2 6 p398 q398; cases e398; (try simp only [show (6 : Int).toNat = 6 from rfl, Nat.reduceMul, Nat.reduceEqDiff, Go.Addr.add, ↓reduceIte] at hx398_0); have qi398 : (6 < t395.length) = True := eq_true (by omega); (try rw [show ((6 : Int)).toNat = 6 from rfl] at hx398_0); replace p398 := eq_true p398; replace q398 := eq_true q398)); go_upto_region 5 with (first | ((with_reducible refine gate_dst (N := 1) rfl ?_); (try (refine gate_guard (by rfl) ?_; dsimp only)); refine box_event ?hg (N := 1) ?hd (cs := #[.slice A0_0 l0_0.length c0_0, .slice A0_1 l0_1.length c0_1, .slice A0_2 l0_2.length c0_2, .int .i64 a0_3, .int .i64 a0_4]) (t := 31) ?hr ?_; (case hd => rfl); (case hg => rfl); (case hr => first | (go_simp; done) | (go_simp; rfl)); intro gb384 hg w8 hbox hb; have n0_ := Aside0.mk (below_step (by repeat (first | (with_reducible first | exact HB.out | apply below_alloc | apply pw_below_drewN | apply below_drew1) | exact HB.out)) hb); have n1_ := Aside0.mk (hbox); have n2_ := Aside0.mk ((by rw [hg]; exact (below_size (by repeat (first | (with_reducible first | exact HB.out | apply below_alloc | apply pw_below_drewN | apply below_drew1) | exact HB.out))) : w.heap.size ≤ gb384)); have n3_ := Aside0.mk ((by rw [hg]; exact (below_size (by repeat (first | (with_reducible first | exact HB.out | apply below_alloc | apply pw_below_drewN | apply below_drew1) | exact HB.out))) : w.heap.size ≤ gb384)); clear HB; have HB := n0_; have BK384 := n1_; have GW384 := n2_; have GE384 := n3_; clear n0_ n1_ n2_ n3_; clear hb hbox hg) | (go_at_call 17; (with_reducible refine (params_Defaults.calls k  t385 _ A2.out).mono ?_); rintro e w9 ⟨v386, rfl, ho0, hb⟩; have n0_ := Aside0.mk (Kd.R_lower ho0 (below_size (by repeat (first | (with_reducible first | exact HB.out | apply below_alloc | apply pw_below_drewN | apply below_drew1 | refine below_set ?_ GE384.out) | exact HB.out)))); have n1_ := Aside0.mk (blk_below (g := gb384) (o := .cells #[.slice A0_0 l0_0.length c0_0, .slice A0_1 l0_1.length c0_1, .slice A0_2 l0_2.length c0_2, .int .i64 a0_3, .int .i64 a0_4] 31 (0, 0)) (by (with_reducible repeat (first | refine blk_drewN ?_ _ | refine blk_drew ?_ | refine blk_alloc ?_ _)); exact BK384.out) hb); have n2_ := Aside0.mk (below_step (by repeat (first | (with_reducible first | exact HB.out | apply below_alloc | apply pw_below_drewN | apply below_drew1 | refine below_set ?_ GE384.out) | exact HB.out)) hb); clear BK384; clear HB; have HO387 := n0_; have BK384 := n1_; have HB := n2_; clear n0_ n1_ n2_; (try clear hb); (try clear hb2); (try clear hk); (try clear hi); (try clear ho0); clear A2; obtain ⟨Ao10, co10, eo10⟩ := Kd.R_slice HO387.out; subst eo10) | (go_at_call 16; (with_reducible refine (control_New.callsNew k _ _ t385 t388 t389 t390 t391 t393 w _ ?side1 ?side2 ?side3 A3.out (by assumption)).mono ?_); (case side1 => repeat (first | (with_reducible first | exact HB.out | apply below_alloc | apply pw_below_drewN | apply below_drew1 | refine below_set ?_ GE384.out) | exact HB.out)); (case side2 => repeat (first | exact (Kd.R_reads' HO387.out).2.2 | (with_reducible refine Kd.C_alloc ?_ _) | (with_reducible refine Kd.C_drewN ?_ _) | (with_reducible refine Kd.C_drew ?_))); (case side3 => exact (Kd.R_reads' HO387.out).2.1); rintro e w11 ⟨g392, rfl, hi, hb, hb2⟩; have n0_ := Aside0.mk (Kd.R_below (by (with_reducible repeat (first | apply Kd.R_alloc | apply Kd.R_drewN | apply Kd.R_drew)); exact HO387.out) hb2); have n1_ := Aside0.mk (blk_below (g := gb384) (o := .cells #[.slice A0_0 l0_0.length c0_0, .slice A0_1 l0_1.length c0_1, .slice A0_2 l0_2.length c0_2, .int .i64 a0_3, .int .i64 a0_4] 31 (0, 0)) (by (with_reducible repeat (first | refine blk_drewN ?_ _ | refine blk_drew ?_ | refine blk_alloc ?_ _)); exact BK384.out) hb2); have n2_ := Aside0.mk (hb); have n3_ := Aside0.mk (hi); have n4_ := Aside0.mk (IsS65.ne_blk hi (blk_below (g := gb384) (o := .cells #[.slice A0_0 l0_0.length c0_0, .slice A0_1 l0_1.length c0_1, .slice A0_2 l0_2.length c0_2, .int .i64 a0_3, .int .i64 a0_4] 31 (0, 0)) (by (with_reducible repeat (first | refine blk_drewN ?_ _ | refine blk_drew ?_ | refine blk_alloc ?_ _)); exact BK384.out) hb2) (by decide)); have n5_ := Aside0.mk (Ne.symm (IsS65.ne_blk hi (blk_below (g := gb384) (o := .cells #[.slice A0_0 l0_0.length c0_0, .slice A0_1 l0_1.length c0_1, .slice A0_2 l0_2.length c0_2, .int .i64 a0_3, .int .i64 a0_4] 31 (0, 0)) (by (with_reducible repeat (first | refine blk_drewN ?_ _ | refine blk_drew ?_ | refine blk_alloc ?_ _)); exact BK384.out) hb2) (by decide))); clear HO387; clear BK384; clear HB; have HO387 := n0_; have BK384 := n1_; have HB := n2_; have HI392 := n3_; have NB392_384 := n4_; have NB384_392 := n5_; clear n0_ n1_ n2_ n3_ n4_ n5_; (try clear hb); (try clear hb2); (try clear hk); (try clear hi)) | (go_at_call 17; (with_reducible refine (params_Defaults.calls k  t395 _ A5.out).mono ?_); rintro e w12 ⟨v396, rfl, ho0, hb⟩; have n0_ := Aside0.mk (Kd.R_elder' (by (with_reducible repeat (first | apply Kd.R_alloc | apply Kd.R_drewN | apply Kd.R_drew)); exact HO387.out) (Kd.R_base ho0) hb); have n1_ := Aside0.mk (Kd.R_lower (Kd.R_new' ho0 (Kd.R_lt (by (with_reducible repeat (first | apply Kd.R_alloc | apply Kd.R_drewN | apply Kd.R_drew)); exact HO387.out))) (below_size (by repeat (first | (with_reducible first | exact HB.out | apply below_alloc | apply pw_below_drewN | apply below_drew1 | refine below_set ?_ (IsS65.ge HI392.out) | refine below_set ?_ GE384.out) | exact HB.out)))); have n2_ := Aside0.mk (blk_below (g := gb384) (o := .cells #[.slice A0_0 l0_0.length c0_0, .slice A0_1 l0_1.length c0_1, .slice A0_2 l0_2.length c0_2, .int .i64 a0_3, .int .i64 a0_4] 31 (0, 0)) (by (with_reducible repeat (first | refine blk_drewN ?_ _ | refine blk_drew ?_ | refine blk_alloc ?_ _)); exact BK384.out) hb); have n3_ := Aside0.mk (IsS65.below (by repeat (first | (with_reducible first | exact HI392.out | apply IsS65.alloc | apply IsS65.drewN | apply IsS65.drew | apply IsS65.set_0 | apply IsS65.set_1 | apply IsS65.set_2 | apply IsS65.set_3 | refine IsS65.far ?_ NB392_384.out _) | exact HI392.out)) hb); have n4_ := Aside0.mk (below_step (by repeat (first | (with_reducible first | exact HB.out | apply below_alloc | apply pw_below_drewN | apply below_drew1 | refine below_set ?_ (IsS65.ge HI392.out) | refine below_set ?_ GE384.out) | exact HB.out)) hb); clear HO387; clear BK384; clear HI392; clear HB; have HO387 := n0_; have HO397 := n1_; have BK384 := n2_; have HI392 := n3_; have HB := n4_; clear n0_ n1_ n2_ n3_ n4_; (try clear hb); (try clear hb2); (try clear hk); (try clear hi); (try clear ho0); clear A5; obtain ⟨Ao13, co13, eo13⟩ := Kd.R_slice HO397.out; subst eo13; have p398 : 0 ≤ (6 : Int) := (by omega); have q398 : 6 < (t395.length : Int) := of_decide_eq_true (by first | (with_reducible assumption) | assumption); obtain ⟨ad398, e398, hx398_0⟩ := Kd.at_int (Kd.R_reads' HO397.out).2.2 6 p398 q398; cases e398; (try simp only [show (6 : Int).toNat = 6 from rfl, Nat.reduceMul, Nat.reduceEqDiff, Go.Addr.add, ↓reduceIte] at hx398_0); have qi398 : (6 < t395.length) = True := eq_true (by omega); (try rw [show ((6 : Int)).toNat = 6 from rfl] at hx398_0); replace p398 := eq_true p398; replace q398 := eq_true q398)))
      (try simp only [Act.put, List.setIfInBounds_toArray, List.set_cons_zero, List.set_cons_succ])
      go_cut [54] (fun v54 wc => ∃ (kq : Nat) (x54_6 : Bool), v54 = .bool x54_6 ∧ Aside0 (windhoverlaw17_ControlTracks.j0 kq (rd t395 6) x54_6 l0_0 l0_1 l0_2 a0_3 a0_4 t388 t389 t390 t391 = some r) ∧ Aside0 (kq ≤ k) ∧ Aside0 (wc.heap[gb384]? = some (.cells #[(.slice A0_0 l0_0.length c0_0), (.slice A0_1 l0_1.length c0_1), (.slice A0_2 l0_2.length c0_2), .int .i64 a0_3, .int .i64 a0_4] 31 (0, 0))) ∧ Aside0 (IsS65 w wc g392 t388 t389 t390 t391) ∧ Aside0 (Below w.heap.size w wc))
      case first =>
        have H := HC7.out
        clear HC7
        by_cases c14 : a0_3 < 0
        · rw [if_pos c14] at H
          have c14b0 : decide (a0_3 < 0) = true := decide_eq_true c14
          clear c14
          (first | rw [c14b0] | (simp only [i64_w, i32_w]; rw [c14b0]) | skip)
          have H' := Aside0.mk H
          clear H
          have hnb15 := NB384_392.out
          have hnc15 := NB392_384.out
          have hcz16_0 := blk_cells5 (w := w12) (g := gb384) BK384.out
          have hfz16_0 := blk_frozen BK384.out
          go_wp2
          go_meet
          case rel => exact ⟨_, (true), (by first | rfl | (simp; done) | (simp [*]; done)), H', ⟨by first | omega | exact Nat.le_refl _⟩, ⟨by (with_reducible repeat (first | refine blk_drewN ?_ _ | refine blk_drew ?_ | refine blk_alloc ?_ _)); exact BK384.out⟩, ⟨by repeat (first | (with_reducible first | exact HI392.out | apply IsS65.alloc | apply IsS65.drewN | apply IsS65.drew | apply IsS65.set_0 | apply IsS65.set_1 | apply IsS65.set_2 | apply IsS65.set_3 | refine IsS65.far ?_ NB392_384.out _) | exact HI392.out)⟩, ⟨by repeat (first | (with_reducible first | exact HB.out | apply below_alloc | apply pw_below_drewN | apply below_drew1 | refine below_set ?_ (IsS65.ge HI392.out) | refine below_set ?_ GE384.out) | exact HB.out)⟩⟩
        · rw [if_neg c14] at H
          have c14b0 : decide (a0_3 < 0) = false := decide_eq_false c14
          clear c14
          (first | rw [c14b0] | (simp only [i64_w, i32_w]; rw [c14b0]) | skip)
          by_cases c17 : a0_4 < 0
          · rw [if_pos c17] at H
            have c17b0 : decide (a0_4 < 0) = true := decide_eq_true c17
            clear c17
            have H' := Aside0.mk H
            clear H
            have hnb18 := NB384_392.out
            have hnc18 := NB392_384.out
            have hcz19_0 := blk_cells5 (w := w12) (g := gb384) BK384.out
            have hfz19_0 := blk_frozen BK384.out
            go_wp2
            go_meet
            case rel => exact ⟨_, (true), (by first | rfl | (simp; done) | (simp [*]; done)), H', ⟨by first | omega | exact Nat.le_refl _⟩, ⟨by (with_reducible repeat (first | refine blk_drewN ?_ _ | refine blk_drew ?_ | refine blk_alloc ?_ _)); exact BK384.out⟩, ⟨by repeat (first | (with_reducible first | exact HI392.out | apply IsS65.alloc | apply IsS65.drewN | apply IsS65.drew | apply IsS65.set_0 | apply IsS65.set_1 | apply IsS65.set_2 | apply IsS65.set_3 | refine IsS65.far ?_ NB392_384.out _) | exact HI392.out)⟩, ⟨by repeat (first | (with_reducible first | exact HB.out | apply below_alloc | apply pw_below_drewN | apply below_drew1 | refine below_set ?_ (IsS65.ge HI392.out) | refine below_set ?_ GE384.out) | exact HB.out)⟩⟩
          · rw [if_neg c17] at H
            have c17b0 : decide (a0_4 < 0) = false := decide_eq_false c17
            clear c17
            by_cases c20 : a0_3 > 64
            · rw [if_pos c20] at H
              have c20b0 : decide (64 < a0_3) = true := decide_eq_true c20
              clear c20
              have H' := Aside0.mk H
              clear H
              have hnb21 := NB384_392.out
              have hnc21 := NB392_384.out
              have hcz22_0 := blk_cells5 (w := w12) (g := gb384) BK384.out
              have hfz22_0 := blk_frozen BK384.out
              go_wp2
              go_meet
              case rel => exact ⟨_, (true), (by first | rfl | (simp; done) | (simp [*]; done)), H', ⟨by first | omega | exact Nat.le_refl _⟩, ⟨by (with_reducible repeat (first | refine blk_drewN ?_ _ | refine blk_drew ?_ | refine blk_alloc ?_ _)); exact BK384.out⟩, ⟨by repeat (first | (with_reducible first | exact HI392.out | apply IsS65.alloc | apply IsS65.drewN | apply IsS65.drew | apply IsS65.set_0 | apply IsS65.set_1 | apply IsS65.set_2 | apply IsS65.set_3 | refine IsS65.far ?_ NB392_384.out _) | exact HI392.out)⟩, ⟨by repeat (first | (with_reducible first | exact HB.out | apply below_alloc | apply pw_below_drewN | apply below_drew1 | refine below_set ?_ (IsS65.ge HI392.out) | refine below_set ?_ GE384.out) | exact HB.out)⟩⟩
            · rw [if_neg c20] at H
              have c20b0 : decide (64 < a0_3) = false := decide_eq_false c20
              clear c20
              by_cases c23 : a0_4 > 64
              · rw [if_pos c23] at H
                have c23b0 : decide (64 < a0_4) = true := decide_eq_true c23
                clear c23
                have H' := Aside0.mk H
                clear H
                have hnb24 := NB384_392.out
                have hnc24 := NB392_384.out
                have hcz25_0 := blk_cells5 (w := w12) (g := gb384) BK384.out
                have hfz25_0 := blk_frozen BK384.out
                go_wp2
                go_meet
                case rel => exact ⟨_, (true), (by first | rfl | (simp; done) | (simp [*]; done)), H', ⟨by first | omega | exact Nat.le_refl _⟩, ⟨by (with_reducible repeat (first | refine blk_drewN ?_ _ | refine blk_drew ?_ | refine blk_alloc ?_ _)); exact BK384.out⟩, ⟨by repeat (first | (with_reducible first | exact HI392.out | apply IsS65.alloc | apply IsS65.drewN | apply IsS65.drew | apply IsS65.set_0 | apply IsS65.set_1 | apply IsS65.set_2 | apply IsS65.set_3 | refine IsS65.far ?_ NB392_384.out _) | exact HI392.out)⟩, ⟨by repeat (first | (with_reducible first | exact HB.out | apply below_alloc | apply pw_below_drewN | apply below_drew1 | refine below_set ?_ (IsS65.ge HI392.out) | refine below_set ?_ GE384.out) | exact HB.out)⟩⟩
              · rw [if_neg c23] at H
                have c23b0 : decide (64 < a0_4) = false := decide_eq_false c23
                clear c23
                have H' := Aside0.mk H
                clear H
                have hnb26 := NB384_392.out
                have hnc26 := NB392_384.out
                have hcz27_0 := blk_cells5 (w := w12) (g := gb384) BK384.out
                have hfz27_0 := blk_frozen BK384.out
                go_wp2
                go_meet
                case rel => exact ⟨_, (decide ((wrap64 ((wrap64 ((rd t395 6) + a0_4)) + (wrap64 (2 * a0_3)))) > 64)), (by first | rfl | (simp; done) | (simp [*]; done)), H', ⟨by first | omega | exact Nat.le_refl _⟩, ⟨by (with_reducible repeat (first | refine blk_drewN ?_ _ | refine blk_drew ?_ | refine blk_alloc ?_ _)); exact BK384.out⟩, ⟨by repeat (first | (with_reducible first | exact HI392.out | apply IsS65.alloc | apply IsS65.drewN | apply IsS65.drew | apply IsS65.set_0 | apply IsS65.set_1 | apply IsS65.set_2 | apply IsS65.set_3 | refine IsS65.far ?_ NB392_384.out _) | exact HI392.out)⟩, ⟨by repeat (first | (with_reducible first | exact HB.out | apply below_alloc | apply pw_below_drewN | apply below_drew1 | refine below_set ?_ (IsS65.ge HI392.out) | refine below_set ?_ GE384.out) | exact HB.out)⟩⟩
      case rest =>
        clear HC7
        try clear c1
        try clear c2
        try clear p2
        try clear p3
        try clear q3
        try clear hx3
        try clear qi3
        try clear c4
        try clear c4b0
        try clear c4b1
        try clear c5
        try clear c6
        try clear c6b0
        try clear c6b1
        try clear p6
        try clear c14
        try clear c14b0
        try clear c15
        try clear c17
        try clear c17b0
        try clear c18
        try clear c20
        try clear c20b0
        try clear c21
        try clear c23
        try clear c23b0
        try clear c24
        try clear c26
        try clear hcz16_0
        try clear hcz19_0
        try clear hcz22_0
        try clear hcz25_0
        try clear hcz27_0
        try clear hfz16_0
        try clear hfz19_0
        try clear hfz22_0
        try clear hfz25_0
        try clear hfz27_0
        try clear hx398_0
        try clear p398
        try clear q398
        obtain ⟨kq, x54_6, rfl, HA, HJ6, BK384, HI392, HB⟩ := hcut
        cases kq with
        | zero => exact absurd HA.out (by simp [windhoverlaw17_ControlTracks.j0])
        | succ kj6 =>
          have H := HA.out
          clear HA
          simp only [windhoverlaw17_ControlTracks.j0] at H
          by_cases c28 : x54_6 = true
          · subst c28
            have H1 : ((windhoverlaw17_awake.f kj6).bind fun t399 => (some t399)) = some r := by rw [if_pos rfl] at H; exact H
            clear H
            have H := H1
            clear H1
            replace H := Option.bind_eq_some_iff.mp H
            obtain ⟨t399, A290, H⟩ := H
            replace H : (some t399) = some r := H
            have A29 := Aside0.mk A290
            clear A290
            obtain rfl := Option.some.inj H
            go_wp2_with (first | (go_at_call 13; (with_reducible refine (windhoverlaw17_awake.calls kj6  t399 _ A29.out).mono ?_); rintro e w30 ⟨rfl, hb⟩; have n0_ := Aside0.mk (blk_below (g := gb384) (o := .cells #[.slice A0_0 l0_0.length c0_0, .slice A0_1 l0_1.length c0_1, .slice A0_2 l0_2.length c0_2, .int .i64 a0_3, .int .i64 a0_4] 31 (0, 0)) (by (with_reducible repeat (first | refine blk_drewN ?_ _ | refine blk_drew ?_ | refine blk_alloc ?_ _)); exact BK384.out) hb); have n1_ := Aside0.mk (IsS65.below (by repeat (first | (with_reducible first | exact HI392.out | apply IsS65.alloc | apply IsS65.drewN | apply IsS65.drew | apply IsS65.set_0 | apply IsS65.set_1 | apply IsS65.set_2 | apply IsS65.set_3 | refine IsS65.far ?_ NB392_384.out _) | exact HI392.out)) hb); have n2_ := Aside0.mk (below_step (by repeat (first | (with_reducible first | exact HB.out | apply below_alloc | apply pw_below_drewN | apply below_drew1 | refine below_set ?_ (IsS65.ge HI392.out) | refine below_set ?_ GE384.out) | exact HB.out)) hb); clear BK384; clear HI392; clear HB; have BK384 := n0_; have HI392 := n1_; have HB := n2_; clear n0_ n1_ n2_; (try clear hb); (try clear hb2); (try clear hk); (try clear hi)))
            go_ret
            exact ⟨by first | rfl | (simp [errW_none, errW_some] <;> rfl) | (simp [*, errW_none, errW_some] <;> rfl), by repeat (first | (with_reducible first | exact HB.out | apply below_alloc | apply pw_below_drewN | apply below_drew1 | refine below_set ?_ (IsS65.ge HI392.out) | refine below_set ?_ GE384.out) | exact HB.out)⟩
          · replace c28 := Bool.eq_false_iff.mpr c28
            subst c28
            have H1 : (windhoverlaw17_ControlTracks.l0 kj6 (rd t395 6) 0 0 l0_0 l0_1 l0_2 a0_3 a0_4 t388 t389 t390 t391) = some r := by rw [if_neg (show ¬ (false = true) by decide)] at H; exact H
            clear H
            have H := H1
            clear H1
            have H' := Aside0.mk H
            clear H
            go_wp2
            go_loopg [6, 7] kj6 (fun kq v6 v7 w' => ∃ (x6_2 : Int) (x7_2 : Int) (x393000_2 : Int) (x393001_2 : Int) (x393002_2 : Int) (x393003_2 : Int), v6 = .int .i64 x6_2 ∧ v7 = .int .i64 x7_2 ∧ Aside0 (windhoverlaw17_ControlTracks.l0 kq (rd t395 6) x6_2 x7_2 l0_0 l0_1 l0_2 a0_3 a0_4 x393000_2 x393001_2 x393002_2 x393003_2 = some r) ∧ Aside0 (kq ≤ kj6) ∧ Aside0 (w'.heap[gb384]? = some (.cells #[(.slice A0_0 l0_0.length c0_0), (.slice A0_1 l0_1.length c0_1), (.slice A0_2 l0_2.length c0_2), .int .i64 a0_3, .int .i64 a0_4] 31 (0, 0))) ∧ Aside0 (IsS65 w w' g392 x393000_2 x393001_2 x393002_2 x393003_2) ∧ Aside0 (Below w.heap.size w w'))
            case atStart => exact ⟨(0), (0), (t388), (t389), (t390), (t391), (by first | rfl | (simp; done) | (simp [*]; done)), (by first | rfl | (simp; done) | (simp [*]; done)), H', ⟨Nat.le_refl _⟩, ⟨by (with_reducible repeat (first | refine blk_drewN ?_ _ | refine blk_drew ?_ | refine blk_alloc ?_ _)); exact BK384.out⟩, ⟨by repeat (first | (with_reducible first | exact HI392.out | apply IsS65.alloc | apply IsS65.drewN | apply IsS65.drew | apply IsS65.set_0 | apply IsS65.set_1 | apply IsS65.set_2 | apply IsS65.set_3 | refine IsS65.far ?_ NB392_384.out _) | exact HI392.out)⟩, ⟨by repeat (first | (with_reducible first | exact HB.out | apply below_alloc | apply pw_below_drewN | apply below_drew1 | refine below_set ?_ (IsS65.ge HI392.out) | refine below_set ?_ GE384.out) | exact HB.out)⟩⟩
            case round =>
              clear H'
              try clear c1
              try clear c2
              try clear p2
              try clear p3
              try clear q3
              try clear hx3
              try clear qi3
              try clear c4
              try clear c4b0
              try clear c4b1
              try clear c5
              try clear c6
              try clear c6b0
              try clear c6b1
              try clear p6
              try clear c14
              try clear c14b0
              try clear c15
              try clear c17
              try clear c17b0
              try clear c18
              try clear c20
              try clear c20b0
              try clear c21
              try clear c23
              try clear c23b0
              try clear c24
              try clear c26
              try clear c28
              try clear hcz16_0
              try clear hcz19_0
              try clear hcz22_0
              try clear hcz25_0
              try clear hcz27_0
              try clear hfz16_0
              try clear hfz19_0
              try clear hfz22_0
              try clear hfz25_0
              try clear hfz27_0
              try clear hx398_0
              try clear p2
              try clear p3
              try clear p398
              try clear p6
              try clear q3
              try clear q398
              obtain ⟨x6_2, x7_2, x393000_2, x393001_2, x393002_2, x393003_2, rfl, rfl, HA, HK2, BK384, HI392, HB⟩ := hrel
              cases gk with
              | zero => exact absurd HA.out (by simp [windhoverlaw17_ControlTracks.l0])
              | succ k2 =>
                have H := HA.out
                clear HA
                simp only [windhoverlaw17_ControlTracks.l0] at H
                have HC31 := Aside0.mk H
                clear H
                go_upto_region 9 with (fail)
                repeat (go_quiet (fail); go_upto_region 9 with (fail))
                go_cut [74] (fun v74 wc => ∃ (kq : Nat) (x74_30 : Bool), v74 = .bool x74_30 ∧ Aside0 (windhoverlaw17_ControlTracks.j2 kq (rd t395 6) x6_2 x7_2 x74_30 l0_0 l0_1 l0_2 a0_3 a0_4 x393000_2 x393001_2 x393002_2 x393003_2 = some r) ∧ Aside0 (kq ≤ k2) ∧ Aside0 (wc.heap[gb384]? = some (.cells #[(.slice A0_0 l0_0.length c0_0), (.slice A0_1 l0_1.length c0_1), (.slice A0_2 l0_2.length c0_2), .int .i64 a0_3, .int .i64 a0_4] 31 (0, 0))) ∧ Aside0 (IsS65 w wc g392 x393000_2 x393001_2 x393002_2 x393003_2) ∧ Aside0 (Below w.heap.size w wc))
                case first =>
                  have H := HC31.out
                  clear HC31
                  by_cases c32 : x7_2 < (l0_0.length : Int)
                  · rw [if_pos c32] at H
                    have c32b0 : decide (x7_2 < (l0_0.length : Int)) = true := decide_eq_true c32
                    clear c32
                    (first | rw [c32b0] | (simp only [i64_w, i32_w]; rw [c32b0]) | skip)
                    by_cases c33 : x7_2 < (l0_1.length : Int)
                    · rw [if_pos c33] at H
                      have c33b0 : decide (x7_2 < (l0_1.length : Int)) = true := decide_eq_true c33
                      clear c33
                      have H' := Aside0.mk H
                      clear H
                      have hnb34 := NB384_392.out
                      have hnc34 := NB392_384.out
                      have hcz35_0 := blk_cells5 (w := wr) (g := gb384) BK384.out
                      have hfz35_0 := blk_frozen BK384.out
                      go_wp2
                      go_meet
                      case rel => exact ⟨_, (decide (x7_2 < (l0_2.length : Int))), (by first | rfl | (simp; done) | (simp [*]; done)), H', ⟨by have := HJ6.out; have := HK2.out; first | omega | exact Nat.le_refl _⟩, ⟨by (with_reducible repeat (first | refine blk_drewN ?_ _ | refine blk_drew ?_ | refine blk_alloc ?_ _)); exact BK384.out⟩, ⟨by repeat (first | (with_reducible first | exact HI392.out | apply IsS65.alloc | apply IsS65.drewN | apply IsS65.drew | apply IsS65.set_0 | apply IsS65.set_1 | apply IsS65.set_2 | apply IsS65.set_3 | refine IsS65.far ?_ NB392_384.out _) | exact HI392.out)⟩, ⟨by repeat (first | (with_reducible first | exact HB.out | apply below_alloc | apply pw_below_drewN | apply below_drew1 | refine below_set ?_ (IsS65.ge HI392.out) | refine below_set ?_ GE384.out) | exact HB.out)⟩⟩
                    · rw [if_neg c33] at H
                      have c33b0 : decide (x7_2 < (l0_1.length : Int)) = false := decide_eq_false c33
                      clear c33
                      have H' := Aside0.mk H
                      clear H
                      have hnb36 := NB384_392.out
                      have hnc36 := NB392_384.out
                      have hcz37_0 := blk_cells5 (w := wr) (g := gb384) BK384.out
                      have hfz37_0 := blk_frozen BK384.out
                      go_wp2
                      go_meet
                      case rel => exact ⟨_, (false), (by first | rfl | (simp; done) | (simp [*]; done)), H', ⟨by have := HJ6.out; have := HK2.out; first | omega | exact Nat.le_refl _⟩, ⟨by (with_reducible repeat (first | refine blk_drewN ?_ _ | refine blk_drew ?_ | refine blk_alloc ?_ _)); exact BK384.out⟩, ⟨by repeat (first | (with_reducible first | exact HI392.out | apply IsS65.alloc | apply IsS65.drewN | apply IsS65.drew | apply IsS65.set_0 | apply IsS65.set_1 | apply IsS65.set_2 | apply IsS65.set_3 | refine IsS65.far ?_ NB392_384.out _) | exact HI392.out)⟩, ⟨by repeat (first | (with_reducible first | exact HB.out | apply below_alloc | apply pw_below_drewN | apply below_drew1 | refine below_set ?_ (IsS65.ge HI392.out) | refine below_set ?_ GE384.out) | exact HB.out)⟩⟩
                  · rw [if_neg c32] at H
                    have c32b0 : decide (x7_2 < (l0_0.length : Int)) = false := decide_eq_false c32
                    clear c32
                    (first | rw [c32b0] | (simp only [i64_w, i32_w]; rw [c32b0]) | skip)
                    have H' := Aside0.mk H
                    clear H
                    have hnb38 := NB384_392.out
                    have hnc38 := NB392_384.out
                    have hcz39_0 := blk_cells5 (w := wr) (g := gb384) BK384.out
                    have hfz39_0 := blk_frozen BK384.out
                    go_wp2
                    go_meet
                    case rel => exact ⟨_, (false), (by first | rfl | (simp; done) | (simp [*]; done)), H', ⟨by have := HJ6.out; have := HK2.out; first | omega | exact Nat.le_refl _⟩, ⟨by (with_reducible repeat (first | refine blk_drewN ?_ _ | refine blk_drew ?_ | refine blk_alloc ?_ _)); exact BK384.out⟩, ⟨by repeat (first | (with_reducible first | exact HI392.out | apply IsS65.alloc | apply IsS65.drewN | apply IsS65.drew | apply IsS65.set_0 | apply IsS65.set_1 | apply IsS65.set_2 | apply IsS65.set_3 | refine IsS65.far ?_ NB392_384.out _) | exact HI392.out)⟩, ⟨by repeat (first | (with_reducible first | exact HB.out | apply below_alloc | apply pw_below_drewN | apply below_drew1 | refine below_set ?_ (IsS65.ge HI392.out) | refine below_set ?_ GE384.out) | exact HB.out)⟩⟩
                case rest =>
                  clear HC31
                  try clear c1
                  try clear c2
                  try clear p2
                  try clear c3
                  try clear p3
                  try clear q3
                  try clear hx3
                  try clear qi3
                  try clear c4
                  try clear c4b0
                  try clear c4b1
                  try clear c5
                  try clear c6
                  try clear c6b0
                  try clear c6b1
                  try clear p6
                  try clear c14
                  try clear c14b0
                  try clear c15
                  try clear c17
                  try clear c17b0
                  try clear c18
                  try clear c20
                  try clear c20b0
                  try clear c21
                  try clear c23
                  try clear c23b0
                  try clear c24
                  try clear c26
                  try clear c28
                  try clear c32
                  try clear c32b0
                  try clear c33
                  try clear c33b0
                  try clear c34
                  try clear c36
                  try clear c38
                  try clear p39
                  try clear q39
                  try clear hx39
                  try clear qi39
                  try clear hcz16_0
                  try clear hcz19_0
                  try clear hcz22_0
                  try clear hcz25_0
                  try clear hcz27_0
                  try clear hcz35_0
                  try clear hcz37_0
                  try clear hcz39_0
                  try clear hfz16_0
                  try clear hfz19_0
                  try clear hfz22_0
                  try clear hfz25_0
                  try clear hfz27_0
                  try clear hfz35_0
                  try clear hfz37_0
                  try clear hfz39_0
                  try clear hx398_0
                  try clear p2
                  try clear p3
                  try clear p398
                  try clear p6
                  try clear q3
                  try clear q398
                  obtain ⟨kq, x74_30, rfl, HA, HJ30, BK384, HI392, HB⟩ := hcut
                  cases kq with
                  | zero => exact absurd HA.out (by simp [windhoverlaw17_ControlTracks.j2])
                  | succ kj30 =>
                    have H := HA.out
                    clear HA
                    simp only [windhoverlaw17_ControlTracks.j2] at H
                    by_cases c40 : x74_30 = true
                    · subst c40
                      have H1 : (if 0 ≤ x7_2 then (if x7_2 < (l0_1.length : Int) then ((windhoverref01_Clamp.f (rd l0_1 x7_2) (wrap64 (-a0_3)) a0_3).bind fun t402 => ((control_Steer_Refs.f x393000_2 x393001_2 x393002_2 x393003_2).bind fun bt403 => (if x7_2 < (l0_0.length : Int) then ((windhoverref01_Clamp.f (rd l0_0 x7_2) (-1099511627776) 1099511627776).bind fun t411 => ((control_Steer_Step.f kj30 x393000_2 x393001_2 x393002_2 x393003_2 false 0 t411 false 0 0 false 0 0 0 0 0 (wrap64 (x6_2 + t402)) 0 0).bind fun bt412 => ((control_Steer_Refs.f bt412.2.2.2.1 bt412.2.2.2.2.1 bt412.2.2.2.2.2.1 bt412.2.2.2.2.2.2).bind fun bt420 => (if x7_2 < (l0_2.length : Int) then ((windhoverref01_Clamp.f (rd l0_2 x7_2) (wrap64 (-a0_4)) a0_4).bind fun t428 => (if (wrap64 (bt420.1 - bt403.1)) > (rd t395 6) then (none) else (if (wrap64 (bt403.1 - bt420.1)) > (rd t395 6) then (none) else (if (wrap64 ((wrap64 ((wrap64 (x6_2 + bt412.1)) + t428)) - bt420.1)) > (wrap64 (a0_3 + a0_4)) then (none) else (if (wrap64 (bt420.1 - (wrap64 ((wrap64 (x6_2 + bt412.1)) + t428)))) > (wrap64 (a0_3 + a0_4)) then (none) else (windhoverlaw17_ControlTracks.l0 kj30 (rd t395 6) (wrap64 ((wrap64 (x6_2 + bt412.1)) + t428)) (wrap64 (x7_2 + 1)) l0_0 l0_1 l0_2 a0_3 a0_4 bt412.2.2.2.1 bt412.2.2.2.2.1 bt412.2.2.2.2.2.1 bt412.2.2.2.2.2.2)))))) else (none))))) else (none)))) else (none)) else (none)) = some r := by rw [if_pos rfl] at H; exact H
                      clear H
                      have H := H1
                      clear H1
                      by_cases c41 : 0 ≤ x7_2
                      · rw [if_pos c41] at H
                        have c41b0 : decide (0 ≤ x7_2) = true := decide_eq_true c41
                        clear c41
                        by_cases c42 : x7_2 < (l0_1.length : Int)
                        · rw [if_pos c42] at H
                          have c42b0 : decide (x7_2 < (l0_1.length : Int)) = true := decide_eq_true c42
                          clear c42
                          replace H := Option.bind_eq_some_iff.mp H
                          obtain ⟨t402, A430, H⟩ := H
                          replace H : ((control_Steer_Refs.f x393000_2 x393001_2 x393002_2 x393003_2).bind fun bt403 => (if x7_2 < (l0_0.length : Int) then ((windhoverref01_Clamp.f (rd l0_0 x7_2) (-1099511627776) 1099511627776).bind fun t411 => ((control_Steer_Step.f kj30 x393000_2 x393001_2 x393002_2 x393003_2 false 0 t411 false 0 0 false 0 0 0 0 0 (wrap64 (x6_2 + t402)) 0 0).bind fun bt412 => ((control_Steer_Refs.f bt412.2.2.2.1 bt412.2.2.2.2.1 bt412.2.2.2.2.2.1 bt412.2.2.2.2.2.2).bind fun bt420 => (if x7_2 < (l0_2.length : Int) then ((windhoverref01_Clamp.f (rd l0_2 x7_2) (wrap64 (-a0_4)) a0_4).bind fun t428 => (if (wrap64 (bt420.1 - bt403.1)) > (rd t395 6) then (none) else (if (wrap64 (bt403.1 - bt420.1)) > (rd t395 6) then (none) else (if (wrap64 ((wrap64 ((wrap64 (x6_2 + bt412.1)) + t428)) - bt420.1)) > (wrap64 (a0_3 + a0_4)) then (none) else (if (wrap64 (bt420.1 - (wrap64 ((wrap64 (x6_2 + bt412.1)) + t428)))) > (wrap64 (a0_3 + a0_4)) then (none) else (windhoverlaw17_ControlTracks.l0 kj30 (rd t395 6) (wrap64 ((wrap64 (x6_2 + bt412.1)) + t428)) (wrap64 (x7_2 + 1)) l0_0 l0_1 l0_2 a0_3 a0_4 bt412.2.2.2.1 bt412.2.2.2.2.1 bt412.2.2.2.2.2.1 bt412.2.2.2.2.2.2)))))) else (none))))) else (none))) = some r := H
                          have A43 := Aside0.mk A430
                          clear A430
                          replace H := Option.bind_eq_some_iff.mp H
                          obtain ⟨⟨t403, t404, t405, t406, t407, t408, t409⟩, A440, H⟩ := H
                          replace H : (if x7_2 < (l0_0.length : Int) then ((windhoverref01_Clamp.f (rd l0_0 x7_2) (-1099511627776) 1099511627776).bind fun t411 => ((control_Steer_Step.f kj30 x393000_2 x393001_2 x393002_2 x393003_2 false 0 t411 false 0 0 false 0 0 0 0 0 (wrap64 (x6_2 + t402)) 0 0).bind fun bt412 => ((control_Steer_Refs.f bt412.2.2.2.1 bt412.2.2.2.2.1 bt412.2.2.2.2.2.1 bt412.2.2.2.2.2.2).bind fun bt420 => (if x7_2 < (l0_2.length : Int) then ((windhoverref01_Clamp.f (rd l0_2 x7_2) (wrap64 (-a0_4)) a0_4).bind fun t428 => (if (wrap64 (bt420.1 - t403)) > (rd t395 6) then (none) else (if (wrap64 (t403 - bt420.1)) > (rd t395 6) then (none) else (if (wrap64 ((wrap64 ((wrap64 (x6_2 + bt412.1)) + t428)) - bt420.1)) > (wrap64 (a0_3 + a0_4)) then (none) else (if (wrap64 (bt420.1 - (wrap64 ((wrap64 (x6_2 + bt412.1)) + t428)))) > (wrap64 (a0_3 + a0_4)) then (none) else (windhoverlaw17_ControlTracks.l0 kj30 (rd t395 6) (wrap64 ((wrap64 (x6_2 + bt412.1)) + t428)) (wrap64 (x7_2 + 1)) l0_0 l0_1 l0_2 a0_3 a0_4 bt412.2.2.2.1 bt412.2.2.2.2.1 bt412.2.2.2.2.2.1 bt412.2.2.2.2.2.2)))))) else (none))))) else (none)) = some r := H
                          have A44 := Aside0.mk A440
                          clear A440
                          obtain ⟨E0_, E1_, E2_, E3_⟩ := control_Steer_Refs.same A44.out
                          subst E0_
                          subst E1_
                          subst E2_
                          subst E3_
                          by_cases c45 : x7_2 < (l0_0.length : Int)
                          · rw [if_pos c45] at H
                            have c45b0 : decide (x7_2 < (l0_0.length : Int)) = true := decide_eq_true c45
                            clear c45
                            replace H := Option.bind_eq_some_iff.mp H
                            obtain ⟨t411, A460, H⟩ := H
                            replace H : ((control_Steer_Step.f kj30 x393000_2 x393001_2 x393002_2 x393003_2 false 0 t411 false 0 0 false 0 0 0 0 0 (wrap64 (x6_2 + t402)) 0 0).bind fun bt412 => ((control_Steer_Refs.f bt412.2.2.2.1 bt412.2.2.2.2.1 bt412.2.2.2.2.2.1 bt412.2.2.2.2.2.2).bind fun bt420 => (if x7_2 < (l0_2.length : Int) then ((windhoverref01_Clamp.f (rd l0_2 x7_2) (wrap64 (-a0_4)) a0_4).bind fun t428 => (if (wrap64 (bt420.1 - t403)) > (rd t395 6) then (none) else (if (wrap64 (t403 - bt420.1)) > (rd t395 6) then (none) else (if (wrap64 ((wrap64 ((wrap64 (x6_2 + bt412.1)) + t428)) - bt420.1)) > (wrap64 (a0_3 + a0_4)) then (none) else (if (wrap64 (bt420.1 - (wrap64 ((wrap64 (x6_2 + bt412.1)) + t428)))) > (wrap64 (a0_3 + a0_4)) then (none) else (windhoverlaw17_ControlTracks.l0 kj30 (rd t395 6) (wrap64 ((wrap64 (x6_2 + bt412.1)) + t428)) (wrap64 (x7_2 + 1)) l0_0 l0_1 l0_2 a0_3 a0_4 bt412.2.2.2.1 bt412.2.2.2.2.1 bt412.2.2.2.2.2.1 bt412.2.2.2.2.2.2)))))) else (none)))) = some r := H
                            have A46 := Aside0.mk A460
                            clear A460
                            replace H := Option.bind_eq_some_iff.mp H
                            obtain ⟨⟨t412, t413, t414, t415, t416, t417, t418⟩, A470, H⟩ := H
                            replace H : ((control_Steer_Refs.f t415 t416 t417 t418).bind fun bt420 => (if x7_2 < (l0_2.length : Int) then ((windhoverref01_Clamp.f (rd l0_2 x7_2) (wrap64 (-a0_4)) a0_4).bind fun t428 => (if (wrap64 (bt420.1 - t403)) > (rd t395 6) then (none) else (if (wrap64 (t403 - bt420.1)) > (rd t395 6) then (none) else (if (wrap64 ((wrap64 ((wrap64 (x6_2 + t412)) + t428)) - bt420.1)) > (wrap64 (a0_3 + a0_4)) then (none) else (if (wrap64 (bt420.1 - (wrap64 ((wrap64 (x6_2 + t412)) + t428)))) > (wrap64 (a0_3 + a0_4)) then (none) else (windhoverlaw17_ControlTracks.l0 kj30 (rd t395 6) (wrap64 ((wrap64 (x6_2 + t412)) + t428)) (wrap64 (x7_2 + 1)) l0_0 l0_1 l0_2 a0_3 a0_4 t415 t416 t417 t418)))))) else (none))) = some r := H
                            have A47 := Aside0.mk A470
                            clear A470
                            replace H := Option.bind_eq_some_iff.mp H
                            obtain ⟨⟨t420, t421, t422, t423, t424, t425, t426⟩, A480, H⟩ := H
                            replace H : (if x7_2 < (l0_2.length : Int) then ((windhoverref01_Clamp.f (rd l0_2 x7_2) (wrap64 (-a0_4)) a0_4).bind fun t428 => (if (wrap64 (t420 - t403)) > (rd t395 6) then (none) else (if (wrap64 (t403 - t420)) > (rd t395 6) then (none) else (if (wrap64 ((wrap64 ((wrap64 (x6_2 + t412)) + t428)) - t420)) > (wrap64 (a0_3 + a0_4)) then (none) else (if (wrap64 (t420 - (wrap64 ((wrap64 (x6_2 + t412)) + t428)))) > (wrap64 (a0_3 + a0_4)) then (none) else (windhoverlaw17_ControlTracks.l0 kj30 (rd t395 6) (wrap64 ((wrap64 (x6_2 + t412)) + t428)) (wrap64 (x7_2 + 1)) l0_0 l0_1 l0_2 a0_3 a0_4 t415 t416 t417 t418)))))) else (none)) = some r := H
                            have A48 := Aside0.mk A480
                            clear A480
                            obtain ⟨E0_, E1_, E2_, E3_⟩ := control_Steer_Refs.same A48.out
                            subst E0_
                            subst E1_
                            subst E2_
                            subst E3_
                            by_cases c49 : x7_2 < (l0_2.length : Int)
                            · rw [if_pos c49] at H
                              have c49b0 : decide (x7_2 < (l0_2.length : Int)) = true := decide_eq_true c49
                              clear c49
                              replace H := Option.bind_eq_some_iff.mp H
                              obtain ⟨t428, A500, H⟩ := H
                              replace H : (if (wrap64 (t420 - t403)) > (rd t395 6) then (none) else (if (wrap64 (t403 - t420)) > (rd t395 6) then (none) else (if (wrap64 ((wrap64 ((wrap64 (x6_2 + t412)) + t428)) - t420)) > (wrap64 (a0_3 + a0_4)) then (none) else (if (wrap64 (t420 - (wrap64 ((wrap64 (x6_2 + t412)) + t428)))) > (wrap64 (a0_3 + a0_4)) then (none) else (windhoverlaw17_ControlTracks.l0 kj30 (rd t395 6) (wrap64 ((wrap64 (x6_2 + t412)) + t428)) (wrap64 (x7_2 + 1)) l0_0 l0_1 l0_2 a0_3 a0_4 t415 t416 t417 t418))))) = some r := H
                              have A50 := Aside0.mk A500
                              clear A500
                              by_cases c51 : (wrap64 (t420 - t403)) > (rd t395 6)
                              · rw [if_pos c51] at H
                                exact absurd H (by simp)
                              · rw [if_neg c51] at H
                                have c51b0 : decide ((rd t395 6) < (wrap64 (t420 - t403))) = false := decide_eq_false c51
                                clear c51
                                by_cases c52 : (wrap64 (t403 - t420)) > (rd t395 6)
                                · rw [if_pos c52] at H
                                  exact absurd H (by simp)
                                · rw [if_neg c52] at H
                                  have c52b0 : decide ((rd t395 6) < (wrap64 (t403 - t420))) = false := decide_eq_false c52
                                  clear c52
                                  by_cases c53 : (wrap64 ((wrap64 ((wrap64 (x6_2 + t412)) + t428)) - t420)) > (wrap64 (a0_3 + a0_4))
                                  · rw [if_pos c53] at H
                                    exact absurd H (by simp)
                                  · rw [if_neg c53] at H
                                    have c53b0 : decide ((wrap64 (a0_3 + a0_4)) < (wrap64 ((wrap64 ((wrap64 (x6_2 + t412)) + t428)) - t420))) = false := decide_eq_false c53
                                    clear c53
                                    by_cases c54 : (wrap64 (t420 - (wrap64 ((wrap64 (x6_2 + t412)) + t428)))) > (wrap64 (a0_3 + a0_4))
                                    · rw [if_pos c54] at H
                                      exact absurd H (by simp)
                                    · rw [if_neg c54] at H
                                      have c54b0 : decide ((wrap64 (a0_3 + a0_4)) < (wrap64 (t420 - (wrap64 ((wrap64 (x6_2 + t412)) + t428))))) = false := decide_eq_false c54
                                      clear c54
                                      have H' := Aside0.mk H
                                      clear H
                                      have hnb55 := NB384_392.out
                                      have hnc55 := NB392_384.out
                                      have hcz56_0 := blk_cells5 (w := wc) (g := gb384) BK384.out
                                      have hfz56_0 := blk_frozen BK384.out
                                      have p401 : 0 ≤ (x7_2 : Int) := of_decide_eq_true (by first | (with_reducible assumption) | assumption)
                                      have q401 : x7_2 < (l0_1.length : Int) := of_decide_eq_true (by first | (with_reducible assumption) | assumption)
                                      obtain ⟨ad401, e401, hx401_0⟩ := Kd.at_int HR0_1.out x7_2 p401 q401
                                      cases e401
                                      replace hx401_0 := (HB.out.cell (World.block_lt_of_cell? w _ hx401_0)).trans hx401_0
                                      replace p401 := eq_true p401
                                      replace q401 := eq_true q401
                                      go_wp2_with (first | (go_at_call 18; (with_reducible refine (windhoverref01_Clamp.calls (rd l0_1 x7_2) (wrap64 (-a0_3)) a0_3 t402 _ A43.out).mono ?_); rintro e w' ⟨rfl, ⟨nd, rfl⟩⟩; (try first | exact ⟨rfl, _, World.drewN_drewN _ _ _⟩ | exact ⟨rfl, _, Eq.trans (World.drewN_drewN _ _ _) (congrArg (World.drewN _) (Nat.add_assoc _ _ _))⟩)) | (go_at_call 19; (with_reducible refine (control_Steer_Refs.calls g392 x393000_2 x393001_2 x393002_2 x393003_2 t403 t404 t405 x393000_2 x393001_2 x393002_2 x393003_2 w _ ?side1 ?side2 A44.out).mono ?_); (case side1 => repeat (first | (with_reducible first | exact HI392.out | apply IsS65.alloc | apply IsS65.drewN | apply IsS65.drew | apply IsS65.set_0 | apply IsS65.set_1 | apply IsS65.set_2 | apply IsS65.set_3 | refine IsS65.far ?_ NB392_384.out _) | exact HI392.out)); (case side2 => repeat (first | (with_reducible first | exact HB.out | apply below_alloc | apply pw_below_drewN | apply below_drew1 | refine below_set ?_ (IsS65.ge HI392.out) | refine below_set ?_ GE384.out) | exact HB.out)); rintro e w57 ⟨rfl, hi, hb, hk⟩; have n0_ := Aside0.mk (KeepBut.blk hk (g' := gb384) (o := .cells #[.slice A0_0 l0_0.length c0_0, .slice (some ad401) l0_1.length c0_1, .slice A0_2 l0_2.length c0_2, .int .i64 a0_3, .int .i64 a0_4] 31 (0, 0)) (by (with_reducible repeat (first | refine blk_drewN ?_ _ | refine blk_drew ?_ | refine blk_alloc ?_ _)); exact BK384.out) NB384_392.out (by simp)); have n1_ := Aside0.mk (hb); have n2_ := Aside0.mk (hi); clear BK384; clear HB; clear HI392; have BK384 := n0_; have HB := n1_; have HI392 := n2_; clear n0_ n1_ n2_; (try clear hb); (try clear hb2); (try clear hk); (try clear hi); clear A44; have hcz58_0 := blk_cells5 (w := w57) (g := gb384) BK384.out; have hfz58_0 := blk_frozen BK384.out; have p410 : 0 ≤ (x7_2 : Int) := of_decide_eq_true (by first | (with_reducible assumption) | assumption); have q410 : x7_2 < (l0_0.length : Int) := of_decide_eq_true (by first | (with_reducible assumption) | assumption); obtain ⟨ad410, e410, hx410_0⟩ := Kd.at_int HR0_0.out x7_2 p410 q410; cases e410; replace hx410_0 := (HB.out.cell (World.block_lt_of_cell? w _ hx410_0)).trans hx410_0; replace p410 := eq_true p410; replace q410 := eq_true q410) | (go_at_call 18; (with_reducible refine (windhoverref01_Clamp.calls (rd l0_0 x7_2) (-1099511627776) 1099511627776 t411 _ A46.out).mono ?_); rintro e w' ⟨rfl, ⟨nd, rfl⟩⟩; (try first | exact ⟨rfl, _, World.drewN_drewN _ _ _⟩ | exact ⟨rfl, _, Eq.trans (World.drewN_drewN _ _ _) (congrArg (World.drewN _) (Nat.add_assoc _ _ _))⟩)) | (go_at_call 20; (with_reducible refine (control_Steer_Step.calls kj30 g392 x393000_2 x393001_2 x393002_2 x393003_2 false 0 t411 false 0 0 false 0 0 0 0 0 (wrap64 (x6_2 + t402)) 0 0 t412 t413 t414 t415 t416 t417 t418 w _ ?side1 ?side2 A47.out).mono ?_); (case side1 => repeat (first | (with_reducible first | exact HI392.out | apply IsS65.alloc | apply IsS65.drewN | apply IsS65.drew | apply IsS65.set_0 | apply IsS65.set_1 | apply IsS65.set_2 | apply IsS65.set_3 | refine IsS65.far ?_ NB392_384.out _) | exact HI392.out)); (case side2 => repeat (first | (with_reducible first | exact HB.out | apply below_alloc | apply pw_below_drewN | apply below_drew1 | refine below_set ?_ (IsS65.ge HI392.out) | refine below_set ?_ GE384.out) | exact HB.out)); rintro e w59 ⟨rfl, hi, hb, hk⟩; have n0_ := Aside0.mk (KeepBut.blk hk (g' := gb384) (o := .cells #[.slice (some ad410) l0_0.length c0_0, .slice (some ad401) l0_1.length c0_1, .slice A0_2 l0_2.length c0_2, .int .i64 a0_3, .int .i64 a0_4] 31 (0, 0)) (by (with_reducible repeat (first | refine blk_drewN ?_ _ | refine blk_drew ?_ | refine blk_alloc ?_ _)); exact BK384.out) NB384_392.out (by simp)); have n1_ := Aside0.mk (hb); have n2_ := Aside0.mk (hi); clear BK384; clear HB; clear HI392; have BK384 := n0_; have HB := n1_; have HI392 := n2_; clear n0_ n1_ n2_; (try clear hb); (try clear hb2); (try clear hk); (try clear hi)) | ((with_reducible refine gate_dst (N := 10) rfl ?_); (try (refine gate_guard (by rfl) ?_; dsimp only)); refine box_event ?hg (N := 10) ?hd (cs := #[.int .i64 0, .int .i64 0, .int .i64 0]) (t := 37) ?hr ?_; (case hd => rfl); (case hg => rfl); (case hr => first | (go_simp; done) | (go_simp; rfl)); intro gb419 hg w60 hbox hb; have n0_ := Aside0.mk (blk_below (g := gb384) (o := .cells #[.slice (some ad410) l0_0.length c0_0, .slice (some ad401) l0_1.length c0_1, .slice A0_2 l0_2.length c0_2, .int .i64 a0_3, .int .i64 a0_4] 31 (0, 0)) (by (with_reducible repeat (first | refine blk_drewN ?_ _ | refine blk_drew ?_ | refine blk_alloc ?_ _)); exact BK384.out) hb); have n1_ := Aside0.mk (IsS65.below (by repeat (first | (with_reducible first | exact HI392.out | apply IsS65.alloc | apply IsS65.drewN | apply IsS65.drew | apply IsS65.set_0 | apply IsS65.set_1 | apply IsS65.set_2 | apply IsS65.set_3 | refine IsS65.far ?_ NB392_384.out _) | exact HI392.out)) hb); have n2_ := Aside0.mk (below_step (by repeat (first | (with_reducible first | exact HB.out | apply below_alloc | apply pw_below_drewN | apply below_drew1 | refine below_set ?_ (IsS65.ge HI392.out) | refine below_set ?_ GE384.out) | exact HB.out)) hb); have n3_ := Aside0.mk (hbox); have n4_ := Aside0.mk ((by rw [hg]; exact (below_size (by repeat (first | (with_reducible first | exact HB.out | apply below_alloc | apply pw_below_drewN | apply below_drew1 | refine below_set ?_ (IsS65.ge HI392.out) | refine below_set ?_ GE384.out) | exact HB.out))) : w.heap.size ≤ gb419)); have n5_ := Aside0.mk ((by rw [hg]; exact (below_size (by repeat (first | (with_reducible first | exact HB.out | apply below_alloc | apply pw_below_drewN | apply below_drew1 | refine below_set ?_ (IsS65.ge HI392.out) | refine below_set ?_ GE384.out) | exact HB.out))) : w.heap.size ≤ gb419)); have n6_ := Aside0.mk ((by rw [hg]; exact Nat.ne_of_lt (blk_lt (g := gb384) (o := .cells #[.slice (some ad410) l0_0.length c0_0, .slice (some ad401) l0_1.length c0_1, .slice A0_2 l0_2.length c0_2, .int .i64 a0_3, .int .i64 a0_4] 31 (0, 0)) (by (with_reducible repeat (first | refine blk_drewN ?_ _ | refine blk_drew ?_ | refine blk_alloc ?_ _)); exact BK384.out)) : gb384 ≠ gb419)); have n7_ := Aside0.mk ((by rw [hg]; exact Nat.ne_of_gt (blk_lt (g := gb384) (o := .cells #[.slice (some ad410) l0_0.length c0_0, .slice (some ad401) l0_1.length c0_1, .slice A0_2 l0_2.length c0_2, .int .i64 a0_3, .int .i64 a0_4] 31 (0, 0)) (by (with_reducible repeat (first | refine blk_drewN ?_ _ | refine blk_drew ?_ | refine blk_alloc ?_ _)); exact BK384.out)) : gb419 ≠ gb384)); have n8_ := Aside0.mk ((by rw [hg]; exact Nat.ne_of_lt (IsS65.lt (show IsS65 w _ g392 t415 t416 t417 t418 from by repeat (first | (with_reducible first | exact HI392.out | apply IsS65.alloc | apply IsS65.drewN | apply IsS65.drew | apply IsS65.set_0 | apply IsS65.set_1 | apply IsS65.set_2 | apply IsS65.set_3 | refine IsS65.far ?_ NB392_384.out _) | exact HI392.out))) : g392 ≠ gb419)); have n9_ := Aside0.mk ((by rw [hg]; exact Nat.ne_of_gt (IsS65.lt (show IsS65 w _ g392 t415 t416 t417 t418 from by repeat (first | (with_reducible first | exact HI392.out | apply IsS65.alloc | apply IsS65.drewN | apply IsS65.drew | apply IsS65.set_0 | apply IsS65.set_1 | apply IsS65.set_2 | apply IsS65.set_3 | refine IsS65.far ?_ NB392_384.out _) | exact HI392.out))) : gb419 ≠ g392)); clear BK384; clear HI392; clear HB; have BK384 := n0_; have HI392 := n1_; have HB := n2_; have BK419 := n3_; have GW419 := n4_; have GE419 := n5_; have NB384_419 := n6_; have NB419_384 := n7_; have NB392_419 := n8_; have NB419_392 := n9_; clear n0_ n1_ n2_ n3_ n4_ n5_ n6_ n7_ n8_ n9_; clear hb hbox hg; have hnb61 := NB419_384.out; have hnc61 := NB384_419.out; have hnb62 := NB419_392.out; have hnc62 := NB392_419.out; have hcz63_0 := blk_cells3 (w := w60) (g := gb419) BK419.out; have hfz63_0 := blk_frozen BK419.out) | (go_at_call 19; (with_reducible refine (control_Steer_Refs.calls g392 t415 t416 t417 t418 t420 t421 t422 t415 t416 t417 t418 w _ ?side1 ?side2 A48.out).mono ?_); (case side1 => repeat (first | (with_reducible first | exact HI392.out | apply IsS65.alloc | apply IsS65.drewN | apply IsS65.drew | apply IsS65.set_0 | apply IsS65.set_1 | apply IsS65.set_2 | apply IsS65.set_3 | refine IsS65.far ?_ NB392_384.out _ | refine IsS65.far ?_ NB392_419.out _) | exact HI392.out)); (case side2 => repeat (first | (with_reducible first | exact HB.out | apply below_alloc | apply pw_below_drewN | apply below_drew1 | refine below_set ?_ (IsS65.ge HI392.out) | refine below_set ?_ GE384.out | refine below_set ?_ GE419.out) | exact HB.out)); rintro e w64 ⟨rfl, hi, hb, hk⟩; have n0_ := Aside0.mk (KeepBut.blk hk (g' := gb384) (o := .cells #[.slice (some ad410) l0_0.length c0_0, .slice (some ad401) l0_1.length c0_1, .slice A0_2 l0_2.length c0_2, .int .i64 a0_3, .int .i64 a0_4] 31 (0, 0)) (by (with_reducible repeat (first | refine blk_drewN ?_ _ | refine blk_drew ?_ | refine blk_alloc ?_ _)); refine blk_far ?_ NB384_419.out _; (with_reducible repeat (first | refine blk_drewN ?_ _ | refine blk_drew ?_ | refine blk_alloc ?_ _)); refine blk_far ?_ NB384_419.out _; (with_reducible repeat (first | refine blk_drewN ?_ _ | refine blk_drew ?_ | refine blk_alloc ?_ _)); refine blk_far ?_ NB384_419.out _; (with_reducible repeat (first | refine blk_drewN ?_ _ | refine blk_drew ?_ | refine blk_alloc ?_ _)); exact BK384.out) NB384_392.out (by simp)); have n1_ := Aside0.mk (KeepBut.blk hk (g' := gb419) (o := .cells #[.int .i64 t412, .int .i64 t413, .int .i64 t414] 37 (0, 0)) (by (with_reducible repeat (first | refine blk_drewN ?_ _ | refine blk_drew ?_ | refine blk_alloc ?_ _)); refine blk_put (cs := #[.int .i64 t412, .int .i64 t413, .int .i64 0]) ?_ 2 _ rfl; (with_reducible repeat (first | refine blk_drewN ?_ _ | refine blk_drew ?_ | refine blk_alloc ?_ _)); refine blk_put (cs := #[.int .i64 t412, .int .i64 0, .int .i64 0]) ?_ 1 _ rfl; (with_reducible repeat (first | refine blk_drewN ?_ _ | refine blk_drew ?_ | refine blk_alloc ?_ _)); refine blk_put (cs := #[.int .i64 0, .int .i64 0, .int .i64 0]) ?_ 0 _ rfl; (with_reducible repeat (first | refine blk_drewN ?_ _ | refine blk_drew ?_ | refine blk_alloc ?_ _)); exact BK419.out) NB419_392.out (by simp)); have n2_ := Aside0.mk (hb); have n3_ := Aside0.mk (hi); clear BK384; clear BK419; clear HB; clear HI392; have BK384 := n0_; have BK419 := n1_; have HB := n2_; have HI392 := n3_; clear n0_ n1_ n2_ n3_; (try clear hb); (try clear hb2); (try clear hk); (try clear hi); clear A48; have hcz65_0 := blk_cells3 (w := w64) (g := gb419) BK419.out; have hfz65_0 := blk_frozen BK419.out; have hcz66_0 := blk_cells5 (w := w64) (g := gb384) BK384.out; have hfz66_0 := blk_frozen BK384.out; have p427 : 0 ≤ (x7_2 : Int) := of_decide_eq_true (by first | (with_reducible assumption) | assumption); have q427 : x7_2 < (l0_2.length : Int) := of_decide_eq_true (by first | (with_reducible assumption) | assumption); obtain ⟨ad427, e427, hx427_0⟩ := Kd.at_int HR0_2.out x7_2 p427 q427; cases e427; replace hx427_0 := (HB.out.cell (World.block_lt_of_cell? w _ hx427_0)).trans hx427_0; replace p427 := eq_true p427; replace q427 := eq_true q427) | (go_at_call 18; (with_reducible refine (windhoverref01_Clamp.calls (rd l0_2 x7_2) (wrap64 (-a0_4)) a0_4 t428 _ A50.out).mono ?_); rintro e w' ⟨rfl, ⟨nd, rfl⟩⟩; (try first | exact ⟨rfl, _, World.drewN_drewN _ _ _⟩ | exact ⟨rfl, _, Eq.trans (World.drewN_drewN _ _ _) (congrArg (World.drewN _) (Nat.add_assoc _ _ _))⟩)))
                                      repeat (go_quiet (first | (go_at_call 18; (with_reducible refine (windhoverref01_Clamp.calls (rd l0_1 x7_2) (wrap64 (-a0_3)) a0_3 t402 _ A43.out).mono ?_); rintro e w' ⟨rfl, ⟨nd, rfl⟩⟩; (try first | exact ⟨rfl, _, World.drewN_drewN _ _ _⟩ | exact ⟨rfl, _, Eq.trans (World.drewN_drewN _ _ _) (congrArg (World.drewN _) (Nat.add_assoc _ _ _))⟩)) | (go_at_call 19; (with_reducible refine (control_Steer_Refs.calls g392 x393000_2 x393001_2 x393002_2 x393003_2 t403 t404 t405 x393000_2 x393001_2 x393002_2 x393003_2 w _ ?side1 ?side2 A44.out).mono ?_); (case side1 => repeat (first | (with_reducible first | exact HI392.out | apply IsS65.alloc | apply IsS65.drewN | apply IsS65.drew | apply IsS65.set_0 | apply IsS65.set_1 | apply IsS65.set_2 | apply IsS65.set_3 | refine IsS65.far ?_ NB392_384.out _) | exact HI392.out)); (case side2 => repeat (first | (with_reducible first | exact HB.out | apply below_alloc | apply pw_below_drewN | apply below_drew1 | refine below_set ?_ (IsS65.ge HI392.out) | refine below_set ?_ GE384.out) | exact HB.out)); rintro e w57 ⟨rfl, hi, hb, hk⟩; have n0_ := Aside0.mk (KeepBut.blk hk (g' := gb384) (o := .cells #[.slice A0_0 l0_0.length c0_0, .slice (some ad401) l0_1.length c0_1, .slice A0_2 l0_2.length c0_2, .int .i64 a0_3, .int .i64 a0_4] 31 (0, 0)) (by (with_reducible repeat (first | refine blk_drewN ?_ _ | refine blk_drew ?_ | refine blk_alloc ?_ _)); exact BK384.out) NB384_392.out (by simp)); have n1_ := Aside0.mk (hb); have n2_ := Aside0.mk (hi); clear BK384; clear HB; clear HI392; have BK384 := n0_; have HB := n1_; have HI392 := n2_; clear n0_ n1_ n2_; (try clear hb); (try clear hb2); (try clear hk); (try clear hi); clear A44; have hcz58_0 := blk_cells5 (w := w57) (g := gb384) BK384.out; have hfz58_0 := blk_frozen BK384.out; have p410 : 0 ≤ (x7_2 : Int) := of_decide_eq_true (by first | (with_reducible assumption) | assumption); have q410 : x7_2 < (l0_0.length : Int) := of_decide_eq_true (by first | (with_reducible assumption) | assumption); obtain ⟨ad410, e410, hx410_0⟩ := Kd.at_int HR0_0.out x7_2 p410 q410; cases e410; replace hx410_0 := (HB.out.cell (World.block_lt_of_cell? w _ hx410_0)).trans hx410_0; replace p410 := eq_true p410; replace q410 := eq_true q410) | (go_at_call 18; (with_reducible refine (windhoverref01_Clamp.calls (rd l0_0 x7_2) (-1099511627776) 1099511627776 t411 _ A46.out).mono ?_); rintro e w' ⟨rfl, ⟨nd, rfl⟩⟩; (try first | exact ⟨rfl, _, World.drewN_drewN _ _ _⟩ | exact ⟨rfl, _, Eq.trans (World.drewN_drewN _ _ _) (congrArg (World.drewN _) (Nat.add_assoc _ _ _))⟩)) | (go_at_call 20; (with_reducible refine (control_Steer_Step.calls kj30 g392 x393000_2 x393001_2 x393002_2 x393003_2 false 0 t411 false 0 0 false 0 0 0 0 0 (wrap64 (x6_2 + t402)) 0 0 t412 t413 t414 t415 t416 t417 t418 w _ ?side1 ?side2 A47.out).mono ?_); (case side1 => repeat (first | (with_reducible first | exact HI392.out | apply IsS65.alloc | apply IsS65.drewN | apply IsS65.drew | apply IsS65.set_0 | apply IsS65.set_1 | apply IsS65.set_2 | apply IsS65.set_3 | refine IsS65.far ?_ NB392_384.out _) | exact HI392.out)); (case side2 => repeat (first | (with_reducible first | exact HB.out | apply below_alloc | apply pw_below_drewN | apply below_drew1 | refine below_set ?_ (IsS65.ge HI392.out) | refine below_set ?_ GE384.out) | exact HB.out)); rintro e w59 ⟨rfl, hi, hb, hk⟩; have n0_ := Aside0.mk (KeepBut.blk hk (g' := gb384) (o := .cells #[.slice (some ad410) l0_0.length c0_0, .slice (some ad401) l0_1.length c0_1, .slice A0_2 l0_2.length c0_2, .int .i64 a0_3, .int .i64 a0_4] 31 (0, 0)) (by (with_reducible repeat (first | refine blk_drewN ?_ _ | refine blk_drew ?_ | refine blk_alloc ?_ _)); exact BK384.out) NB384_392.out (by simp)); have n1_ := Aside0.mk (hb); have n2_ := Aside0.mk (hi); clear BK384; clear HB; clear HI392; have BK384 := n0_; have HB := n1_; have HI392 := n2_; clear n0_ n1_ n2_; (try clear hb); (try clear hb2); (try clear hk); (try clear hi)) | ((with_reducible refine gate_dst (N := 10) rfl ?_); (try (refine gate_guard (by rfl) ?_; dsimp only)); refine box_event ?hg (N := 10) ?hd (cs := #[.int .i64 0, .int .i64 0, .int .i64 0]) (t := 37) ?hr ?_; (case hd => rfl); (case hg => rfl); (case hr => first | (go_simp; done) | (go_simp; rfl)); intro gb419 hg w60 hbox hb; have n0_ := Aside0.mk (blk_below (g := gb384) (o := .cells #[.slice (some ad410) l0_0.length c0_0, .slice (some ad401) l0_1.length c0_1, .slice A0_2 l0_2.length c0_2, .int .i64 a0_3, .int .i64 a0_4] 31 (0, 0)) (by (with_reducible repeat (first | refine blk_drewN ?_ _ | refine blk_drew ?_ | refine blk_alloc ?_ _)); exact BK384.out) hb); have n1_ := Aside0.mk (IsS65.below (by repeat (first | (with_reducible first | exact HI392.out | apply IsS65.alloc | apply IsS65.drewN | apply IsS65.drew | apply IsS65.set_0 | apply IsS65.set_1 | apply IsS65.set_2 | apply IsS65.set_3 | refine IsS65.far ?_ NB392_384.out _) | exact HI392.out)) hb); have n2_ := Aside0.mk (below_step (by repeat (first | (with_reducible first | exact HB.out | apply below_alloc | apply pw_below_drewN | apply below_drew1 | refine below_set ?_ (IsS65.ge HI392.out) | refine below_set ?_ GE384.out) | exact HB.out)) hb); have n3_ := Aside0.mk (hbox); have n4_ := Aside0.mk ((by rw [hg]; exact (below_size (by repeat (first | (with_reducible first | exact HB.out | apply below_alloc | apply pw_below_drewN | apply below_drew1 | refine below_set ?_ (IsS65.ge HI392.out) | refine below_set ?_ GE384.out) | exact HB.out))) : w.heap.size ≤ gb419)); have n5_ := Aside0.mk ((by rw [hg]; exact (below_size (by repeat (first | (with_reducible first | exact HB.out | apply below_alloc | apply pw_below_drewN | apply below_drew1 | refine below_set ?_ (IsS65.ge HI392.out) | refine below_set ?_ GE384.out) | exact HB.out))) : w.heap.size ≤ gb419)); have n6_ := Aside0.mk ((by rw [hg]; exact Nat.ne_of_lt (blk_lt (g := gb384) (o := .cells #[.slice (some ad410) l0_0.length c0_0, .slice (some ad401) l0_1.length c0_1, .slice A0_2 l0_2.length c0_2, .int .i64 a0_3, .int .i64 a0_4] 31 (0, 0)) (by (with_reducible repeat (first | refine blk_drewN ?_ _ | refine blk_drew ?_ | refine blk_alloc ?_ _)); exact BK384.out)) : gb384 ≠ gb419)); have n7_ := Aside0.mk ((by rw [hg]; exact Nat.ne_of_gt (blk_lt (g := gb384) (o := .cells #[.slice (some ad410) l0_0.length c0_0, .slice (some ad401) l0_1.length c0_1, .slice A0_2 l0_2.length c0_2, .int .i64 a0_3, .int .i64 a0_4] 31 (0, 0)) (by (with_reducible repeat (first | refine blk_drewN ?_ _ | refine blk_drew ?_ | refine blk_alloc ?_ _)); exact BK384.out)) : gb419 ≠ gb384)); have n8_ := Aside0.mk ((by rw [hg]; exact Nat.ne_of_lt (IsS65.lt (show IsS65 w _ g392 t415 t416 t417 t418 from by repeat (first | (with_reducible first | exact HI392.out | apply IsS65.alloc | apply IsS65.drewN | apply IsS65.drew | apply IsS65.set_0 | apply IsS65.set_1 | apply IsS65.set_2 | apply IsS65.set_3 | refine IsS65.far ?_ NB392_384.out _) | exact HI392.out))) : g392 ≠ gb419)); have n9_ := Aside0.mk ((by rw [hg]; exact Nat.ne_of_gt (IsS65.lt (show IsS65 w _ g392 t415 t416 t417 t418 from by repeat (first | (with_reducible first | exact HI392.out | apply IsS65.alloc | apply IsS65.drewN | apply IsS65.drew | apply IsS65.set_0 | apply IsS65.set_1 | apply IsS65.set_2 | apply IsS65.set_3 | refine IsS65.far ?_ NB392_384.out _) | exact HI392.out))) : gb419 ≠ g392)); clear BK384; clear HI392; clear HB; have BK384 := n0_; have HI392 := n1_; have HB := n2_; have BK419 := n3_; have GW419 := n4_; have GE419 := n5_; have NB384_419 := n6_; have NB419_384 := n7_; have NB392_419 := n8_; have NB419_392 := n9_; clear n0_ n1_ n2_ n3_ n4_ n5_ n6_ n7_ n8_ n9_; clear hb hbox hg; have hnb61 := NB419_384.out; have hnc61 := NB384_419.out; have hnb62 := NB419_392.out; have hnc62 := NB392_419.out; have hcz63_0 := blk_cells3 (w := w60) (g := gb419) BK419.out; have hfz63_0 := blk_frozen BK419.out) | (go_at_call 19; (with_reducible refine (control_Steer_Refs.calls g392 t415 t416 t417 t418 t420 t421 t422 t415 t416 t417 t418 w _ ?side1 ?side2 A48.out).mono ?_); (case side1 => repeat (first | (with_reducible first | exact HI392.out | apply IsS65.alloc | apply IsS65.drewN | apply IsS65.drew | apply IsS65.set_0 | apply IsS65.set_1 | apply IsS65.set_2 | apply IsS65.set_3 | refine IsS65.far ?_ NB392_384.out _ | refine IsS65.far ?_ NB392_419.out _) | exact HI392.out)); (case side2 => repeat (first | (with_reducible first | exact HB.out | apply below_alloc | apply pw_below_drewN | apply below_drew1 | refine below_set ?_ (IsS65.ge HI392.out) | refine below_set ?_ GE384.out | refine below_set ?_ GE419.out) | exact HB.out)); rintro e w64 ⟨rfl, hi, hb, hk⟩; have n0_ := Aside0.mk (KeepBut.blk hk (g' := gb384) (o := .cells #[.slice (some ad410) l0_0.length c0_0, .slice (some ad401) l0_1.length c0_1, .slice A0_2 l0_2.length c0_2, .int .i64 a0_3, .int .i64 a0_4] 31 (0, 0)) (by (with_reducible repeat (first | refine blk_drewN ?_ _ | refine blk_drew ?_ | refine blk_alloc ?_ _)); refine blk_far ?_ NB384_419.out _; (with_reducible repeat (first | refine blk_drewN ?_ _ | refine blk_drew ?_ | refine blk_alloc ?_ _)); refine blk_far ?_ NB384_419.out _; (with_reducible repeat (first | refine blk_drewN ?_ _ | refine blk_drew ?_ | refine blk_alloc ?_ _)); refine blk_far ?_ NB384_419.out _; (with_reducible repeat (first | refine blk_drewN ?_ _ | refine blk_drew ?_ | refine blk_alloc ?_ _)); exact BK384.out) NB384_392.out (by simp)); have n1_ := Aside0.mk (KeepBut.blk hk (g' := gb419) (o := .cells #[.int .i64 t412, .int .i64 t413, .int .i64 t414] 37 (0, 0)) (by (with_reducible repeat (first | refine blk_drewN ?_ _ | refine blk_drew ?_ | refine blk_alloc ?_ _)); refine blk_put (cs := #[.int .i64 t412, .int .i64 t413, .int .i64 0]) ?_ 2 _ rfl; (with_reducible repeat (first | refine blk_drewN ?_ _ | refine blk_drew ?_ | refine blk_alloc ?_ _)); refine blk_put (cs := #[.int .i64 t412, .int .i64 0, .int .i64 0]) ?_ 1 _ rfl; (with_reducible repeat (first | refine blk_drewN ?_ _ | refine blk_drew ?_ | refine blk_alloc ?_ _)); refine blk_put (cs := #[.int .i64 0, .int .i64 0, .int .i64 0]) ?_ 0 _ rfl; (with_reducible repeat (first | refine blk_drewN ?_ _ | refine blk_drew ?_ | refine blk_alloc ?_ _)); exact BK419.out) NB419_392.out (by simp)); have n2_ := Aside0.mk (hb); have n3_ := Aside0.mk (hi); clear BK384; clear BK419; clear HB; clear HI392; have BK384 := n0_; have BK419 := n1_; have HB := n2_; have HI392 := n3_; clear n0_ n1_ n2_ n3_; (try clear hb); (try clear hb2); (try clear hk); (try clear hi); clear A48; have hcz65_0 := blk_cells3 (w := w64) (g := gb419) BK419.out; have hfz65_0 := blk_frozen BK419.out; have hcz66_0 := blk_cells5 (w := w64) (g := gb384) BK384.out; have hfz66_0 := blk_frozen BK384.out; have p427 : 0 ≤ (x7_2 : Int) := of_decide_eq_true (by first | (with_reducible assumption) | assumption); have q427 : x7_2 < (l0_2.length : Int) := of_decide_eq_true (by first | (with_reducible assumption) | assumption); obtain ⟨ad427, e427, hx427_0⟩ := Kd.at_int HR0_2.out x7_2 p427 q427; cases e427; replace hx427_0 := (HB.out.cell (World.block_lt_of_cell? w _ hx427_0)).trans hx427_0; replace p427 := eq_true p427; replace q427 := eq_true q427) | (go_at_call 18; (with_reducible refine (windhoverref01_Clamp.calls (rd l0_2 x7_2) (wrap64 (-a0_4)) a0_4 t428 _ A50.out).mono ?_); rintro e w' ⟨rfl, ⟨nd, rfl⟩⟩; (try first | exact ⟨rfl, _, World.drewN_drewN _ _ _⟩ | exact ⟨rfl, _, Eq.trans (World.drewN_drewN _ _ _) (congrArg (World.drewN _) (Nat.add_assoc _ _ _))⟩))); try go_wp2_with (first | (go_at_call 18; (with_reducible refine (windhoverref01_Clamp.calls (rd l0_1 x7_2) (wrap64 (-a0_3)) a0_3 t402 _ A43.out).mono ?_); rintro e w' ⟨rfl, ⟨nd, rfl⟩⟩; (try first | exact ⟨rfl, _, World.drewN_drewN _ _ _⟩ | exact ⟨rfl, _, Eq.trans (World.drewN_drewN _ _ _) (congrArg (World.drewN _) (Nat.add_assoc _ _ _))⟩)) | (go_at_call 19; (with_reducible refine (control_Steer_Refs.calls g392 x393000_2 x393001_2 x393002_2 x393003_2 t403 t404 t405 x393000_2 x393001_2 x393002_2 x393003_2 w _ ?side1 ?side2 A44.out).mono ?_); (case side1 => repeat (first | (with_reducible first | exact HI392.out | apply IsS65.alloc | apply IsS65.drewN | apply IsS65.drew | apply IsS65.set_0 | apply IsS65.set_1 | apply IsS65.set_2 | apply IsS65.set_3 | refine IsS65.far ?_ NB392_384.out _) | exact HI392.out)); (case side2 => repeat (first | (with_reducible first | exact HB.out | apply below_alloc | apply pw_below_drewN | apply below_drew1 | refine below_set ?_ (IsS65.ge HI392.out) | refine below_set ?_ GE384.out) | exact HB.out)); rintro e w57 ⟨rfl, hi, hb, hk⟩; have n0_ := Aside0.mk (KeepBut.blk hk (g' := gb384) (o := .cells #[.slice A0_0 l0_0.length c0_0, .slice (some ad401) l0_1.length c0_1, .slice A0_2 l0_2.length c0_2, .int .i64 a0_3, .int .i64 a0_4] 31 (0, 0)) (by (with_reducible repeat (first | refine blk_drewN ?_ _ | refine blk_drew ?_ | refine blk_alloc ?_ _)); exact BK384.out) NB384_392.out (by simp)); have n1_ := Aside0.mk (hb); have n2_ := Aside0.mk (hi); clear BK384; clear HB; clear HI392; have BK384 := n0_; have HB := n1_; have HI392 := n2_; clear n0_ n1_ n2_; (try clear hb); (try clear hb2); (try clear hk); (try clear hi); clear A44; have hcz58_0 := blk_cells5 (w := w57) (g := gb384) BK384.out; have hfz58_0 := blk_frozen BK384.out; have p410 : 0 ≤ (x7_2 : Int) := of_decide_eq_true (by first | (with_reducible assumption) | assumption); have q410 : x7_2 < (l0_0.length : Int) := of_decide_eq_true (by first | (with_reducible assumption) | assumption); obtain ⟨ad410, e410, hx410_0⟩ := Kd.at_int HR0_0.out x7_2 p410 q410; cases e410; replace hx410_0 := (HB.out.cell (World.block_lt_of_cell? w _ hx410_0)).trans hx410_0; replace p410 := eq_true p410; replace q410 := eq_true q410) | (go_at_call 18; (with_reducible refine (windhoverref01_Clamp.calls (rd l0_0 x7_2) (-1099511627776) 1099511627776 t411 _ A46.out).mono ?_); rintro e w' ⟨rfl, ⟨nd, rfl⟩⟩; (try first | exact ⟨rfl, _, World.drewN_drewN _ _ _⟩ | exact ⟨rfl, _, Eq.trans (World.drewN_drewN _ _ _) (congrArg (World.drewN _) (Nat.add_assoc _ _ _))⟩)) | (go_at_call 20; (with_reducible refine (control_Steer_Step.calls kj30 g392 x393000_2 x393001_2 x393002_2 x393003_2 false 0 t411 false 0 0 false 0 0 0 0 0 (wrap64 (x6_2 + t402)) 0 0 t412 t413 t414 t415 t416 t417 t418 w _ ?side1 ?side2 A47.out).mono ?_); (case side1 => repeat (first | (with_reducible first | exact HI392.out | apply IsS65.alloc | apply IsS65.drewN | apply IsS65.drew | apply IsS65.set_0 | apply IsS65.set_1 | apply IsS65.set_2 | apply IsS65.set_3 | refine IsS65.far ?_ NB392_384.out _) | exact HI392.out)); (case side2 => repeat (first | (with_reducible first | exact HB.out | apply below_alloc | apply pw_below_drewN | apply below_drew1 | refine below_set ?_ (IsS65.ge HI392.out) | refine below_set ?_ GE384.out) | exact HB.out)); rintro e w59 ⟨rfl, hi, hb, hk⟩; have n0_ := Aside0.mk (KeepBut.blk hk (g' := gb384) (o := .cells #[.slice (some ad410) l0_0.length c0_0, .slice (some ad401) l0_1.length c0_1, .slice A0_2 l0_2.length c0_2, .int .i64 a0_3, .int .i64 a0_4] 31 (0, 0)) (by (with_reducible repeat (first | refine blk_drewN ?_ _ | refine blk_drew ?_ | refine blk_alloc ?_ _)); exact BK384.out) NB384_392.out (by simp)); have n1_ := Aside0.mk (hb); have n2_ := Aside0.mk (hi); clear BK384; clear HB; clear HI392; have BK384 := n0_; have HB := n1_; have HI392 := n2_; clear n0_ n1_ n2_; (try clear hb); (try clear hb2); (try clear hk); (try clear hi)) | ((with_reducible refine gate_dst (N := 10) rfl ?_); (try (refine gate_guard (by rfl) ?_; dsimp only)); refine box_event ?hg (N := 10) ?hd (cs := #[.int .i64 0, .int .i64 0, .int .i64 0]) (t := 37) ?hr ?_; (case hd => rfl); (case hg => rfl); (case hr => first | (go_simp; done) | (go_simp; rfl)); intro gb419 hg w60 hbox hb; have n0_ := Aside0.mk (blk_below (g := gb384) (o := .cells #[.slice (some ad410) l0_0.length c0_0, .slice (some ad401) l0_1.length c0_1, .slice A0_2 l0_2.length c0_2, .int .i64 a0_3, .int .i64 a0_4] 31 (0, 0)) (by (with_reducible repeat (first | refine blk_drewN ?_ _ | refine blk_drew ?_ | refine blk_alloc ?_ _)); exact BK384.out) hb); have n1_ := Aside0.mk (IsS65.below (by repeat (first | (with_reducible first | exact HI392.out | apply IsS65.alloc | apply IsS65.drewN | apply IsS65.drew | apply IsS65.set_0 | apply IsS65.set_1 | apply IsS65.set_2 | apply IsS65.set_3 | refine IsS65.far ?_ NB392_384.out _) | exact HI392.out)) hb); have n2_ := Aside0.mk (below_step (by repeat (first | (with_reducible first | exact HB.out | apply below_alloc | apply pw_below_drewN | apply below_drew1 | refine below_set ?_ (IsS65.ge HI392.out) | refine below_set ?_ GE384.out) | exact HB.out)) hb); have n3_ := Aside0.mk (hbox); have n4_ := Aside0.mk ((by rw [hg]; exact (below_size (by repeat (first | (with_reducible first | exact HB.out | apply below_alloc | apply pw_below_drewN | apply below_drew1 | refine below_set ?_ (IsS65.ge HI392.out) | refine below_set ?_ GE384.out) | exact HB.out))) : w.heap.size ≤ gb419)); have n5_ := Aside0.mk ((by rw [hg]; exact (below_size (by repeat (first | (with_reducible first | exact HB.out | apply below_alloc | apply pw_below_drewN | apply below_drew1 | refine below_set ?_ (IsS65.ge HI392.out) | refine below_set ?_ GE384.out) | exact HB.out))) : w.heap.size ≤ gb419)); have n6_ := Aside0.mk ((by rw [hg]; exact Nat.ne_of_lt (blk_lt (g := gb384) (o := .cells #[.slice (some ad410) l0_0.length c0_0, .slice (some ad401) l0_1.length c0_1, .slice A0_2 l0_2.length c0_2, .int .i64 a0_3, .int .i64 a0_4] 31 (0, 0)) (by (with_reducible repeat (first | refine blk_drewN ?_ _ | refine blk_drew ?_ | refine blk_alloc ?_ _)); exact BK384.out)) : gb384 ≠ gb419)); have n7_ := Aside0.mk ((by rw [hg]; exact Nat.ne_of_gt (blk_lt (g := gb384) (o := .cells #[.slice (some ad410) l0_0.length c0_0, .slice (some ad401) l0_1.length c0_1, .slice A0_2 l0_2.length c0_2, .int .i64 a0_3, .int .i64 a0_4] 31 (0, 0)) (by (with_reducible repeat (first | refine blk_drewN ?_ _ | refine blk_drew ?_ | refine blk_alloc ?_ _)); exact BK384.out)) : gb419 ≠ gb384)); have n8_ := Aside0.mk ((by rw [hg]; exact Nat.ne_of_lt (IsS65.lt (show IsS65 w _ g392 t415 t416 t417 t418 from by repeat (first | (with_reducible first | exact HI392.out | apply IsS65.alloc | apply IsS65.drewN | apply IsS65.drew | apply IsS65.set_0 | apply IsS65.set_1 | apply IsS65.set_2 | apply IsS65.set_3 | refine IsS65.far ?_ NB392_384.out _) | exact HI392.out))) : g392 ≠ gb419)); have n9_ := Aside0.mk ((by rw [hg]; exact Nat.ne_of_gt (IsS65.lt (show IsS65 w _ g392 t415 t416 t417 t418 from by repeat (first | (with_reducible first | exact HI392.out | apply IsS65.alloc | apply IsS65.drewN | apply IsS65.drew | apply IsS65.set_0 | apply IsS65.set_1 | apply IsS65.set_2 | apply IsS65.set_3 | refine IsS65.far ?_ NB392_384.out _) | exact HI392.out))) : gb419 ≠ g392)); clear BK384; clear HI392; clear HB; have BK384 := n0_; have HI392 := n1_; have HB := n2_; have BK419 := n3_; have GW419 := n4_; have GE419 := n5_; have NB384_419 := n6_; have NB419_384 := n7_; have NB392_419 := n8_; have NB419_392 := n9_; clear n0_ n1_ n2_ n3_ n4_ n5_ n6_ n7_ n8_ n9_; clear hb hbox hg; have hnb61 := NB419_384.out; have hnc61 := NB384_419.out; have hnb62 := NB419_392.out; have hnc62 := NB392_419.out; have hcz63_0 := blk_cells3 (w := w60) (g := gb419) BK419.out; have hfz63_0 := blk_frozen BK419.out) | (go_at_call 19; (with_reducible refine (control_Steer_Refs.calls g392 t415 t416 t417 t418 t420 t421 t422 t415 t416 t417 t418 w _ ?side1 ?side2 A48.out).mono ?_); (case side1 => repeat (first | (with_reducible first | exact HI392.out | apply IsS65.alloc | apply IsS65.drewN | apply IsS65.drew | apply IsS65.set_0 | apply IsS65.set_1 | apply IsS65.set_2 | apply IsS65.set_3 | refine IsS65.far ?_ NB392_384.out _ | refine IsS65.far ?_ NB392_419.out _) | exact HI392.out)); (case side2 => repeat (first | (with_reducible first | exact HB.out | apply below_alloc | apply pw_below_drewN | apply below_drew1 | refine below_set ?_ (IsS65.ge HI392.out) | refine below_set ?_ GE384.out | refine below_set ?_ GE419.out) | exact HB.out)); rintro e w64 ⟨rfl, hi, hb, hk⟩; have n0_ := Aside0.mk (KeepBut.blk hk (g' := gb384) (o := .cells #[.slice (some ad410) l0_0.length c0_0, .slice (some ad401) l0_1.length c0_1, .slice A0_2 l0_2.length c0_2, .int .i64 a0_3, .int .i64 a0_4] 31 (0, 0)) (by (with_reducible repeat (first | refine blk_drewN ?_ _ | refine blk_drew ?_ | refine blk_alloc ?_ _)); refine blk_far ?_ NB384_419.out _; (with_reducible repeat (first | refine blk_drewN ?_ _ | refine blk_drew ?_ | refine blk_alloc ?_ _)); refine blk_far ?_ NB384_419.out _; (with_reducible repeat (first | refine blk_drewN ?_ _ | refine blk_drew ?_ | refine blk_alloc ?_ _)); refine blk_far ?_ NB384_419.out _; (with_reducible repeat (first | refine blk_drewN ?_ _ | refine blk_drew ?_ | refine blk_alloc ?_ _)); exact BK384.out) NB384_392.out (by simp)); have n1_ := Aside0.mk (KeepBut.blk hk (g' := gb419) (o := .cells #[.int .i64 t412, .int .i64 t413, .int .i64 t414] 37 (0, 0)) (by (with_reducible repeat (first | refine blk_drewN ?_ _ | refine blk_drew ?_ | refine blk_alloc ?_ _)); refine blk_put (cs := #[.int .i64 t412, .int .i64 t413, .int .i64 0]) ?_ 2 _ rfl; (with_reducible repeat (first | refine blk_drewN ?_ _ | refine blk_drew ?_ | refine blk_alloc ?_ _)); refine blk_put (cs := #[.int .i64 t412, .int .i64 0, .int .i64 0]) ?_ 1 _ rfl; (with_reducible repeat (first | refine blk_drewN ?_ _ | refine blk_drew ?_ | refine blk_alloc ?_ _)); refine blk_put (cs := #[.int .i64 0, .int .i64 0, .int .i64 0]) ?_ 0 _ rfl; (with_reducible repeat (first | refine blk_drewN ?_ _ | refine blk_drew ?_ | refine blk_alloc ?_ _)); exact BK419.out) NB419_392.out (by simp)); have n2_ := Aside0.mk (hb); have n3_ := Aside0.mk (hi); clear BK384; clear BK419; clear HB; clear HI392; have BK384 := n0_; have BK419 := n1_; have HB := n2_; have HI392 := n3_; clear n0_ n1_ n2_ n3_; (try clear hb); (try clear hb2); (try clear hk); (try clear hi); clear A48; have hcz65_0 := blk_cells3 (w := w64) (g := gb419) BK419.out; have hfz65_0 := blk_frozen BK419.out; have hcz66_0 := blk_cells5 (w := w64) (g := gb384) BK384.out; have hfz66_0 := blk_frozen BK384.out; have p427 : 0 ≤ (x7_2 : Int) := of_decide_eq_true (by first | (with_reducible assumption) | assumption); have q427 : x7_2 < (l0_2.length : Int) := of_decide_eq_true (by first | (with_reducible assumption) | assumption); obtain ⟨ad427, e427, hx427_0⟩ := Kd.at_int HR0_2.out x7_2 p427 q427; cases e427; replace hx427_0 := (HB.out.cell (World.block_lt_of_cell? w _ hx427_0)).trans hx427_0; replace p427 := eq_true p427; replace q427 := eq_true q427) | (go_at_call 18; (with_reducible refine (windhoverref01_Clamp.calls (rd l0_2 x7_2) (wrap64 (-a0_4)) a0_4 t428 _ A50.out).mono ?_); rintro e w' ⟨rfl, ⟨nd, rfl⟩⟩; (try first | exact ⟨rfl, _, World.drewN_drewN _ _ _⟩ | exact ⟨rfl, _, Eq.trans (World.drewN_drewN _ _ _) (congrArg (World.drewN _) (Nat.add_assoc _ _ _))⟩))))
                                      go_roundg kj30
                                      case measure => have := HJ6.out; have := HK2.out; have := HJ30.out; omega
                                      case rel => exact ⟨(wrap64 ((wrap64 (x6_2 + t412)) + t428)), (wrap64 (x7_2 + 1)), (t415), (t416), (t417), (t418), (by first | rfl | (simp; done) | (simp [*]; done)), (by first | rfl | (simp; done) | (simp [*]; done)), H', ⟨by have := HJ6.out; have := HK2.out; have := HJ30.out; omega⟩, ⟨by (with_reducible repeat (first | refine blk_drewN ?_ _ | refine blk_drew ?_ | refine blk_alloc ?_ _)); exact BK384.out⟩, ⟨by repeat (first | (with_reducible first | exact HI392.out | apply IsS65.alloc | apply IsS65.drewN | apply IsS65.drew | apply IsS65.set_0 | apply IsS65.set_1 | apply IsS65.set_2 | apply IsS65.set_3 | refine IsS65.far ?_ NB392_384.out _ | refine IsS65.far ?_ NB392_419.out _) | exact HI392.out)⟩, ⟨by repeat (first | (with_reducible first | exact HB.out | apply below_alloc | apply pw_below_drewN | apply below_drew1 | refine below_set ?_ (IsS65.ge HI392.out) | refine below_set ?_ GE384.out | refine below_set ?_ GE419.out) | exact HB.out)⟩⟩
                            · rw [if_neg c49] at H
                              exact absurd H (by simp)
                          · rw [if_neg c45] at H
                            exact absurd H (by simp)
                        · rw [if_neg c42] at H
                          exact absurd H (by simp)
                      · rw [if_neg c41] at H
                        exact absurd H (by simp)
                    · replace c40 := Bool.eq_false_iff.mpr c40
                      subst c40
                      have H1 : ((windhoverlaw17_awake.f kj30).bind fun t400 => (some t400)) = some r := by rw [if_neg (show ¬ (false = true) by decide)] at H; exact H
                      clear H
                      have H := H1
                      clear H1
                      replace H := Option.bind_eq_some_iff.mp H
                      obtain ⟨t400, A670, H⟩ := H
                      replace H : (some t400) = some r := H
                      have A67 := Aside0.mk A670
                      clear A670
                      obtain rfl := Option.some.inj H
                      go_wp2_with (first | (go_at_call 13; (with_reducible refine (windhoverlaw17_awake.calls kj30  t400 _ A67.out).mono ?_); rintro e w68 ⟨rfl, hb⟩; have n0_ := Aside0.mk (blk_below (g := gb384) (o := .cells #[.slice A0_0 l0_0.length c0_0, .slice A0_1 l0_1.length c0_1, .slice A0_2 l0_2.length c0_2, .int .i64 a0_3, .int .i64 a0_4] 31 (0, 0)) (by (with_reducible repeat (first | refine blk_drewN ?_ _ | refine blk_drew ?_ | refine blk_alloc ?_ _)); exact BK384.out) hb); have n1_ := Aside0.mk (IsS65.below (by repeat (first | (with_reducible first | exact HI392.out | apply IsS65.alloc | apply IsS65.drewN | apply IsS65.drew | apply IsS65.set_0 | apply IsS65.set_1 | apply IsS65.set_2 | apply IsS65.set_3 | refine IsS65.far ?_ NB392_384.out _) | exact HI392.out)) hb); have n2_ := Aside0.mk (below_step (by repeat (first | (with_reducible first | exact HB.out | apply below_alloc | apply pw_below_drewN | apply below_drew1 | refine below_set ?_ (IsS65.ge HI392.out) | refine below_set ?_ GE384.out) | exact HB.out)) hb); clear BK384; clear HI392; clear HB; have BK384 := n0_; have HI392 := n1_; have HB := n2_; clear n0_ n1_ n2_; (try clear hb); (try clear hb2); (try clear hk); (try clear hi)))
                      go_ret
                      exact ⟨by first | rfl | (simp [errW_none, errW_some] <;> rfl) | (simp [*, errW_none, errW_some] <;> rfl), by repeat (first | (with_reducible first | exact HB.out | apply below_alloc | apply pw_below_drewN | apply below_drew1 | refine below_set ?_ (IsS65.ge HI392.out) | refine below_set ?_ GE384.out) | exact HB.out)⟩
    · rw [if_neg c6] at H
      exact absurd H (by simp)
  · rw [if_neg c4] at H
    have c4b0 : (t393 == 0) = false := beq_eq_false_iff_ne.mpr c4
    have c4b1 : (t393 != 0) = true := bne_iff_ne.mpr c4
    exact absurd H (by simp)

/-- THE ONE PURE STATEMENT of windhoverlaw17_ControlTracks: yours. -/
def windhoverlaw17_ControlTracks.Pure : Prop := ∀ (l0_0 : List Int) (l0_1 : List Int) (l0_2 : List Int) (a0_3 : Int) (a0_4 : Int), (l0_0.length ≤ maxLen) → (∀ p_ ∈ l0_0, (Lit.int .i64 p_).wf = true) → (l0_1.length ≤ maxLen) → (∀ p_ ∈ l0_1, (Lit.int .i64 p_).wf = true) → (l0_2.length ≤ maxLen) → (∀ p_ ∈ l0_2, (Lit.int .i64 p_).wf = true) → ((Lit.int .i64 a0_3).wf = true) → ((Lit.int .i64 a0_4).wf = true) → ∃ k, windhoverlaw17_ControlTracks.f k l0_0 l0_1 l0_2 a0_3 a0_4 = some true
theorem windhoverlaw17_ControlTracks.walk (P : windhoverlaw17_ControlTracks.Pure) (A0_0 : Option Addr) (c0_0 : Nat) (l0_0 : List Int) (A0_1 : Option Addr) (c0_1 : Nat) (l0_1 : List Int) (A0_2 : Option Addr) (c0_2 : Nat) (l0_2 : List Int) (a0_3 : Int) (a0_4 : Int) (w : World) (m0_0 : l0_0.length ≤ maxLen) (w0_0 : ∀ p_ ∈ l0_0, (Lit.int .i64 p_).wf = true) (m0_1 : l0_1.length ≤ maxLen) (w0_1 : ∀ p_ ∈ l0_1, (Lit.int .i64 p_).wf = true) (m0_2 : l0_2.length ≤ maxLen) (w0_2 : ∀ p_ ∈ l0_2, (Lit.int .i64 p_).wf = true) (w0_3 : (Lit.int .i64 a0_3).wf = true) (w0_4 : (Lit.int .i64 a0_4).wf = true) (hr0_0 : Kd.C (Kd.int .i64) w A0_0 l0_0.length l0_0) (hc0_0 : l0_0.length ≤ c0_0) (hr0_1 : Kd.C (Kd.int .i64) w A0_1 l0_1.length l0_1) (hc0_1 : l0_1.length ≤ c0_1) (hr0_2 : Kd.C (Kd.int .i64) w A0_2 l0_2.length l0_2) (hc0_2 : l0_2.length ≤ c0_2) :
    Calls Try.prog 5 #[.agg #[.slice A0_0 l0_0.length c0_0, .slice A0_1 l0_1.length c0_1, .slice A0_2 l0_2.length c0_2, .int .i64 a0_3, .int .i64 a0_4]] w fun e w' => e = .returned (.bool true) ∧ Below w.heap.size w w' := by
  obtain ⟨k, h⟩ := P l0_0 l0_1 l0_2 a0_3 a0_4 m0_0 w0_0 m0_1 w0_1 m0_2 w0_2 w0_3 w0_4
  refine (windhoverlaw17_ControlTracks.calls k A0_0 c0_0 l0_0 A0_1 c0_1 l0_1 A0_2 c0_2 l0_2 a0_3 a0_4 true w hr0_0 hc0_0 hr0_1 hc0_1 hr0_2 hc0_2 h).mono ?_
  rintro e w' ⟨rfl, hd⟩
  exact ⟨rfl, hd⟩

end Go.Proofs.Ytbnliflfkljbfaa.PControlTracks
