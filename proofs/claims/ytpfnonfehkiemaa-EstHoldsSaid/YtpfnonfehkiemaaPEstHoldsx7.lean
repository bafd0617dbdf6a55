-- WRITTEN BY wip/tools/aprint.py of this claim's repository over the kit's words: not typed by hand
import Derived.Test.YtpfnonfehkiemaaPEstHoldsx0
import Derived.Test.YtpfnonfehkiemaaPEstHoldsx2
import Derived.Test.YtpfnonfehkiemaaPEstHoldsx5
import Derived.Test.YtpfnonfehkiemaaPEstHoldsx6
namespace Go.Proofs.Ytpfnonfehkiemaa.PEstHolds
open Go.RowKit Go.Proofs.YtpfnonfehkiemaaW.PrintWords Go.Proofs.YtpfnonfehkiemaaW.PrintLast Go.Proofs.YtpfnonfehkiemaaW.PrintMore
attribute [local go_sem] max2_int min2_int max_two min_two max_three min_three max_four min_four   -- for this text's walks alone
set_option linter.unusedVariables false
set_option linter.unusedSimpArgs false

/-! ### windhoverlaw13_EstHolds: function 3 -/
mutual
def windhoverlaw13_EstHolds.l0 : Nat → Int → Int → Int → Int → Int → Int → Int → Int → List (S35) → Int → Bool → Int → Int → Int → Int → Int → Int → Int → Option (Bool)
  | 0, _, _, _, _, _, _, _, _, _, _, _, _, _, _, _, _, _, _ => none
  | k + 1, x5, x6, x7, x280000, x280001, x280002, x280003, x280004, x280005, x290000, x290001, x290002, x290003, x290004, x290005, x290006, x290007, x290008 => if x7 < (x280005.length : Int) then (if 0 ≤ x7 then (if (rd_T35 x280005 x7).f2 = true then (windhoverlaw13_EstHolds.j1 k x5 0 x7 x280000 x280001 x280002 x280003 x280004 x280005 x290000 x290001 x290002 x290003 x290004 x290005 x290006 x290007 x290008 ((rd_T35 x280005 x7).f0) ((rd_T35 x280005 x7).f1) ((rd_T35 x280005 x7).f2) ((rd_T35 x280005 x7).f3) ((rd_T35 x280005 x7).f4) ((rd_T35 x280005 x7).f5) ((rd_T35 x280005 x7).f6)) else (windhoverlaw13_EstHolds.j1 k (wrap64 (x5 + (wrap64 ((wrap64 (x6 + ((rd_T35 x280005 x7).f0))) + ((rd_T35 x280005 x7).f1))))) (wrap64 ((wrap64 (x6 + ((rd_T35 x280005 x7).f0))) + ((rd_T35 x280005 x7).f1))) x7 x280000 x280001 x280002 x280003 x280004 x280005 x290000 x290001 x290002 x290003 x290004 x290005 x290006 x290007 x290008 ((rd_T35 x280005 x7).f0) ((rd_T35 x280005 x7).f1) ((rd_T35 x280005 x7).f2) ((rd_T35 x280005 x7).f3) ((rd_T35 x280005 x7).f4) ((rd_T35 x280005 x7).f5) ((rd_T35 x280005 x7).f6))) else (none)) else ((windhoverlaw13_awake.f k).bind fun t303 => (some t303))
def windhoverlaw13_EstHolds.j1 : Nat → Int → Int → Int → Int → Int → Int → Int → Int → List (S35) → Int → Bool → Int → Int → Int → Int → Int → Int → Int → Int → Int → Bool → Int → Int → Bool → Bool → Option (Bool)
  | 0, _, _, _, _, _, _, _, _, _, _, _, _, _, _, _, _, _, _, _, _, _, _, _, _, _ => none
  | k + 1, x5, x6, x7, x280000, x280001, x280002, x280003, x280004, x280005, x290000, x290001, x290002, x290003, x290004, x290005, x290006, x290007, x290008, x306000, x306001, x306002, x306003, x306004, x306005, x306006 => (est_Filter_Step.f k x290000 x290001 x290002 x290003 x290004 x290005 x290006 x290007 x290008 x306000 x280002 x306002 x306005 (wrap64 (x5 + x306003)) x280003 x306006 (wrap64 (x6 + x306004)) x280004).bind fun bt306 => ((est_Filter_Axis.f bt306.1 bt306.2.1 bt306.2.2.1 bt306.2.2.2.1 bt306.2.2.2.2.1 bt306.2.2.2.2.2.1 bt306.2.2.2.2.2.2.1 bt306.2.2.2.2.2.2.2.1 bt306.2.2.2.2.2.2.2.2).bind fun bt315 => (if x5 < bt315.1 then (windhoverlaw13_EstHolds.j2 k x5 x6 x7 true x280000 x280001 x280002 x280003 x280004 x280005 bt306.1 bt306.2.1 bt306.2.2.1 bt306.2.2.2.1 bt306.2.2.2.2.1 bt306.2.2.2.2.2.1 bt306.2.2.2.2.2.2.1 bt306.2.2.2.2.2.2.2.1 bt306.2.2.2.2.2.2.2.2 x306000 x306001 x306002 x306003 x306004 x306005 x306006 bt315.1 bt315.2.1 bt315.2.2.1 bt315.2.2.2.1) else (if x5 > bt315.2.1 then (windhoverlaw13_EstHolds.j2 k x5 x6 x7 true x280000 x280001 x280002 x280003 x280004 x280005 bt306.1 bt306.2.1 bt306.2.2.1 bt306.2.2.2.1 bt306.2.2.2.2.1 bt306.2.2.2.2.2.1 bt306.2.2.2.2.2.2.1 bt306.2.2.2.2.2.2.2.1 bt306.2.2.2.2.2.2.2.2 x306000 x306001 x306002 x306003 x306004 x306005 x306006 bt315.1 bt315.2.1 bt315.2.2.1 bt315.2.2.2.1) else (if x6 < bt315.2.2.1 then (windhoverlaw13_EstHolds.j2 k x5 x6 x7 true x280000 x280001 x280002 x280003 x280004 x280005 bt306.1 bt306.2.1 bt306.2.2.1 bt306.2.2.2.1 bt306.2.2.2.2.1 bt306.2.2.2.2.2.1 bt306.2.2.2.2.2.2.1 bt306.2.2.2.2.2.2.2.1 bt306.2.2.2.2.2.2.2.2 x306000 x306001 x306002 x306003 x306004 x306005 x306006 bt315.1 bt315.2.1 bt315.2.2.1 bt315.2.2.2.1) else (if x6 > bt315.2.2.2.1 then (windhoverlaw13_EstHolds.j2 k x5 x6 x7 true x280000 x280001 x280002 x280003 x280004 x280005 bt306.1 bt306.2.1 bt306.2.2.1 bt306.2.2.2.1 bt306.2.2.2.2.1 bt306.2.2.2.2.2.1 bt306.2.2.2.2.2.2.1 bt306.2.2.2.2.2.2.2.1 bt306.2.2.2.2.2.2.2.2 x306000 x306001 x306002 x306003 x306004 x306005 x306006 bt315.1 bt315.2.1 bt315.2.2.1 bt315.2.2.2.1) else ((est_Filter_Jumps.f bt306.1 bt306.2.1 bt306.2.2.1 bt306.2.2.2.1 bt306.2.2.2.2.1 bt306.2.2.2.2.2.1 bt306.2.2.2.2.2.2.1 bt306.2.2.2.2.2.2.2.1 bt306.2.2.2.2.2.2.2.2).bind fun bt329 => (windhoverlaw13_EstHolds.j2 k x5 x6 x7 (bt329.1 != 0) x280000 x280001 x280002 x280003 x280004 x280005 bt306.1 bt306.2.1 bt306.2.2.1 bt306.2.2.2.1 bt306.2.2.2.2.1 bt306.2.2.2.2.2.1 bt306.2.2.2.2.2.2.1 bt306.2.2.2.2.2.2.2.1 bt306.2.2.2.2.2.2.2.2 x306000 x306001 x306002 x306003 x306004 x306005 x306006 bt315.1 bt315.2.1 bt315.2.2.1 bt315.2.2.2.1)))))))
def windhoverlaw13_EstHolds.j2 : Nat → Int → Int → Int → Bool → Int → Int → Int → Int → Int → List (S35) → Int → Bool → Int → Int → Int → Int → Int → Int → Int → Int → Int → Bool → Int → Int → Bool → Bool → Int → Int → Int → Int → Option (Bool)
  | 0, _, _, _, _, _, _, _, _, _, _, _, _, _, _, _, _, _, _, _, _, _, _, _, _, _, _, _, _, _, _ => none
  | k + 1, x5, x6, x7, x120, x280000, x280001, x280002, x280003, x280004, x280005, x290000, x290001, x290002, x290003, x290004, x290005, x290006, x290007, x290008, x306000, x306001, x306002, x306003, x306004, x306005, x306006, x329000, x329001, x329002, x329003 => if x120 = true then (none) else (if x306005 = true then (if (wrap64 (x329001 - x329000)) > (wrap64 (2 * x280003)) then (none) else (if x306006 = true then (if (wrap64 (x329003 - x329002)) > (wrap64 (2 * x280004)) then (none) else (windhoverlaw13_EstHolds.l0 k x5 x6 (wrap64 (x7 + 1)) x280000 x280001 x280002 x280003 x280004 x280005 x290000 x290001 x290002 x290003 x290004 x290005 x290006 x290007 x290008)) else (windhoverlaw13_EstHolds.l0 k x5 x6 (wrap64 (x7 + 1)) x280000 x280001 x280002 x280003 x280004 x280005 x290000 x290001 x290002 x290003 x290004 x290005 x290006 x290007 x290008))) else (if x306006 = true then (if (wrap64 (x329003 - x329002)) > (wrap64 (2 * x280004)) then (none) else (windhoverlaw13_EstHolds.l0 k x5 x6 (wrap64 (x7 + 1)) x280000 x280001 x280002 x280003 x280004 x280005 x290000 x290001 x290002 x290003 x290004 x290005 x290006 x290007 x290008)) else (windhoverlaw13_EstHolds.l0 k x5 x6 (wrap64 (x7 + 1)) x280000 x280001 x280002 x280003 x280004 x280005 x290000 x290001 x290002 x290003 x290004 x290005 x290006 x290007 x290008)))
end
def windhoverlaw13_EstHolds.f (k : Nat) (a0_0 : Int) (a0_1 : Int) (a0_2 : Int) (a0_3 : Int) (a0_4 : Int) (l0_5 : List (S35)) : Option (Bool) := (est_New.f 3).bind fun bt280 => (if bt280.2.2.2.2.2.2.2.2.2 = 0 then ((windhoverlaw13_within.f k a0_0 a0_1 a0_2 a0_3 a0_4 l0_5).bind fun t292 => (if t292 = true then ((est_Filter_Step.f k bt280.1 bt280.2.1 bt280.2.2.1 bt280.2.2.2.1 bt280.2.2.2.2.1 bt280.2.2.2.2.2.1 bt280.2.2.2.2.2.2.1 bt280.2.2.2.2.2.2.2.1 bt280.2.2.2.2.2.2.2.2.1 0 0 false true a0_0 a0_3 true a0_1 a0_4).bind fun bt294 => (windhoverlaw13_EstHolds.l0 k a0_0 a0_1 0 a0_0 a0_1 a0_2 a0_3 a0_4 l0_5 bt294.1 bt294.2.1 bt294.2.2.1 bt294.2.2.2.1 bt294.2.2.2.2.1 bt294.2.2.2.2.2.1 bt294.2.2.2.2.2.2.1 bt294.2.2.2.2.2.2.2.1 bt294.2.2.2.2.2.2.2.2)) else ((windhoverlaw13_awake.f k).bind fun t293 => (some t293)))) else (none))
theorem windhoverlaw13_EstHolds.mono_l : ∀ k, (∀ y0 y1 y2 y3 y4 y5 y6 y7 y8 y9 y10 y11 y12 y13 y14 y15 y16 y17, LeO (windhoverlaw13_EstHolds.l0 k y0 y1 y2 y3 y4 y5 y6 y7 y8 y9 y10 y11 y12 y13 y14 y15 y16 y17) (windhoverlaw13_EstHolds.l0 (k + 1) y0 y1 y2 y3 y4 y5 y6 y7 y8 y9 y10 y11 y12 y13 y14 y15 y16 y17)) ∧ (∀ y0 y1 y2 y3 y4 y5 y6 y7 y8 y9 y10 y11 y12 y13 y14 y15 y16 y17 y18 y19 y20 y21 y22 y23 y24, LeO (windhoverlaw13_EstHolds.j1 k y0 y1 y2 y3 y4 y5 y6 y7 y8 y9 y10 y11 y12 y13 y14 y15 y16 y17 y18 y19 y20 y21 y22 y23 y24) (windhoverlaw13_EstHolds.j1 (k + 1) y0 y1 y2 y3 y4 y5 y6 y7 y8 y9 y10 y11 y12 y13 y14 y15 y16 y17 y18 y19 y20 y21 y22 y23 y24)) ∧ (∀ y0 y1 y2 y3 y4 y5 y6 y7 y8 y9 y10 y11 y12 y13 y14 y15 y16 y17 y18 y19 y20 y21 y22 y23 y24 y25 y26 y27 y28 y29, LeO (windhoverlaw13_EstHolds.j2 k y0 y1 y2 y3 y4 y5 y6 y7 y8 y9 y10 y11 y12 y13 y14 y15 y16 y17 y18 y19 y20 y21 y22 y23 y24 y25 y26 y27 y28 y29) (windhoverlaw13_EstHolds.j2 (k + 1) y0 y1 y2 y3 y4 y5 y6 y7 y8 y9 y10 y11 y12 y13 y14 y15 y16 y17 y18 y19 y20 y21 y22 y23 y24 y25 y26 y27 y28 y29))
  | 0 => ⟨fun _ _ _ _ _ _ _ _ _ _ _ _ _ _ _ _ _ _ r h => by simp [windhoverlaw13_EstHolds.l0] at h, fun _ _ _ _ _ _ _ _ _ _ _ _ _ _ _ _ _ _ _ _ _ _ _ _ _ r h => by simp [windhoverlaw13_EstHolds.j1] at h, fun _ _ _ _ _ _ _ _ _ _ _ _ _ _ _ _ _ _ _ _ _ _ _ _ _ _ _ _ _ _ r h => by simp [windhoverlaw13_EstHolds.j2] at h⟩
  | k + 1 => by
    obtain ⟨ih0, ih1, ih2⟩ := windhoverlaw13_EstHolds.mono_l k
    refine ⟨?_, ?_, ?_⟩
    · intro y0 y1 y2 y3 y4 y5 y6 y7 y8 y9 y10 y11 y12 y13 y14 y15 y16 y17
      unfold windhoverlaw13_EstHolds.l0
      repeat' first
      | (with_reducible exact ih0 _ _ _ _ _ _ _ _ _ _ _ _ _ _ _ _ _ _)
      | (with_reducible exact ih1 _ _ _ _ _ _ _ _ _ _ _ _ _ _ _ _ _ _ _ _ _ _ _ _ _)
      | (with_reducible exact ih2 _ _ _ _ _ _ _ _ _ _ _ _ _ _ _ _ _ _ _ _ _ _ _ _ _ _ _ _ _ _)
      | (with_reducible exact est_Filter_Step.mono _ _ _ _ _ _ _ _ _ _ _ _ _ _ _ _ _ _ _)
      | (with_reducible exact windhoverlaw13_awake.mono _)
      | (with_reducible exact windhoverlaw13_within.mono _ _ _ _ _ _ _)
      | (with_reducible exact LeO.refl _)
      | (with_reducible exact LeO.none _)
      | (with_reducible refine LeO.ite ?_ ?_)
      | (with_reducible refine LeO.bind ?_ (fun _ => ?_))
      | exact ih0 _ _ _ _ _ _ _ _ _ _ _ _ _ _ _ _ _ _
      | exact ih1 _ _ _ _ _ _ _ _ _ _ _ _ _ _ _ _ _ _ _ _ _ _ _ _ _
      | exact ih2 _ _ _ _ _ _ _ _ _ _ _ _ _ _ _ _ _ _ _ _ _ _ _ _ _ _ _ _ _ _
      | exact est_Filter_Step.mono _ _ _ _ _ _ _ _ _ _ _ _ _ _ _ _ _ _ _
      | exact windhoverlaw13_awake.mono _
      | exact windhoverlaw13_within.mono _ _ _ _ _ _ _
      | exact LeO.none _
      | refine LeO.ite ?_ ?_
      | refine LeO.bind ?_ (fun _ => ?_)
    · intro y0 y1 y2 y3 y4 y5 y6 y7 y8 y9 y10 y11 y12 y13 y14 y15 y16 y17 y18 y19 y20 y21 y22 y23 y24
      unfold windhoverlaw13_EstHolds.j1
      repeat' first
      | (with_reducible exact ih0 _ _ _ _ _ _ _ _ _ _ _ _ _ _ _ _ _ _)
      | (with_reducible exact ih1 _ _ _ _ _ _ _ _ _ _ _ _ _ _ _ _ _ _ _ _ _ _ _ _ _)
      | (with_reducible exact ih2 _ _ _ _ _ _ _ _ _ _ _ _ _ _ _ _ _ _ _ _ _ _ _ _ _ _ _ _ _ _)
      | (with_reducible exact est_Filter_Step.mono _ _ _ _ _ _ _ _ _ _ _ _ _ _ _ _ _ _ _)
      | (with_reducible exact windhoverlaw13_awake.mono _)
      | (with_reducible exact windhoverlaw13_within.mono _ _ _ _ _ _ _)
      | (with_reducible exact LeO.refl _)
      | (with_reducible exact LeO.none _)
      | (with_reducible refine LeO.ite ?_ ?_)
      | (with_reducible refine LeO.bind ?_ (fun _ => ?_))
      | exact ih0 _ _ _ _ _ _ _ _ _ _ _ _ _ _ _ _ _ _
      | exact ih1 _ _ _ _ _ _ _ _ _ _ _ _ _ _ _ _ _ _ _ _ _ _ _ _ _
      | exact ih2 _ _ _ _ _ _ _ _ _ _ _ _ _ _ _ _ _ _ _ _ _ _ _ _ _ _ _ _ _ _
      | exact est_Filter_Step.mono _ _ _ _ _ _ _ _ _ _ _ _ _ _ _ _ _ _ _
      | exact windhoverlaw13_awake.mono _
      | exact windhoverlaw13_within.mono _ _ _ _ _ _ _
      | exact LeO.none _
      | refine LeO.ite ?_ ?_
      | refine LeO.bind ?_ (fun _ => ?_)
    · intro y0 y1 y2 y3 y4 y5 y6 y7 y8 y9 y10 y11 y12 y13 y14 y15 y16 y17 y18 y19 y20 y21 y22 y23 y24 y25 y26 y27 y28 y29
      unfold windhoverlaw13_EstHolds.j2
      repeat' first
      | (with_reducible exact ih0 _ _ _ _ _ _ _ _ _ _ _ _ _ _ _ _ _ _)
      | (with_reducible exact ih1 _ _ _ _ _ _ _ _ _ _ _ _ _ _ _ _ _ _ _ _ _ _ _ _ _)
      | (with_reducible exact ih2 _ _ _ _ _ _ _ _ _ _ _ _ _ _ _ _ _ _ _ _ _ _ _ _ _ _ _ _ _ _)
      | (with_reducible exact est_Filter_Step.mono _ _ _ _ _ _ _ _ _ _ _ _ _ _ _ _ _ _ _)
      | (with_reducible exact windhoverlaw13_awake.mono _)
      | (with_reducible exact windhoverlaw13_within.mono _ _ _ _ _ _ _)
      | (with_reducible exact LeO.refl _)
      | (with_reducible exact LeO.none _)
      | (with_reducible refine LeO.ite ?_ ?_)
      | (with_reducible refine LeO.bind ?_ (fun _ => ?_))
      | exact ih0 _ _ _ _ _ _ _ _ _ _ _ _ _ _ _ _ _ _
      | exact ih1 _ _ _ _ _ _ _ _ _ _ _ _ _ _ _ _ _ _ _ _ _ _ _ _ _
      | exact ih2 _ _ _ _ _ _ _ _ _ _ _ _ _ _ _ _ _ _ _ _ _ _ _ _ _ _ _ _ _ _
      | exact est_Filter_Step.mono _ _ _ _ _ _ _ _ _ _ _ _ _ _ _ _ _ _ _
      | exact windhoverlaw13_awake.mono _
      | exact windhoverlaw13_within.mono _ _ _ _ _ _ _
      | exact LeO.none _
      | refine LeO.ite ?_ ?_
      | refine LeO.bind ?_ (fun _ => ?_)
theorem windhoverlaw13_EstHolds.mono : ∀ a0 a1 a2 a3 a4 a5 k, LeO (windhoverlaw13_EstHolds.f k a0 a1 a2 a3 a4 a5) (windhoverlaw13_EstHolds.f (k + 1) a0 a1 a2 a3 a4 a5) := by
  intro a0 a1 a2 a3 a4 a5 k
  obtain ⟨ih0, ih1, ih2⟩ := windhoverlaw13_EstHolds.mono_l k
  unfold windhoverlaw13_EstHolds.f
  repeat' first
      | (with_reducible exact ih0 _ _ _ _ _ _ _ _ _ _ _ _ _ _ _ _ _ _)
      | (with_reducible exact ih1 _ _ _ _ _ _ _ _ _ _ _ _ _ _ _ _ _ _ _ _ _ _ _ _ _)
      | (with_reducible exact ih2 _ _ _ _ _ _ _ _ _ _ _ _ _ _ _ _ _ _ _ _ _ _ _ _ _ _ _ _ _ _)
      | (with_reducible exact est_Filter_Step.mono _ _ _ _ _ _ _ _ _ _ _ _ _ _ _ _ _ _ _)
      | (with_reducible exact windhoverlaw13_awake.mono _)
      | (with_reducible exact windhoverlaw13_within.mono _ _ _ _ _ _ _)
      | (with_reducible exact LeO.refl _)
      | (with_reducible exact LeO.none _)
      | (with_reducible refine LeO.ite ?_ ?_)
      | (with_reducible refine LeO.bind ?_ (fun _ => ?_))
      | exact ih0 _ _ _ _ _ _ _ _ _ _ _ _ _ _ _ _ _ _
      | exact ih1 _ _ _ _ _ _ _ _ _ _ _ _ _ _ _ _ _ _ _ _ _ _ _ _ _
      | exact ih2 _ _ _ _ _ _ _ _ _ _ _ _ _ _ _ _ _ _ _ _ _ _ _ _ _ _ _ _ _ _
      | exact est_Filter_Step.mono _ _ _ _ _ _ _ _ _ _ _ _ _ _ _ _ _ _ _
      | exact windhoverlaw13_awake.mono _
      | exact windhoverlaw13_within.mono _ _ _ _ _ _ _
      | exact LeO.none _
      | refine LeO.ite ?_ ?_
      | refine LeO.bind ?_ (fun _ => ?_)
set_option maxHeartbeats 8000000 in
set_option maxRecDepth 100000 in
theorem windhoverlaw13_EstHolds.calls (k : Nat) (a0_0 : Int) (a0_1 : Int) (a0_2 : Int) (a0_3 : Int) (a0_4 : Int) (A0_5 : Option Addr) (c0_5 : Nat) (l0_5 : List (S35)) (r : Bool) (w : World) (hr0_5 : Kd.C k35 w A0_5 l0_5.length l0_5) (hc0_5 : l0_5.length ≤ c0_5) (h : windhoverlaw13_EstHolds.f k a0_0 a0_1 a0_2 a0_3 a0_4 l0_5 = some r) :
    Calls Try.prog 3 #[.agg #[.int .i64 a0_0, .int .i64 a0_1, .int .i64 a0_2, .int .i64 a0_3, .int .i64 a0_4, .slice A0_5 l0_5.length c0_5]] w fun e w' => e = .returned (.bool r) ∧ Below w.heap.size w w' := by
  have hu24 := Try.underlying24
  have hu33 := Try.underlying33
  have hu35 := Try.underlying35
  have hu39 := Try.underlying39
  have HR0_5 := Aside0.mk hr0_5
  have HC0_5 := Aside0.mk hc0_5
  clear hr0_5 hc0_5
  have HB := Aside0.mk (Below.refl w.heap.size w)
  have H : ((est_New.f 3).bind fun bt280 => (if bt280.2.2.2.2.2.2.2.2.2 = 0 then ((windhoverlaw13_within.f k a0_0 a0_1 a0_2 a0_3 a0_4 l0_5).bind fun t292 => (if t292 = true then ((est_Filter_Step.f k bt280.1 bt280.2.1 bt280.2.2.1 bt280.2.2.2.1 bt280.2.2.2.2.1 bt280.2.2.2.2.2.1 bt280.2.2.2.2.2.2.1 bt280.2.2.2.2.2.2.2.1 bt280.2.2.2.2.2.2.2.2.1 0 0 false true a0_0 a0_3 true a0_1 a0_4).bind fun bt294 => (windhoverlaw13_EstHolds.l0 k a0_0 a0_1 0 a0_0 a0_1 a0_2 a0_3 a0_4 l0_5 bt294.1 bt294.2.1 bt294.2.2.1 bt294.2.2.2.1 bt294.2.2.2.2.1 bt294.2.2.2.2.2.1 bt294.2.2.2.2.2.2.1 bt294.2.2.2.2.2.2.2.1 bt294.2.2.2.2.2.2.2.2)) else ((windhoverlaw13_awake.f k).bind fun t293 => (some t293)))) else (none))) = some r := h
  clear h
  replace H := Option.bind_eq_some_iff.mp H
  obtain ⟨⟨t280, t281, t282, t283, t284, t285, t286, t287, t288, t290⟩, A20, H⟩ := H
  replace H : (if t290 = 0 then ((windhoverlaw13_within.f k a0_0 a0_1 a0_2 a0_3 a0_4 l0_5).bind fun t292 => (if t292 = true then ((est_Filter_Step.f k t280 t281 t282 t283 t284 t285 t286 t287 t288 0 0 false true a0_0 a0_3 true a0_1 a0_4).bind fun bt294 => (windhoverlaw13_EstHolds.l0 k a0_0 a0_1 0 a0_0 a0_1 a0_2 a0_3 a0_4 l0_5 bt294.1 bt294.2.1 bt294.2.2.1 bt294.2.2.2.1 bt294.2.2.2.2.1 bt294.2.2.2.2.2.1 bt294.2.2.2.2.2.2.1 bt294.2.2.2.2.2.2.2.1 bt294.2.2.2.2.2.2.2.2)) else ((windhoverlaw13_awake.f k).bind fun t293 => (some t293)))) else (none)) = some r := H
  have A2 := Aside0.mk A20
  clear A20
  by_cases c3 : t290 = 0
  · rw [if_pos c3] at H
    have c3b0 : (t290 == 0) = true := beq_iff_eq.mpr c3
    have c3b1 : (t290 != 0) = false := bne_eq_false_iff_eq.mpr c3
    clear c3
    replace H := Option.bind_eq_some_iff.mp H
    obtain ⟨t292, A40, H⟩ := H
    replace H : (if t292 = true then ((est_Filter_Step.f k t280 t281 t282 t283 t284 t285 t286 t287 t288 0 0 false true a0_0 a0_3 true a0_1 a0_4).bind fun bt294 => (windhoverlaw13_EstHolds.l0 k a0_0 a0_1 0 a0_0 a0_1 a0_2 a0_3 a0_4 l0_5 bt294.1 bt294.2.1 bt294.2.2.1 bt294.2.2.2.1 bt294.2.2.2.2.1 bt294.2.2.2.2.2.1 bt294.2.2.2.2.2.2.1 bt294.2.2.2.2.2.2.2.1 bt294.2.2.2.2.2.2.2.2)) else ((windhoverlaw13_awake.f k).bind fun t293 => (some t293))) = some r := H
    have A4 := Aside0.mk A40
    clear A40
    by_cases c5 : t292 = true
    · subst c5
      have H1 : ((est_Filter_Step.f k t280 t281 t282 t283 t284 t285 t286 t287 t288 0 0 false true a0_0 a0_3 true a0_1 a0_4).bind fun bt294 => (windhoverlaw13_EstHolds.l0 k a0_0 a0_1 0 a0_0 a0_1 a0_2 a0_3 a0_4 l0_5 bt294.1 bt294.2.1 bt294.2.2.1 bt294.2.2.2.1 bt294.2.2.2.2.1 bt294.2.2.2.2.2.1 bt294.2.2.2.2.2.2.1 bt294.2.2.2.2.2.2.2.1 bt294.2.2.2.2.2.2.2.2)) = some r := by rw [if_pos rfl] at H; exact H
      clear H
      have H := H1
      clear H1
      replace H := Option.bind_eq_some_iff.mp H
      obtain ⟨⟨t294, t295, t296, t297, t298, t299, t300, t301, t302⟩, A60, H⟩ := H
      replace H : (windhoverlaw13_EstHolds.l0 k a0_0 a0_1 0 a0_0 a0_1 a0_2 a0_3 a0_4 l0_5 t294 t295 t296 t297 t298 t299 t300 t301 t302) = some r := H
      have A6 := Aside0.mk A60
      clear A60
      have H' := Aside0.mk H
      clear H
      go_enter Try.func3, Try.ntmps3
      go_wp2_with (first | ((with_reducible refine gate_dst (N := 1) rfl ?_); refine box_event ?hg (N := 1) ?hd (cs := #[.int .i64 a0_0, .int .i64 a0_1, .int .i64 a0_2, .int .i64 a0_3, .int .i64 a0_4, .slice A0_5 l0_5.length c0_5]) (t := 24) ?hr ?_; (case hd => rfl); (case hg => rfl); (case hr => first | (go_simp; done) | (go_simp; rfl)); intro gb279 hg w7 hbox hb; have n0_ := Aside0.mk (below_step (by repeat (first | (with_reducible first | exact HB.out | apply below_alloc | apply pw_below_drewN | apply below_drew1) | exact HB.out)) hb); have n1_ := Aside0.mk (hbox); have n2_ := Aside0.mk ((by rw [hg]; exact (below_size (by repeat (first | (with_reducible first | exact HB.out | apply below_alloc | apply pw_below_drewN | apply below_drew1) | exact HB.out))) : w.heap.size ≤ gb279)); have n3_ := Aside0.mk ((by rw [hg]; exact (below_size (by repeat (first | (with_reducible first | exact HB.out | apply below_alloc | apply pw_below_drewN | apply below_drew1) | exact HB.out))) : w.heap.size ≤ gb279)); clear HB; have HB := n0_; have BK279 := n1_; have GW279 := n2_; have GE279 := n3_; clear n0_ n1_ n2_ n3_; clear hb hbox hg) | ((with_reducible refine gate_callee (f := 6) rfl ?_); refine goesL_ (some 11) rfl rfl Try.func6 (by kernel_rfl) rfl #[.int .i64 3] rfl (by (try simp only [List.map_toArray, List.map_cons, List.map_nil]); first | done | rfl | (simp only [List.length_drop, List.length_take]; rfl)) ?_; (with_reducible refine (est_New.callsNew 3 t280 t281 t282 t283 t284 t285 t286 t287 t288 t290 w _ ?side1 A2.out (by assumption)).mono ?_); (case side1 => repeat (first | (with_reducible first | exact HB.out | apply below_alloc | apply pw_below_drewN | apply below_drew1 | refine below_set ?_ GE279.out) | exact HB.out)); rintro e w8 ⟨g289, rfl, hi, hb, hb2⟩; refine ⟨_, rfl, ?_⟩; have n0_ := Aside0.mk (blk_below (g := gb279) (o := .cells #[.int .i64 a0_0, .int .i64 a0_1, .int .i64 a0_2, .int .i64 a0_3, .int .i64 a0_4, .slice A0_5 l0_5.length c0_5] 24 (0, 0)) (by (with_reducible repeat (first | refine blk_drewN ?_ _ | refine blk_drew ?_ | refine blk_alloc ?_ _)); exact BK279.out) hb2); have n1_ := Aside0.mk (hb); have n2_ := Aside0.mk (hi); have n3_ := Aside0.mk (IsS61.ne_blk hi (blk_below (g := gb279) (o := .cells #[.int .i64 a0_0, .int .i64 a0_1, .int .i64 a0_2, .int .i64 a0_3, .int .i64 a0_4, .slice A0_5 l0_5.length c0_5] 24 (0, 0)) (by (with_reducible repeat (first | refine blk_drewN ?_ _ | refine blk_drew ?_ | refine blk_alloc ?_ _)); exact BK279.out) hb2) (by decide)); have n4_ := Aside0.mk (Ne.symm (IsS61.ne_blk hi (blk_below (g := gb279) (o := .cells #[.int .i64 a0_0, .int .i64 a0_1, .int .i64 a0_2, .int .i64 a0_3, .int .i64 a0_4, .slice A0_5 l0_5.length c0_5] 24 (0, 0)) (by (with_reducible repeat (first | refine blk_drewN ?_ _ | refine blk_drew ?_ | refine blk_alloc ?_ _)); exact BK279.out) hb2) (by decide))); clear BK279; clear HB; have BK279 := n0_; have HB := n1_; have HI289 := n2_; have NB289_279 := n3_; have NB279_289 := n4_; clear n0_ n1_ n2_ n3_ n4_; (try clear hb); (try clear hb2); (try clear hk); (try clear hi); have hnb9 := NB279_289.out; have hnc9 := NB289_279.out; have hcz10_0 := blk_cells6 (w := w8) (g := gb279) BK279.out; have hfz10_0 := blk_frozen BK279.out) | ((with_reducible refine gate_callee (f := 7) rfl ?_); refine goesL_ (some 21) rfl rfl Try.func7 (by kernel_rfl) rfl #[.agg #[.int .i64 a0_0, .int .i64 a0_1, .int .i64 a0_2, .int .i64 a0_3, .int .i64 a0_4, .slice A0_5 l0_5.length c0_5]] rfl (by (try simp only [List.map_toArray, List.map_cons, List.map_nil]); first | done | rfl | (simp only [List.length_drop, List.length_take]; rfl)) ?_; (with_reducible refine (windhoverlaw13_within.calls k a0_0 a0_1 a0_2 a0_3 a0_4 _ _ l0_5 true _ ?side1 ?side2 A4.out).mono ?_); (case side1 => repeat (first | exact (Kd.C_below HR0_5.out HB.out) | (with_reducible refine Kd.C_alloc ?_ _) | (with_reducible refine Kd.C_drewN ?_ _) | (with_reducible refine Kd.C_drew ?_))); (case side2 => exact HC0_5.out); rintro e w11 ⟨rfl, hb⟩; refine ⟨_, rfl, ?_⟩; have n0_ := Aside0.mk (blk_below (g := gb279) (o := .cells #[.int .i64 a0_0, .int .i64 a0_1, .int .i64 a0_2, .int .i64 a0_3, .int .i64 a0_4, .slice A0_5 l0_5.length c0_5] 24 (0, 0)) (by (with_reducible repeat (first | refine blk_drewN ?_ _ | refine blk_drew ?_ | refine blk_alloc ?_ _)); exact BK279.out) hb); have n1_ := Aside0.mk (IsS61.below (by repeat (first | (with_reducible first | exact HI289.out | apply IsS61.alloc | apply IsS61.drewN | apply IsS61.drew | apply IsS61.set_0 | apply IsS61.set_1 | apply IsS61.set_2 | apply IsS61.set_3 | apply IsS61.set_4 | apply IsS61.set_5 | apply IsS61.set_6 | apply IsS61.set_7 | apply IsS61.set_8 | apply IsS61.farb NB289_279.out) | exact HI289.out)) hb); have n2_ := Aside0.mk (below_step (by repeat (first | (with_reducible first | exact HB.out | apply below_alloc | apply pw_below_drewN | apply below_drew1 | refine below_set ?_ (IsS61.ge HI289.out) | refine below_set ?_ GE279.out) | exact HB.out)) hb); clear BK279; clear HI289; clear HB; have BK279 := n0_; have HI289 := n1_; have HB := n2_; clear n0_ n1_ n2_; (try clear hb); (try clear hb2); (try clear hk); (try clear hi); have hcz12_0 := blk_cells6 (w := w11) (g := gb279) BK279.out; have hfz12_0 := blk_frozen BK279.out) | ((with_reducible refine gate_callee (f := 9) rfl ?_); refine goesL_ (some 37) rfl rfl Try.func9 (by kernel_rfl) rfl #[.pointer (some ⟨g289, 0, none⟩), .int .i64 0, .int .i64 0, .bool false, .agg #[.bool true, .int .i64 a0_0, .int .i64 a0_3], .agg #[.bool true, .int .i64 a0_1, .int .i64 a0_4]] rfl (by (try simp only [List.map_toArray, List.map_cons, List.map_nil]); first | done | rfl | (simp only [List.length_drop, List.length_take]; rfl)) ?_; (with_reducible refine (est_Filter_Step.calls k g289 t280 t281 t282 t283 t284 t285 t286 t287 t288 0 0 false true a0_0 a0_3 true a0_1 a0_4 t294 t295 t296 t297 t298 t299 t300 t301 t302 w _ ?side1 ?side2 A6.out).mono ?_); (case side1 => repeat (first | (with_reducible first | exact HI289.out | apply IsS61.alloc | apply IsS61.drewN | apply IsS61.drew | apply IsS61.set_0 | apply IsS61.set_1 | apply IsS61.set_2 | apply IsS61.set_3 | apply IsS61.set_4 | apply IsS61.set_5 | apply IsS61.set_6 | apply IsS61.set_7 | apply IsS61.set_8 | apply IsS61.farb NB289_279.out) | exact HI289.out)); (case side2 => repeat (first | (with_reducible first | exact HB.out | apply below_alloc | apply pw_below_drewN | apply below_drew1 | refine below_set ?_ (IsS61.ge HI289.out) | refine below_set ?_ GE279.out) | exact HB.out)); rintro e w13 ⟨rfl, hi, hb, hk⟩; refine ⟨_, rfl, ?_⟩; have n0_ := Aside0.mk (KeepBut.blk hk (g' := gb279) (o := .cells #[.int .i64 a0_0, .int .i64 a0_1, .int .i64 a0_2, .int .i64 a0_3, .int .i64 a0_4, .slice A0_5 l0_5.length c0_5] 24 (0, 0)) (by (with_reducible repeat (first | refine blk_drewN ?_ _ | refine blk_drew ?_ | refine blk_alloc ?_ _)); exact BK279.out) NB279_289.out (by simp)); have n1_ := Aside0.mk (hb); have n2_ := Aside0.mk (hi); clear BK279; clear HB; clear HI289; have BK279 := n0_; have HB := n1_; have HI289 := n2_; clear n0_ n1_ n2_; (try clear hb); (try clear hb2); (try clear hk); (try clear hi)))
      go_loopg [5, 6, 7] k (fun kq v5 v6 v7 w' => ∃ (x5_1 : Int) (x6_1 : Int) (x7_1 : Int) (x290000_1 : Int) (x290001_1 : Bool) (x290002_1 : Int) (x290003_1 : Int) (x290004_1 : Int) (x290005_1 : Int) (x290006_1 : Int) (x290007_1 : Int) (x290008_1 : Int), v5 = .int .i64 x5_1 ∧ v6 = .int .i64 x6_1 ∧ v7 = .int .i64 x7_1 ∧ Aside0 (windhoverlaw13_EstHolds.l0 kq x5_1 x6_1 x7_1 a0_0 a0_1 a0_2 a0_3 a0_4 l0_5 x290000_1 x290001_1 x290002_1 x290003_1 x290004_1 x290005_1 x290006_1 x290007_1 x290008_1 = some r) ∧ Aside0 (kq ≤ k) ∧ Aside0 (w'.heap[gb279]? = some (.cells #[.int .i64 a0_0, .int .i64 a0_1, .int .i64 a0_2, .int .i64 a0_3, .int .i64 a0_4, (.slice A0_5 l0_5.length c0_5)] 24 (0, 0))) ∧ Aside0 (IsS61 w w' g289 x290000_1 x290001_1 x290002_1 x290003_1 x290004_1 x290005_1 x290006_1 x290007_1 x290008_1) ∧ Aside0 (Below w.heap.size w w'))
      case atStart => exact ⟨(a0_0), (a0_1), (0), (t294), (t295), (t296), (t297), (t298), (t299), (t300), (t301), (t302), (by first | rfl | (simp; done) | (simp [*]; done)), (by first | rfl | (simp; done) | (simp [*]; done)), (by first | rfl | (simp; done) | (simp [*]; done)), H', ⟨Nat.le_refl _⟩, ⟨by (with_reducible repeat (first | refine blk_drewN ?_ _ | refine blk_drew ?_ | refine blk_alloc ?_ _)); exact BK279.out⟩, ⟨by repeat (first | (with_reducible first | exact HI289.out | apply IsS61.alloc | apply IsS61.drewN | apply IsS61.drew | apply IsS61.set_0 | apply IsS61.set_1 | apply IsS61.set_2 | apply IsS61.set_3 | apply IsS61.set_4 | apply IsS61.set_5 | apply IsS61.set_6 | apply IsS61.set_7 | apply IsS61.set_8 | apply IsS61.farb NB289_279.out) | exact HI289.out)⟩, ⟨by repeat (first | (with_reducible first | exact HB.out | apply below_alloc | apply pw_below_drewN | apply below_drew1 | refine below_set ?_ (IsS61.ge HI289.out) | refine below_set ?_ GE279.out) | exact HB.out)⟩⟩
      case round =>
        clear H'
        try clear p2
        try clear c3
        try clear c3b0
        try clear c3b1
        try clear c5
        try clear c6
        try clear c7
        try clear c9
        try clear hcz10_0
        try clear hcz12_0
        try clear hfz10_0
        try clear hfz12_0
        obtain ⟨x5_1, x6_1, x7_1, x290000_1, x290001_1, x290002_1, x290003_1, x290004_1, x290005_1, x290006_1, x290007_1, x290008_1, rfl, rfl, rfl, HA, HK1, BK279, HI289, HB⟩ := hrel
        cases gk with
        | zero => exact absurd HA.out (by simp [windhoverlaw13_EstHolds.l0])
        | succ k1 =>
          have H := HA.out
          clear HA
          simp only [windhoverlaw13_EstHolds.l0] at H
          by_cases c14 : x7_1 < (l0_5.length : Int)
          · rw [if_pos c14] at H
            have c14b0 : decide (x7_1 < (l0_5.length : Int)) = true := decide_eq_true c14
            clear c14
            by_cases c15 : 0 ≤ x7_1
            · rw [if_pos c15] at H
              have c15b0 : decide (0 ≤ x7_1) = true := decide_eq_true c15
              clear c15
              have HC16 := Aside0.mk H
              clear H
              have hnb17 := NB279_289.out
              have hnc17 := NB289_279.out
              have hcz18_0 := blk_cells6 (w := wr) (g := gb279) BK279.out
              have hfz18_0 := blk_frozen BK279.out
              have p304 : 0 ≤ (x7_1 : Int) := of_decide_eq_true (by first | (with_reducible assumption) | assumption)
              have q304 : x7_1 < (l0_5.length : Int) := of_decide_eq_true (by first | (with_reducible assumption) | assumption)
              obtain ⟨ad304, e304, hx304_0, hx304_1, hx304_2, hx304_3, hx304_4, hx304_5, hx304_6⟩ := at_T35 HR0_5.out x7_1 p304 q304
              cases e304
              replace hx304_0 := (HB.out.cell (World.block_lt_of_cell? w _ hx304_0)).trans hx304_0
              replace hx304_1 := (HB.out.cell (World.block_lt_of_cell? w _ hx304_1)).trans hx304_1
              replace hx304_2 := (HB.out.cell (World.block_lt_of_cell? w _ hx304_2)).trans hx304_2
              replace hx304_3 := (HB.out.cell (World.block_lt_of_cell? w _ hx304_3)).trans hx304_3
              replace hx304_4 := (HB.out.cell (World.block_lt_of_cell? w _ hx304_4)).trans hx304_4
              replace hx304_5 := (HB.out.cell (World.block_lt_of_cell? w _ hx304_5)).trans hx304_5
              replace hx304_6 := (HB.out.cell (World.block_lt_of_cell? w _ hx304_6)).trans hx304_6
              replace p304 := eq_true p304
              replace q304 := eq_true q304
              go_upto_if 51 with (first | ((with_reducible refine gate_dst (N := 8) rfl ?_); refine box_event ?hg (N := 8) ?hd (cs := #[.int .i64 0, .int .i64 0, .bool false, .int .i64 0, .int .i64 0, .bool false, .bool false]) (t := 35) ?hr ?_; (case hd => rfl); (case hg => rfl); (case hr => first | (go_simp; done) | (go_simp; rfl)); intro gb305 hg w19 hbox hb; have n0_ := Aside0.mk (blk_below (g := gb279) (o := .cells #[.int .i64 a0_0, .int .i64 a0_1, .int .i64 a0_2, .int .i64 a0_3, .int .i64 a0_4, .slice (some ad304) l0_5.length c0_5] 24 (0, 0)) (by (with_reducible repeat (first | refine blk_drewN ?_ _ | refine blk_drew ?_ | refine blk_alloc ?_ _)); exact BK279.out) hb); have n1_ := Aside0.mk (IsS61.below (by repeat (first | (with_reducible first | exact HI289.out | apply IsS61.alloc | apply IsS61.drewN | apply IsS61.drew | apply IsS61.set_0 | apply IsS61.set_1 | apply IsS61.set_2 | apply IsS61.set_3 | apply IsS61.set_4 | apply IsS61.set_5 | apply IsS61.set_6 | apply IsS61.set_7 | apply IsS61.set_8 | apply IsS61.farb NB289_279.out) | exact HI289.out)) hb); have n2_ := Aside0.mk (below_step (by repeat (first | (with_reducible first | exact HB.out | apply below_alloc | apply pw_below_drewN | apply below_drew1 | refine below_set ?_ (IsS61.ge HI289.out) | refine below_set ?_ GE279.out) | exact HB.out)) hb); have n3_ := Aside0.mk (hbox); have n4_ := Aside0.mk ((by rw [hg]; exact (below_size (by repeat (first | (with_reducible first | exact HB.out | apply below_alloc | apply pw_below_drewN | apply below_drew1 | refine below_set ?_ (IsS61.ge HI289.out) | refine below_set ?_ GE279.out) | exact HB.out))) : w.heap.size ≤ gb305)); have n5_ := Aside0.mk ((by rw [hg]; exact (below_size (by repeat (first | (with_reducible first | exact HB.out | apply below_alloc | apply pw_below_drewN | apply below_drew1 | refine below_set ?_ (IsS61.ge HI289.out) | refine below_set ?_ GE279.out) | exact HB.out))) : w.heap.size ≤ gb305)); have n6_ := Aside0.mk ((by rw [hg]; exact Nat.ne_of_lt (blk_lt (g := gb279) (o := .cells #[.int .i64 a0_0, .int .i64 a0_1, .int .i64 a0_2, .int .i64 a0_3, .int .i64 a0_4, .slice (some ad304) l0_5.length c0_5] 24 (0, 0)) (by (with_reducible repeat (first | refine blk_drewN ?_ _ | refine blk_drew ?_ | refine blk_alloc ?_ _)); exact BK279.out)) : gb279 ≠ gb305)); have n7_ := Aside0.mk ((by rw [hg]; exact Nat.ne_of_gt (blk_lt (g := gb279) (o := .cells #[.int .i64 a0_0, .int .i64 a0_1, .int .i64 a0_2, .int .i64 a0_3, .int .i64 a0_4, .slice (some ad304) l0_5.length c0_5] 24 (0, 0)) (by (with_reducible repeat (first | refine blk_drewN ?_ _ | refine blk_drew ?_ | refine blk_alloc ?_ _)); exact BK279.out)) : gb305 ≠ gb279)); have n8_ := Aside0.mk ((by rw [hg]; exact Nat.ne_of_lt (IsS61.lt (show IsS61 w _ g289 x290000_1 x290001_1 x290002_1 x290003_1 x290004_1 x290005_1 x290006_1 x290007_1 x290008_1 from by repeat (first | (with_reducible first | exact HI289.out | apply IsS61.alloc | apply IsS61.drewN | apply IsS61.drew | apply IsS61.set_0 | apply IsS61.set_1 | apply IsS61.set_2 | apply IsS61.set_3 | apply IsS61.set_4 | apply IsS61.set_5 | apply IsS61.set_6 | apply IsS61.set_7 | apply IsS61.set_8 | apply IsS61.farb NB289_279.out) | exact HI289.out))) : g289 ≠ gb305)); have n9_ := Aside0.mk ((by rw [hg]; exact Nat.ne_of_gt (IsS61.lt (show IsS61 w _ g289 x290000_1 x290001_1 x290002_1 x290003_1 x290004_1 x290005_1 x290006_1 x290007_1 x290008_1 from by repeat (first | (with_reducible first | exact HI289.out | apply IsS61.alloc | apply IsS61.drewN | apply IsS61.drew | apply IsS61.set_0 | apply IsS61.set_1 | apply IsS61.set_2 | apply IsS61.set_3 | apply IsS61.set_4 | apply IsS61.set_5 | apply IsS61.set_6 | apply IsS61.set_7 | apply IsS61.set_8 | apply IsS61.farb NB289_279.out) | exact HI289.out))) : gb305 ≠ g289)); clear BK279; clear HI289; clear HB; have BK279 := n0_; have HI289 := n1_; have HB := n2_; have BK305 := n3_; have GW305 := n4_; have GE305 := n5_; have NB279_305 := n6_; have NB305_279 := n7_; have NB289_305 := n8_; have NB305_289 := n9_; clear n0_ n1_ n2_ n3_ n4_ n5_ n6_ n7_ n8_ n9_; clear hb hbox hg; have hnb20 := NB305_279.out; have hnc20 := NB279_305.out; have hnb21 := NB305_289.out; have hnc21 := NB289_305.out; have hcz22_0 := blk_cells7 (w := w19) (g := gb305) BK305.out; have hfz22_0 := blk_frozen BK305.out))
              (try simp only [Act.put, List.setIfInBounds_toArray, List.set_cons_zero, List.set_cons_succ])
              go_cut [5, 6] (fun v5 v6 wc => ∃ (kq : Nat) (x5_15 : Int) (x6_15 : Int), v5 = .int .i64 x5_15 ∧ v6 = .int .i64 x6_15 ∧ Aside0 (windhoverlaw13_EstHolds.j1 kq x5_15 x6_15 x7_1 a0_0 a0_1 a0_2 a0_3 a0_4 l0_5 x290000_1 x290001_1 x290002_1 x290003_1 x290004_1 x290005_1 x290006_1 x290007_1 x290008_1 ((rd_T35 l0_5 x7_1).f0) ((rd_T35 l0_5 x7_1).f1) ((rd_T35 l0_5 x7_1).f2) ((rd_T35 l0_5 x7_1).f3) ((rd_T35 l0_5 x7_1).f4) ((rd_T35 l0_5 x7_1).f5) ((rd_T35 l0_5 x7_1).f6) = some r) ∧ Aside0 (kq ≤ k1) ∧ Aside0 (wc.heap[gb279]? = some (.cells #[.int .i64 a0_0, .int .i64 a0_1, .int .i64 a0_2, .int .i64 a0_3, .int .i64 a0_4, (.slice (some ad304) l0_5.length c0_5)] 24 (0, 0))) ∧ Aside0 (wc.heap[gb305]? = some (.cells #[.int .i64 ((rd_T35 l0_5 x7_1).f0), .int .i64 ((rd_T35 l0_5 x7_1).f1), .bool ((rd_T35 l0_5 x7_1).f2), .int .i64 ((rd_T35 l0_5 x7_1).f3), .int .i64 ((rd_T35 l0_5 x7_1).f4), .bool ((rd_T35 l0_5 x7_1).f5), .bool ((rd_T35 l0_5 x7_1).f6)] 35 (0, 0))) ∧ Aside0 (IsS61 w wc g289 x290000_1 x290001_1 x290002_1 x290003_1 x290004_1 x290005_1 x290006_1 x290007_1 x290008_1) ∧ Aside0 (Below w.heap.size w wc))
              case first =>
                have H := HC16.out
                clear HC16
                obtain ⟨bq23, hbq23⟩ : ∃ b_ : Bool, b_ = ((rd_T35 l0_5 x7_1).f2) := ⟨_, rfl⟩
                replace H : (if bq23 = true then (windhoverlaw13_EstHolds.j1 k1 x5_1 0 x7_1 a0_0 a0_1 a0_2 a0_3 a0_4 l0_5 x290000_1 x290001_1 x290002_1 x290003_1 x290004_1 x290005_1 x290006_1 x290007_1 x290008_1 ((rd_T35 l0_5 x7_1).f0) ((rd_T35 l0_5 x7_1).f1) bq23 ((rd_T35 l0_5 x7_1).f3) ((rd_T35 l0_5 x7_1).f4) ((rd_T35 l0_5 x7_1).f5) ((rd_T35 l0_5 x7_1).f6)) else (windhoverlaw13_EstHolds.j1 k1 (wrap64 (x5_1 + (wrap64 ((wrap64 (x6_1 + ((rd_T35 l0_5 x7_1).f0))) + ((rd_T35 l0_5 x7_1).f1))))) (wrap64 ((wrap64 (x6_1 + ((rd_T35 l0_5 x7_1).f0))) + ((rd_T35 l0_5 x7_1).f1))) x7_1 a0_0 a0_1 a0_2 a0_3 a0_4 l0_5 x290000_1 x290001_1 x290002_1 x290003_1 x290004_1 x290005_1 x290006_1 x290007_1 x290008_1 ((rd_T35 l0_5 x7_1).f0) ((rd_T35 l0_5 x7_1).f1) bq23 ((rd_T35 l0_5 x7_1).f3) ((rd_T35 l0_5 x7_1).f4) ((rd_T35 l0_5 x7_1).f5) ((rd_T35 l0_5 x7_1).f6))) = some r := by rw [← hbq23] at H; exact H
                have Nbq23 := Aside0.mk hbq23
                clear hbq23
                (try rw [← Nbq23.out])
                by_cases c24 : bq23 = true
                · subst c24
                  have H1 : (windhoverlaw13_EstHolds.j1 k1 x5_1 0 x7_1 a0_0 a0_1 a0_2 a0_3 a0_4 l0_5 x290000_1 x290001_1 x290002_1 x290003_1 x290004_1 x290005_1 x290006_1 x290007_1 x290008_1 ((rd_T35 l0_5 x7_1).f0) ((rd_T35 l0_5 x7_1).f1) true ((rd_T35 l0_5 x7_1).f3) ((rd_T35 l0_5 x7_1).f4) ((rd_T35 l0_5 x7_1).f5) ((rd_T35 l0_5 x7_1).f6)) = some r := by rw [if_pos rfl] at H; exact H
                  clear H
                  have H := H1
                  clear H1
                  have H' := Aside0.mk H
                  clear H
                  go_wp2
                  go_meet
                  case rel => (try rw [← Nbq23.out]); exact ⟨_, (x5_1), (0), (by first | rfl | (simp; done) | (simp [*]; done)), (by first | rfl | (simp; done) | (simp [*]; done)), H', ⟨by have := HK1.out; first | omega | exact Nat.le_refl _⟩, ⟨by (with_reducible repeat (first | refine blk_drewN ?_ _ | refine blk_drew ?_ | refine blk_alloc ?_ _)); refine blk_far ?_ NB279_305.out _; (with_reducible repeat (first | refine blk_drewN ?_ _ | refine blk_drew ?_ | refine blk_alloc ?_ _)); refine blk_far ?_ NB279_305.out _; (with_reducible repeat (first | refine blk_drewN ?_ _ | refine blk_drew ?_ | refine blk_alloc ?_ _)); refine blk_far ?_ NB279_305.out _; (with_reducible repeat (first | refine blk_drewN ?_ _ | refine blk_drew ?_ | refine blk_alloc ?_ _)); refine blk_far ?_ NB279_305.out _; (with_reducible repeat (first | refine blk_drewN ?_ _ | refine blk_drew ?_ | refine blk_alloc ?_ _)); refine blk_far ?_ NB279_305.out _; (with_reducible repeat (first | refine blk_drewN ?_ _ | refine blk_drew ?_ | refine blk_alloc ?_ _)); refine blk_far ?_ NB279_305.out _; (with_reducible repeat (first | refine blk_drewN ?_ _ | refine blk_drew ?_ | refine blk_alloc ?_ _)); refine blk_far ?_ NB279_305.out _; (with_reducible repeat (first | refine blk_drewN ?_ _ | refine blk_drew ?_ | refine blk_alloc ?_ _)); exact BK279.out⟩, ⟨by (with_reducible repeat (first | refine blk_drewN ?_ _ | refine blk_drew ?_ | refine blk_alloc ?_ _)); refine blk_put (cs := #[.int .i64 ((rd_T35 l0_5 x7_1).f0), .int .i64 ((rd_T35 l0_5 x7_1).f1), .bool (true), .int .i64 ((rd_T35 l0_5 x7_1).f3), .int .i64 ((rd_T35 l0_5 x7_1).f4), .bool ((rd_T35 l0_5 x7_1).f5), .bool false]) ?_ 6 _ rfl; (with_reducible repeat (first | refine blk_drewN ?_ _ | refine blk_drew ?_ | refine blk_alloc ?_ _)); refine blk_put (cs := #[.int .i64 ((rd_T35 l0_5 x7_1).f0), .int .i64 ((rd_T35 l0_5 x7_1).f1), .bool (true), .int .i64 ((rd_T35 l0_5 x7_1).f3), .int .i64 ((rd_T35 l0_5 x7_1).f4), .bool false, .bool false]) ?_ 5 _ rfl; (with_reducible repeat (first | refine blk_drewN ?_ _ | refine blk_drew ?_ | refine blk_alloc ?_ _)); refine blk_put (cs := #[.int .i64 ((rd_T35 l0_5 x7_1).f0), .int .i64 ((rd_T35 l0_5 x7_1).f1), .bool (true), .int .i64 ((rd_T35 l0_5 x7_1).f3), .int .i64 0, .bool false, .bool false]) ?_ 4 _ rfl; (with_reducible repeat (first | refine blk_drewN ?_ _ | refine blk_drew ?_ | refine blk_alloc ?_ _)); refine blk_put (cs := #[.int .i64 ((rd_T35 l0_5 x7_1).f0), .int .i64 ((rd_T35 l0_5 x7_1).f1), .bool (true), .int .i64 0, .int .i64 0, .bool false, .bool false]) ?_ 3 _ rfl; (with_reducible repeat (first | refine blk_drewN ?_ _ | refine blk_drew ?_ | refine blk_alloc ?_ _)); refine blk_put (cs := #[.int .i64 ((rd_T35 l0_5 x7_1).f0), .int .i64 ((rd_T35 l0_5 x7_1).f1), .bool false, .int .i64 0, .int .i64 0, .bool false, .bool false]) ?_ 2 _ rfl; (with_reducible repeat (first | refine blk_drewN ?_ _ | refine blk_drew ?_ | refine blk_alloc ?_ _)); refine blk_put (cs := #[.int .i64 ((rd_T35 l0_5 x7_1).f0), .int .i64 0, .bool false, .int .i64 0, .int .i64 0, .bool false, .bool false]) ?_ 1 _ rfl; (with_reducible repeat (first | refine blk_drewN ?_ _ | refine blk_drew ?_ | refine blk_alloc ?_ _)); refine blk_put (cs := #[.int .i64 0, .int .i64 0, .bool false, .int .i64 0, .int .i64 0, .bool false, .bool false]) ?_ 0 _ rfl; (with_reducible repeat (first | refine blk_drewN ?_ _ | refine blk_drew ?_ | refine blk_alloc ?_ _)); exact BK305.out⟩, ⟨by repeat (first | (with_reducible first | exact HI289.out | apply IsS61.alloc | apply IsS61.drewN | apply IsS61.drew | apply IsS61.set_0 | apply IsS61.set_1 | apply IsS61.set_2 | apply IsS61.set_3 | apply IsS61.set_4 | apply IsS61.set_5 | apply IsS61.set_6 | apply IsS61.set_7 | apply IsS61.set_8 | apply IsS61.farb NB289_279.out | apply IsS61.farb NB289_305.out) | exact HI289.out)⟩, ⟨by repeat (first | (with_reducible first | exact HB.out | apply below_alloc | apply pw_below_drewN | apply below_drew1 | refine below_set ?_ (IsS61.ge HI289.out) | refine below_set ?_ GE279.out | refine below_set ?_ GE305.out) | exact HB.out)⟩⟩
                · replace c24 := Bool.eq_false_iff.mpr c24
                  subst c24
                  have H1 : (windhoverlaw13_EstHolds.j1 k1 (wrap64 (x5_1 + (wrap64 ((wrap64 (x6_1 + ((rd_T35 l0_5 x7_1).f0))) + ((rd_T35 l0_5 x7_1).f1))))) (wrap64 ((wrap64 (x6_1 + ((rd_T35 l0_5 x7_1).f0))) + ((rd_T35 l0_5 x7_1).f1))) x7_1 a0_0 a0_1 a0_2 a0_3 a0_4 l0_5 x290000_1 x290001_1 x290002_1 x290003_1 x290004_1 x290005_1 x290006_1 x290007_1 x290008_1 ((rd_T35 l0_5 x7_1).f0) ((rd_T35 l0_5 x7_1).f1) false ((rd_T35 l0_5 x7_1).f3) ((rd_T35 l0_5 x7_1).f4) ((rd_T35 l0_5 x7_1).f5) ((rd_T35 l0_5 x7_1).f6)) = some r := by rw [if_neg (show ¬ (false = true) by decide)] at H; exact H
                  clear H
                  have H := H1
                  clear H1
                  have H' := Aside0.mk H
                  clear H
                  have hnb25 := NB305_279.out
                  have hnc25 := NB279_305.out
                  have hnb26 := NB305_289.out
                  have hnc26 := NB289_305.out
                  have hcz27_0 := blk_cells7 (w := w19) (g := gb305) BK305.out
                  have hfz27_0 := blk_frozen BK305.out
                  go_wp2
                  go_meet
                  case rel => (try rw [← Nbq23.out]); exact ⟨_, (wrap64 (x5_1 + (wrap64 ((wrap64 (x6_1 + ((rd_T35 l0_5 x7_1).f0))) + ((rd_T35 l0_5 x7_1).f1))))), (wrap64 ((wrap64 (x6_1 + ((rd_T35 l0_5 x7_1).f0))) + ((rd_T35 l0_5 x7_1).f1))), (by first | rfl | (simp; done) | (simp [*]; done)), (by first | rfl | (simp; done) | (simp [*]; done)), H', ⟨by have := HK1.out; first | omega | exact Nat.le_refl _⟩, ⟨by (with_reducible repeat (first | refine blk_drewN ?_ _ | refine blk_drew ?_ | refine blk_alloc ?_ _)); refine blk_far ?_ NB279_305.out _; (with_reducible repeat (first | refine blk_drewN ?_ _ | refine blk_drew ?_ | refine blk_alloc ?_ _)); refine blk_far ?_ NB279_305.out _; (with_reducible repeat (first | refine blk_drewN ?_ _ | refine blk_drew ?_ | refine blk_alloc ?_ _)); refine blk_far ?_ NB279_305.out _; (with_reducible repeat (first | refine blk_drewN ?_ _ | refine blk_drew ?_ | refine blk_alloc ?_ _)); refine blk_far ?_ NB279_305.out _; (with_reducible repeat (first | refine blk_drewN ?_ _ | refine blk_drew ?_ | refine blk_alloc ?_ _)); refine blk_far ?_ NB279_305.out _; (with_reducible repeat (first | refine blk_drewN ?_ _ | refine blk_drew ?_ | refine blk_alloc ?_ _)); refine blk_far ?_ NB279_305.out _; (with_reducible repeat (first | refine blk_drewN ?_ _ | refine blk_drew ?_ | refine blk_alloc ?_ _)); refine blk_far ?_ NB279_305.out _; (with_reducible repeat (first | refine blk_drewN ?_ _ | refine blk_drew ?_ | refine blk_alloc ?_ _)); exact BK279.out⟩, ⟨by (with_reducible repeat (first | refine blk_drewN ?_ _ | refine blk_drew ?_ | refine blk_alloc ?_ _)); refine blk_put (cs := #[.int .i64 ((rd_T35 l0_5 x7_1).f0), .int .i64 ((rd_T35 l0_5 x7_1).f1), .bool (false), .int .i64 ((rd_T35 l0_5 x7_1).f3), .int .i64 ((rd_T35 l0_5 x7_1).f4), .bool ((rd_T35 l0_5 x7_1).f5), .bool false]) ?_ 6 _ rfl; (with_reducible repeat (first | refine blk_drewN ?_ _ | refine blk_drew ?_ | refine blk_alloc ?_ _)); refine blk_put (cs := #[.int .i64 ((rd_T35 l0_5 x7_1).f0), .int .i64 ((rd_T35 l0_5 x7_1).f1), .bool (false), .int .i64 ((rd_T35 l0_5 x7_1).f3), .int .i64 ((rd_T35 l0_5 x7_1).f4), .bool false, .bool false]) ?_ 5 _ rfl; (with_reducible repeat (first | refine blk_drewN ?_ _ | refine blk_drew ?_ | refine blk_alloc ?_ _)); refine blk_put (cs := #[.int .i64 ((rd_T35 l0_5 x7_1).f0), .int .i64 ((rd_T35 l0_5 x7_1).f1), .bool (false), .int .i64 ((rd_T35 l0_5 x7_1).f3), .int .i64 0, .bool false, .bool false]) ?_ 4 _ rfl; (with_reducible repeat (first | refine blk_drewN ?_ _ | refine blk_drew ?_ | refine blk_alloc ?_ _)); refine blk_put (cs := #[.int .i64 ((rd_T35 l0_5 x7_1).f0), .int .i64 ((rd_T35 l0_5 x7_1).f1), .bool (false), .int .i64 0, .int .i64 0, .bool false, .bool false]) ?_ 3 _ rfl; (with_reducible repeat (first | refine blk_drewN ?_ _ | refine blk_drew ?_ | refine blk_alloc ?_ _)); refine blk_put (cs := #[.int .i64 ((rd_T35 l0_5 x7_1).f0), .int .i64 ((rd_T35 l0_5 x7_1).f1), .bool false, .int .i64 0, .int .i64 0, .bool false, .bool false]) ?_ 2 _ rfl; (with_reducible repeat (first | refine blk_drewN ?_ _ | refine blk_drew ?_ | refine blk_alloc ?_ _)); refine blk_put (cs := #[.int .i64 ((rd_T35 l0_5 x7_1).f0), .int .i64 0, .bool false, .int .i64 0, .int .i64 0, .bool false, .bool false]) ?_ 1 _ rfl; (with_reducible repeat (first | refine blk_drewN ?_ _ | refine blk_drew ?_ | refine blk_alloc ?_ _)); refine blk_put (cs := #[.int .i64 0, .int .i64 0, .bool false, .int .i64 0, .int .i64 0, .bool false, .bool false]) ?_ 0 _ rfl; (with_reducible repeat (first | refine blk_drewN ?_ _ | refine blk_drew ?_ | refine blk_alloc ?_ _)); exact BK305.out⟩, ⟨by repeat (first | (with_reducible first | exact HI289.out | apply IsS61.alloc | apply IsS61.drewN | apply IsS61.drew | apply IsS61.set_0 | apply IsS61.set_1 | apply IsS61.set_2 | apply IsS61.set_3 | apply IsS61.set_4 | apply IsS61.set_5 | apply IsS61.set_6 | apply IsS61.set_7 | apply IsS61.set_8 | apply IsS61.farb NB289_279.out | apply IsS61.farb NB289_305.out) | exact HI289.out)⟩, ⟨by repeat (first | (with_reducible first | exact HB.out | apply below_alloc | apply pw_below_drewN | apply below_drew1 | refine below_set ?_ (IsS61.ge HI289.out) | refine below_set ?_ GE279.out | refine below_set ?_ GE305.out) | exact HB.out)⟩⟩
              case rest =>
                clear HC16
                try clear c1
                try clear c2
                try clear p2
                try clear q2
                try clear c3
                try clear c3b0
                try clear c3b1
                try clear p3
                try clear q3
                try clear hx3
                try clear c5
                try clear c6
                try clear p6
                try clear c7
                try clear c9
                try clear c14
                try clear c14b0
                try clear c15
                try clear c15b0
                try clear c17
                try clear c20
                try clear c21
                try clear q23
                try clear c24
                try clear c25
                try clear c26
                try clear hcz10_0
                try clear hcz12_0
                try clear hcz18_0
                try clear hcz22_0
                try clear hcz27_0
                try clear hfz10_0
                try clear hfz12_0
                try clear hfz18_0
                try clear hfz22_0
                try clear hfz27_0
                try clear hx304_0
                try clear hx304_1
                try clear hx304_2
                try clear hx304_3
                try clear hx304_4
                try clear hx304_5
                try clear hx304_6
                try clear p2
                try clear p304
                try clear q304
                obtain ⟨kq, x5_15, x6_15, rfl, rfl, HA, HJ15, BK279, BK305, HI289, HB⟩ := hcut
                cases kq with
                | zero => exact absurd HA.out (by simp [windhoverlaw13_EstHolds.j1])
                | succ kj15 =>
                  have H := HA.out
                  clear HA
                  simp only [windhoverlaw13_EstHolds.j1] at H
                  replace H := Option.bind_eq_some_iff.mp H
                  obtain ⟨⟨t306, t307, t308, t309, t310, t311, t312, t313, t314⟩, A280, H⟩ := H
                  replace H : ((est_Filter_Axis.f t306 t307 t308 t309 t310 t311 t312 t313 t314).bind fun bt315 => (if x5_15 < bt315.1 then (windhoverlaw13_EstHolds.j2 kj15 x5_15 x6_15 x7_1 true a0_0 a0_1 a0_2 a0_3 a0_4 l0_5 t306 t307 t308 t309 t310 t311 t312 t313 t314 ((rd_T35 l0_5 x7_1).f0) ((rd_T35 l0_5 x7_1).f1) ((rd_T35 l0_5 x7_1).f2) ((rd_T35 l0_5 x7_1).f3) ((rd_T35 l0_5 x7_1).f4) ((rd_T35 l0_5 x7_1).f5) ((rd_T35 l0_5 x7_1).f6) bt315.1 bt315.2.1 bt315.2.2.1 bt315.2.2.2.1) else (if x5_15 > bt315.2.1 then (windhoverlaw13_EstHolds.j2 kj15 x5_15 x6_15 x7_1 true a0_0 a0_1 a0_2 a0_3 a0_4 l0_5 t306 t307 t308 t309 t310 t311 t312 t313 t314 ((rd_T35 l0_5 x7_1).f0) ((rd_T35 l0_5 x7_1).f1) ((rd_T35 l0_5 x7_1).f2) ((rd_T35 l0_5 x7_1).f3) ((rd_T35 l0_5 x7_1).f4) ((rd_T35 l0_5 x7_1).f5) ((rd_T35 l0_5 x7_1).f6) bt315.1 bt315.2.1 bt315.2.2.1 bt315.2.2.2.1) else (if x6_15 < bt315.2.2.1 then (windhoverlaw13_EstHolds.j2 kj15 x5_15 x6_15 x7_1 true a0_0 a0_1 a0_2 a0_3 a0_4 l0_5 t306 t307 t308 t309 t310 t311 t312 t313 t314 ((rd_T35 l0_5 x7_1).f0) ((rd_T35 l0_5 x7_1).f1) ((rd_T35 l0_5 x7_1).f2) ((rd_T35 l0_5 x7_1).f3) ((rd_T35 l0_5 x7_1).f4) ((rd_T35 l0_5 x7_1).f5) ((rd_T35 l0_5 x7_1).f6) bt315.1 bt315.2.1 bt315.2.2.1 bt315.2.2.2.1) else (if x6_15 > bt315.2.2.2.1 then (windhoverlaw13_EstHolds.j2 kj15 x5_15 x6_15 x7_1 true a0_0 a0_1 a0_2 a0_3 a0_4 l0_5 t306 t307 t308 t309 t310 t311 t312 t313 t314 ((rd_T35 l0_5 x7_1).f0) ((rd_T35 l0_5 x7_1).f1) ((rd_T35 l0_5 x7_1).f2) ((rd_T35 l0_5 x7_1).f3) ((rd_T35 l0_5 x7_1).f4) ((rd_T35 l0_5 x7_1).f5) ((rd_T35 l0_5 x7_1).f6) bt315.1 bt315.2.1 bt315.2.2.1 bt315.2.2.2.1) else ((est_Filter_Jumps.f t306 t307 t308 t309 t310 t311 t312 t313 t314).bind fun bt329 => (windhoverlaw13_EstHolds.j2 kj15 x5_15 x6_15 x7_1 (bt329.1 != 0) a0_0 a0_1 a0_2 a0_3 a0_4 l0_5 t306 t307 t308 t309 t310 t311 t312 t313 t314 ((rd_T35 l0_5 x7_1).f0) ((rd_T35 l0_5 x7_1).f1) ((rd_T35 l0_5 x7_1).f2) ((rd_T35 l0_5 x7_1).f3) ((rd_T35 l0_5 x7_1).f4) ((rd_T35 l0_5 x7_1).f5) ((rd_T35 l0_5 x7_1).f6) bt315.1 bt315.2.1 bt315.2.2.1 bt315.2.2.2.1))))))) = some r := H
                  have A28 := Aside0.mk A280
                  clear A280
                  replace H := Option.bind_eq_some_iff.mp H
                  obtain ⟨⟨t315, t316, t317, t318, t319, t320, t321, t322, t323, t324, t325, t326, t327⟩, A290, H⟩ := H
                  replace H : (if x5_15 < t315 then (windhoverlaw13_EstHolds.j2 kj15 x5_15 x6_15 x7_1 true a0_0 a0_1 a0_2 a0_3 a0_4 l0_5 t306 t307 t308 t309 t310 t311 t312 t313 t314 ((rd_T35 l0_5 x7_1).f0) ((rd_T35 l0_5 x7_1).f1) ((rd_T35 l0_5 x7_1).f2) ((rd_T35 l0_5 x7_1).f3) ((rd_T35 l0_5 x7_1).f4) ((rd_T35 l0_5 x7_1).f5) ((rd_T35 l0_5 x7_1).f6) t315 t316 t317 t318) else (if x5_15 > t316 then (windhoverlaw13_EstHolds.j2 kj15 x5_15 x6_15 x7_1 true a0_0 a0_1 a0_2 a0_3 a0_4 l0_5 t306 t307 t308 t309 t310 t311 t312 t313 t314 ((rd_T35 l0_5 x7_1).f0) ((rd_T35 l0_5 x7_1).f1) ((rd_T35 l0_5 x7_1).f2) ((rd_T35 l0_5 x7_1).f3) ((rd_T35 l0_5 x7_1).f4) ((rd_T35 l0_5 x7_1).f5) ((rd_T35 l0_5 x7_1).f6) t315 t316 t317 t318) else (if x6_15 < t317 then (windhoverlaw13_EstHolds.j2 kj15 x5_15 x6_15 x7_1 true a0_0 a0_1 a0_2 a0_3 a0_4 l0_5 t306 t307 t308 t309 t310 t311 t312 t313 t314 ((rd_T35 l0_5 x7_1).f0) ((rd_T35 l0_5 x7_1).f1) ((rd_T35 l0_5 x7_1).f2) ((rd_T35 l0_5 x7_1).f3) ((rd_T35 l0_5 x7_1).f4) ((rd_T35 l0_5 x7_1).f5) ((rd_T35 l0_5 x7_1).f6) t315 t316 t317 t318) else (if x6_15 > t318 then (windhoverlaw13_EstHolds.j2 kj15 x5_15 x6_15 x7_1 true a0_0 a0_1 a0_2 a0_3 a0_4 l0_5 t306 t307 t308 t309 t310 t311 t312 t313 t314 ((rd_T35 l0_5 x7_1).f0) ((rd_T35 l0_5 x7_1).f1) ((rd_T35 l0_5 x7_1).f2) ((rd_T35 l0_5 x7_1).f3) ((rd_T35 l0_5 x7_1).f4) ((rd_T35 l0_5 x7_1).f5) ((rd_T35 l0_5 x7_1).f6) t315 t316 t317 t318) else ((est_Filter_Jumps.f t306 t307 t308 t309 t310 t311 t312 t313 t314).bind fun bt329 => (windhoverlaw13_EstHolds.j2 kj15 x5_15 x6_15 x7_1 (bt329.1 != 0) a0_0 a0_1 a0_2 a0_3 a0_4 l0_5 t306 t307 t308 t309 t310 t311 t312 t313 t314 ((rd_T35 l0_5 x7_1).f0) ((rd_T35 l0_5 x7_1).f1) ((rd_T35 l0_5 x7_1).f2) ((rd_T35 l0_5 x7_1).f3) ((rd_T35 l0_5 x7_1).f4) ((rd_T35 l0_5 x7_1).f5) ((rd_T35 l0_5 x7_1).f6) t315 t316 t317 t318)))))) = some r := H
                  have A29 := Aside0.mk A290
                  clear A290
                  obtain ⟨E0_, E1_, E2_, E3_, E4_, E5_, E6_, E7_, E8_⟩ := est_Filter_Axis.same A29.out
                  subst E0_
                  subst E1_
                  subst E2_
                  subst E3_
                  subst E4_
                  subst E5_
                  subst E6_
                  subst E7_
                  subst E8_
                  have HC30 := Aside0.mk H
                  clear H
                  have hnb31 := NB305_279.out
                  have hnc31 := NB279_305.out
                  have hnb32 := NB305_289.out
                  have hnc32 := NB289_305.out
                  have hcz33_0 := blk_cells7 (w := wc) (g := gb305) BK305.out
                  have hfz33_0 := blk_frozen BK305.out
                  have hnb34 := NB279_289.out
                  have hnc34 := NB289_279.out
                  have hcz35_0 := blk_cells6 (w := wc) (g := gb279) BK279.out
                  have hfz35_0 := blk_frozen BK279.out
                  go_upto_region 19 with (first | ((with_reducible refine gate_callee (f := 9) rfl ?_); refine goesL_ (some 87) rfl rfl Try.func9 (by kernel_rfl) rfl #[.pointer (some ⟨g289, 0, none⟩), .int .i64 ((rd_T35 l0_5 x7_1).f0), .int .i64 a0_2, .bool ((rd_T35 l0_5 x7_1).f2), .agg #[.bool ((rd_T35 l0_5 x7_1).f5), .int .i64 (wrap64 (x5_15 + ((rd_T35 l0_5 x7_1).f3))), .int .i64 a0_3], .agg #[.bool ((rd_T35 l0_5 x7_1).f6), .int .i64 (wrap64 (x6_15 + ((rd_T35 l0_5 x7_1).f4))), .int .i64 a0_4]] rfl (by (try simp only [List.map_toArray, List.map_cons, List.map_nil]); first | done | rfl | (simp only [List.length_drop, List.length_take]; rfl)) ?_; (with_reducible refine (est_Filter_Step.calls kj15 g289 x290000_1 x290001_1 x290002_1 x290003_1 x290004_1 x290005_1 x290006_1 x290007_1 x290008_1 ((rd_T35 l0_5 x7_1).f0) a0_2 ((rd_T35 l0_5 x7_1).f2) ((rd_T35 l0_5 x7_1).f5) (wrap64 (x5_15 + ((rd_T35 l0_5 x7_1).f3))) a0_3 ((rd_T35 l0_5 x7_1).f6) (wrap64 (x6_15 + ((rd_T35 l0_5 x7_1).f4))) a0_4 t306 t307 t308 t309 t310 t311 t312 t313 t314 w _ ?side1 ?side2 A28.out).mono ?_); (case side1 => repeat (first | (with_reducible first | exact HI289.out | apply IsS61.alloc | apply IsS61.drewN | apply IsS61.drew | apply IsS61.set_0 | apply IsS61.set_1 | apply IsS61.set_2 | apply IsS61.set_3 | apply IsS61.set_4 | apply IsS61.set_5 | apply IsS61.set_6 | apply IsS61.set_7 | apply IsS61.set_8 | apply IsS61.farb NB289_279.out | apply IsS61.farb NB289_305.out) | exact HI289.out)); (case side2 => repeat (first | (with_reducible first | exact HB.out | apply below_alloc | apply pw_below_drewN | apply below_drew1 | refine below_set ?_ (IsS61.ge HI289.out) | refine below_set ?_ GE279.out | refine below_set ?_ GE305.out) | exact HB.out)); rintro e w36 ⟨rfl, hi, hb, hk⟩; refine ⟨_, rfl, ?_⟩; have n0_ := Aside0.mk (KeepBut.blk hk (g' := gb279) (o := .cells #[.int .i64 a0_0, .int .i64 a0_1, .int .i64 a0_2, .int .i64 a0_3, .int .i64 a0_4, .slice (some ad304) l0_5.length c0_5] 24 (0, 0)) (by (with_reducible repeat (first | refine blk_drewN ?_ _ | refine blk_drew ?_ | refine blk_alloc ?_ _)); exact BK279.out) NB279_289.out (by simp)); have n1_ := Aside0.mk (KeepBut.blk hk (g' := gb305) (o := .cells #[.int .i64 ((rd_T35 l0_5 x7_1).f0), .int .i64 ((rd_T35 l0_5 x7_1).f1), .bool ((rd_T35 l0_5 x7_1).f2), .int .i64 ((rd_T35 l0_5 x7_1).f3), .int .i64 ((rd_T35 l0_5 x7_1).f4), .bool ((rd_T35 l0_5 x7_1).f5), .bool ((rd_T35 l0_5 x7_1).f6)] 35 (0, 0)) (by (with_reducible repeat (first | refine blk_drewN ?_ _ | refine blk_drew ?_ | refine blk_alloc ?_ _)); exact BK305.out) NB305_289.out (by simp)); have n2_ := Aside0.mk (hb); have n3_ := Aside0.mk (hi); clear BK279; clear BK305; clear HB; clear HI289; have BK279 := n0_; have BK305 := n1_; have HB := n2_; have HI289 := n3_; clear n0_ n1_ n2_ n3_; (try clear hb); (try clear hb2); (try clear hk); (try clear hi)) | ((with_reducible refine gate_callee (f := 10) rfl ?_); refine goesL_ (some 89) rfl rfl Try.func10 (by kernel_rfl) rfl #[.pointer (some ⟨g289, 0, none⟩)] rfl (by (try simp only [List.map_toArray, List.map_cons, List.map_nil]); first | done | rfl | (simp only [List.length_drop, List.length_take]; rfl)) ?_; (with_reducible refine (est_Filter_Axis.calls g289 t306 t307 t308 t309 t310 t311 t312 t313 t314 t315 t316 t317 t318 t306 t307 t308 t309 t310 t311 t312 t313 t314 w _ ?side1 ?side2 A29.out).mono ?_); (case side1 => repeat (first | (with_reducible first | exact HI289.out | apply IsS61.alloc | apply IsS61.drewN | apply IsS61.drew | apply IsS61.set_0 | apply IsS61.set_1 | apply IsS61.set_2 | apply IsS61.set_3 | apply IsS61.set_4 | apply IsS61.set_5 | apply IsS61.set_6 | apply IsS61.set_7 | apply IsS61.set_8 | apply IsS61.farb NB289_279.out | apply IsS61.farb NB289_305.out) | exact HI289.out)); (case side2 => repeat (first | (with_reducible first | exact HB.out | apply below_alloc | apply pw_below_drewN | apply below_drew1 | refine below_set ?_ (IsS61.ge HI289.out) | refine below_set ?_ GE279.out | refine below_set ?_ GE305.out) | exact HB.out)); rintro e w37 ⟨rfl, hi, hb, hk⟩; refine ⟨_, rfl, ?_⟩; have n0_ := Aside0.mk (KeepBut.blk hk (g' := gb279) (o := .cells #[.int .i64 a0_0, .int .i64 a0_1, .int .i64 a0_2, .int .i64 a0_3, .int .i64 a0_4, .slice (some ad304) l0_5.length c0_5] 24 (0, 0)) (by (with_reducible repeat (first | refine blk_drewN ?_ _ | refine blk_drew ?_ | refine blk_alloc ?_ _)); exact BK279.out) NB279_289.out (by simp)); have n1_ := Aside0.mk (KeepBut.blk hk (g' := gb305) (o := .cells #[.int .i64 ((rd_T35 l0_5 x7_1).f0), .int .i64 ((rd_T35 l0_5 x7_1).f1), .bool ((rd_T35 l0_5 x7_1).f2), .int .i64 ((rd_T35 l0_5 x7_1).f3), .int .i64 ((rd_T35 l0_5 x7_1).f4), .bool ((rd_T35 l0_5 x7_1).f5), .bool ((rd_T35 l0_5 x7_1).f6)] 35 (0, 0)) (by (with_reducible repeat (first | refine blk_drewN ?_ _ | refine blk_drew ?_ | refine blk_alloc ?_ _)); exact BK305.out) NB305_289.out (by simp)); have n2_ := Aside0.mk (hb); have n3_ := Aside0.mk (hi); clear BK279; clear BK305; clear HB; clear HI289; have BK279 := n0_; have BK305 := n1_; have HB := n2_; have HI289 := n3_; clear n0_ n1_ n2_ n3_; (try clear hb); (try clear hb2); (try clear hk); (try clear hi)) | ((with_reducible refine gate_dst (N := 9) rfl ?_); refine box_event ?hg (N := 9) ?hd (cs := #[.int .i64 0, .int .i64 0, .int .i64 0, .int .i64 0]) (t := 39) ?hr ?_; (case hd => rfl); (case hg => rfl); (case hr => first | (go_simp; done) | (go_simp; rfl)); intro gb328 hg w38 hbox hb; have n0_ := Aside0.mk (blk_below (g := gb279) (o := .cells #[.int .i64 a0_0, .int .i64 a0_1, .int .i64 a0_2, .int .i64 a0_3, .int .i64 a0_4, .slice (some ad304) l0_5.length c0_5] 24 (0, 0)) (by (with_reducible repeat (first | refine blk_drewN ?_ _ | refine blk_drew ?_ | refine blk_alloc ?_ _)); exact BK279.out) hb); have n1_ := Aside0.mk (blk_below (g := gb305) (o := .cells #[.int .i64 ((rd_T35 l0_5 x7_1).f0), .int .i64 ((rd_T35 l0_5 x7_1).f1), .bool ((rd_T35 l0_5 x7_1).f2), .int .i64 ((rd_T35 l0_5 x7_1).f3), .int .i64 ((rd_T35 l0_5 x7_1).f4), .bool ((rd_T35 l0_5 x7_1).f5), .bool ((rd_T35 l0_5 x7_1).f6)] 35 (0, 0)) (by (with_reducible repeat (first | refine blk_drewN ?_ _ | refine blk_drew ?_ | refine blk_alloc ?_ _)); exact BK305.out) hb); have n2_ := Aside0.mk (IsS61.below (by repeat (first | (with_reducible first | exact HI289.out | apply IsS61.alloc | apply IsS61.drewN | apply IsS61.drew | apply IsS61.set_0 | apply IsS61.set_1 | apply IsS61.set_2 | apply IsS61.set_3 | apply IsS61.set_4 | apply IsS61.set_5 | apply IsS61.set_6 | apply IsS61.set_7 | apply IsS61.set_8 | apply IsS61.farb NB289_279.out | apply IsS61.farb NB289_305.out) | exact HI289.out)) hb); have n3_ := Aside0.mk (below_step (by repeat (first | (with_reducible first | exact HB.out | apply below_alloc | apply pw_below_drewN | apply below_drew1 | refine below_set ?_ (IsS61.ge HI289.out) | refine below_set ?_ GE279.out | refine below_set ?_ GE305.out) | exact HB.out)) hb); have n4_ := Aside0.mk (hbox); have n5_ := Aside0.mk ((by rw [hg]; exact (below_size (by repeat (first | (with_reducible first | exact HB.out | apply below_alloc | apply pw_below_drewN | apply below_drew1 | refine below_set ?_ (IsS61.ge HI289.out) | refine below_set ?_ GE279.out | refine below_set ?_ GE305.out) | exact HB.out))) : w.heap.size ≤ gb328)); have n6_ := Aside0.mk ((by rw [hg]; exact (below_size (by repeat (first | (with_reducible first | exact HB.out | apply below_alloc | apply pw_below_drewN | apply below_drew1 | refine below_set ?_ (IsS61.ge HI289.out) | refine below_set ?_ GE279.out | refine below_set ?_ GE305.out) | exact HB.out))) : w.heap.size ≤ gb328)); have n7_ := Aside0.mk ((by rw [hg]; exact Nat.ne_of_lt (blk_lt (g := gb279) (o := .cells #[.int .i64 a0_0, .int .i64 a0_1, .int .i64 a0_2, .int .i64 a0_3, .int .i64 a0_4, .slice (some ad304) l0_5.length c0_5] 24 (0, 0)) (by (with_reducible repeat (first | refine blk_drewN ?_ _ | refine blk_drew ?_ | refine blk_alloc ?_ _)); exact BK279.out)) : gb279 ≠ gb328)); have n8_ := Aside0.mk ((by rw [hg]; exact Nat.ne_of_gt (blk_lt (g := gb279) (o := .cells #[.int .i64 a0_0, .int .i64 a0_1, .int .i64 a0_2, .int .i64 a0_3, .int .i64 a0_4, .slice (some ad304) l0_5.length c0_5] 24 (0, 0)) (by (with_reducible repeat (first | refine blk_drewN ?_ _ | refine blk_drew ?_ | refine blk_alloc ?_ _)); exact BK279.out)) : gb328 ≠ gb279)); have n9_ := Aside0.mk ((by rw [hg]; exact Nat.ne_of_lt (blk_lt (g := gb305) (o := .cells #[.int .i64 ((rd_T35 l0_5 x7_1).f0), .int .i64 ((rd_T35 l0_5 x7_1).f1), .bool ((rd_T35 l0_5 x7_1).f2), .int .i64 ((rd_T35 l0_5 x7_1).f3), .int .i64 ((rd_T35 l0_5 x7_1).f4), .bool ((rd_T35 l0_5 x7_1).f5), .bool ((rd_T35 l0_5 x7_1).f6)] 35 (0, 0)) (by (with_reducible repeat (first | refine blk_drewN ?_ _ | refine blk_drew ?_ | refine blk_alloc ?_ _)); exact BK305.out)) : gb305 ≠ gb328)); have n10_ := Aside0.mk ((by rw [hg]; exact Nat.ne_of_gt (blk_lt (g := gb305) (o := .cells #[.int .i64 ((rd_T35 l0_5 x7_1).f0), .int .i64 ((rd_T35 l0_5 x7_1).f1), .bool ((rd_T35 l0_5 x7_1).f2), .int .i64 ((rd_T35 l0_5 x7_1).f3), .int .i64 ((rd_T35 l0_5 x7_1).f4), .bool ((rd_T35 l0_5 x7_1).f5), .bool ((rd_T35 l0_5 x7_1).f6)] 35 (0, 0)) (by (with_reducible repeat (first | refine blk_drewN ?_ _ | refine blk_drew ?_ | refine blk_alloc ?_ _)); exact BK305.out)) : gb328 ≠ gb305)); have n11_ := Aside0.mk ((by rw [hg]; exact Nat.ne_of_lt (IsS61.lt (show IsS61 w _ g289 t306 t307 t308 t309 t310 t311 t312 t313 t314 from by repeat (first | (with_reducible first | exact HI289.out | apply IsS61.alloc | apply IsS61.drewN | apply IsS61.drew | apply IsS61.set_0 | apply IsS61.set_1 | apply IsS61.set_2 | apply IsS61.set_3 | apply IsS61.set_4 | apply IsS61.set_5 | apply IsS61.set_6 | apply IsS61.set_7 | apply IsS61.set_8 | apply IsS61.farb NB289_279.out | apply IsS61.farb NB289_305.out) | exact HI289.out))) : g289 ≠ gb328)); have n12_ := Aside0.mk ((by rw [hg]; exact Nat.ne_of_gt (IsS61.lt (show IsS61 w _ g289 t306 t307 t308 t309 t310 t311 t312 t313 t314 from by repeat (first | (with_reducible first | exact HI289.out | apply IsS61.alloc | apply IsS61.drewN | apply IsS61.drew | apply IsS61.set_0 | apply IsS61.set_1 | apply IsS61.set_2 | apply IsS61.set_3 | apply IsS61.set_4 | apply IsS61.set_5 | apply IsS61.set_6 | apply IsS61.set_7 | apply IsS61.set_8 | apply IsS61.farb NB289_279.out | apply IsS61.farb NB289_305.out) | exact HI289.out))) : gb328 ≠ g289)); clear BK279; clear BK305; clear HI289; clear HB; have BK279 := n0_; have BK305 := n1_; have HI289 := n2_; have HB := n3_; have BK328 := n4_; have GW328 := n5_; have GE328 := n6_; have NB279_328 := n7_; have NB328_279 := n8_; have NB305_328 := n9_; have NB328_305 := n10_; have NB289_328 := n11_; have NB328_289 := n12_; clear n0_ n1_ n2_ n3_ n4_ n5_ n6_ n7_ n8_ n9_ n10_ n11_ n12_; clear hb hbox hg; have hnb39 := NB328_279.out; have hnc39 := NB279_328.out; have hnb40 := NB328_305.out; have hnc40 := NB305_328.out; have hnb41 := NB328_289.out; have hnc41 := NB289_328.out; have hcz42_0 := blk_cells4 (w := w38) (g := gb328) BK328.out; have hfz42_0 := blk_frozen BK328.out))
                  (try simp only [Act.put, List.setIfInBounds_toArray, List.set_cons_zero, List.set_cons_succ])
                  go_cut [120] (fun v120 wc => ∃ (kq : Nat) (x120_29 : Bool) (x290000_29 : Int) (x290001_29 : Bool) (x290002_29 : Int) (x290003_29 : Int) (x290004_29 : Int) (x290005_29 : Int) (x290006_29 : Int) (x290007_29 : Int) (x290008_29 : Int), v120 = .bool x120_29 ∧ Aside0 (windhoverlaw13_EstHolds.j2 kq x5_15 x6_15 x7_1 x120_29 a0_0 a0_1 a0_2 a0_3 a0_4 l0_5 x290000_29 x290001_29 x290002_29 x290003_29 x290004_29 x290005_29 x290006_29 x290007_29 x290008_29 ((rd_T35 l0_5 x7_1).f0) ((rd_T35 l0_5 x7_1).f1) ((rd_T35 l0_5 x7_1).f2) ((rd_T35 l0_5 x7_1).f3) ((rd_T35 l0_5 x7_1).f4) ((rd_T35 l0_5 x7_1).f5) ((rd_T35 l0_5 x7_1).f6) t315 t316 t317 t318 = some r) ∧ Aside0 (kq ≤ kj15) ∧ Aside0 (wc.heap[gb279]? = some (.cells #[.int .i64 a0_0, .int .i64 a0_1, .int .i64 a0_2, .int .i64 a0_3, .int .i64 a0_4, (.slice (some ad304) l0_5.length c0_5)] 24 (0, 0))) ∧ Aside0 (wc.heap[gb305]? = some (.cells #[.int .i64 ((rd_T35 l0_5 x7_1).f0), .int .i64 ((rd_T35 l0_5 x7_1).f1), .bool ((rd_T35 l0_5 x7_1).f2), .int .i64 ((rd_T35 l0_5 x7_1).f3), .int .i64 ((rd_T35 l0_5 x7_1).f4), .bool ((rd_T35 l0_5 x7_1).f5), .bool ((rd_T35 l0_5 x7_1).f6)] 35 (0, 0))) ∧ Aside0 (wc.heap[gb328]? = some (.cells #[.int .i64 t315, .int .i64 t316, .int .i64 t317, .int .i64 t318] 39 (0, 0))) ∧ Aside0 (IsS61 w wc g289 x290000_29 x290001_29 x290002_29 x290003_29 x290004_29 x290005_29 x290006_29 x290007_29 x290008_29) ∧ Aside0 (Below w.heap.size w wc))
                  case first =>
                    have H := HC30.out
                    clear HC30
                    by_cases c43 : x5_15 < t315
                    · rw [if_pos c43] at H
                      have c43b0 : decide (x5_15 < t315) = true := decide_eq_true c43
                      clear c43
                      (first | rw [c43b0] | (simp only [i64_w, i32_w]; rw [c43b0]) | skip)
                      have H' := Aside0.mk H
                      clear H
                      have hnb44 := NB328_279.out
                      have hnc44 := NB279_328.out
                      have hnb45 := NB328_305.out
                      have hnc45 := NB305_328.out
                      have hnb46 := NB328_289.out
                      have hnc46 := NB289_328.out
                      have hcz47_0 := blk_cells4 (w := w38) (g := gb328) BK328.out
                      have hfz47_0 := blk_frozen BK328.out
                      go_wp2
                      go_meet
                      case rel => exact ⟨_, (true), (t306), (t307), (t308), (t309), (t310), (t311), (t312), (t313), (t314), (by first | rfl | (simp; done) | (simp [*]; done)), H', ⟨by have := HK1.out; have := HJ15.out; first | omega | exact Nat.le_refl _⟩, ⟨by (with_reducible repeat (first | refine blk_drewN ?_ _ | refine blk_drew ?_ | refine blk_alloc ?_ _)); refine blk_far ?_ NB279_328.out _; (with_reducible repeat (first | refine blk_drewN ?_ _ | refine blk_drew ?_ | refine blk_alloc ?_ _)); refine blk_far ?_ NB279_328.out _; (with_reducible repeat (first | refine blk_drewN ?_ _ | refine blk_drew ?_ | refine blk_alloc ?_ _)); refine blk_far ?_ NB279_328.out _; (with_reducible repeat (first | refine blk_drewN ?_ _ | refine blk_drew ?_ | refine blk_alloc ?_ _)); refine blk_far ?_ NB279_328.out _; (with_reducible repeat (first | refine blk_drewN ?_ _ | refine blk_drew ?_ | refine blk_alloc ?_ _)); exact BK279.out⟩, ⟨by (with_reducible repeat (first | refine blk_drewN ?_ _ | refine blk_drew ?_ | refine blk_alloc ?_ _)); refine blk_far ?_ NB305_328.out _; (with_reducible repeat (first | refine blk_drewN ?_ _ | refine blk_drew ?_ | refine blk_alloc ?_ _)); refine blk_far ?_ NB305_328.out _; (with_reducible repeat (first | refine blk_drewN ?_ _ | refine blk_drew ?_ | refine blk_alloc ?_ _)); refine blk_far ?_ NB305_328.out _; (with_reducible repeat (first | refine blk_drewN ?_ _ | refine blk_drew ?_ | refine blk_alloc ?_ _)); refine blk_far ?_ NB305_328.out _; (with_reducible repeat (first | refine blk_drewN ?_ _ | refine blk_drew ?_ | refine blk_alloc ?_ _)); exact BK305.out⟩, ⟨by (with_reducible repeat (first | refine blk_drewN ?_ _ | refine blk_drew ?_ | refine blk_alloc ?_ _)); refine blk_put (cs := #[.int .i64 t315, .int .i64 t316, .int .i64 t317, .int .i64 0]) ?_ 3 _ rfl; (with_reducible repeat (first | refine blk_drewN ?_ _ | refine blk_drew ?_ | refine blk_alloc ?_ _)); refine blk_put (cs := #[.int .i64 t315, .int .i64 t316, .int .i64 0, .int .i64 0]) ?_ 2 _ rfl; (with_reducible repeat (first | refine blk_drewN ?_ _ | refine blk_drew ?_ | refine blk_alloc ?_ _)); refine blk_put (cs := #[.int .i64 t315, .int .i64 0, .int .i64 0, .int .i64 0]) ?_ 1 _ rfl; (with_reducible repeat (first | refine blk_drewN ?_ _ | refine blk_drew ?_ | refine blk_alloc ?_ _)); refine blk_put (cs := #[.int .i64 0, .int .i64 0, .int .i64 0, .int .i64 0]) ?_ 0 _ rfl; (with_reducible repeat (first | refine blk_drewN ?_ _ | refine blk_drew ?_ | refine blk_alloc ?_ _)); exact BK328.out⟩, ⟨by repeat (first | (with_reducible first | exact HI289.out | apply IsS61.alloc | apply IsS61.drewN | apply IsS61.drew | apply IsS61.set_0 | apply IsS61.set_1 | apply IsS61.set_2 | apply IsS61.set_3 | apply IsS61.set_4 | apply IsS61.set_5 | apply IsS61.set_6 | apply IsS61.set_7 | apply IsS61.set_8 | apply IsS61.farb NB289_279.out | apply IsS61.farb NB289_305.out | apply IsS61.farb NB289_328.out) | exact HI289.out)⟩, ⟨by repeat (first | (with_reducible first | exact HB.out | apply below_alloc | apply pw_below_drewN | apply below_drew1 | refine below_set ?_ (IsS61.ge HI289.out) | refine below_set ?_ GE279.out | refine below_set ?_ GE305.out | refine below_set ?_ GE328.out) | exact HB.out)⟩⟩
                    · rw [if_neg c43] at H
                      have c43b0 : decide (x5_15 < t315) = false := decide_eq_false c43
                      clear c43
                      (first | rw [c43b0] | (simp only [i64_w, i32_w]; rw [c43b0]) | skip)
                      by_cases c48 : x5_15 > t316
                      · rw [if_pos c48] at H
                        have c48b0 : decide (t316 < x5_15) = true := decide_eq_true c48
                        clear c48
                        have H' := Aside0.mk H
                        clear H
                        have hnb49 := NB328_279.out
                        have hnc49 := NB279_328.out
                        have hnb50 := NB328_305.out
                        have hnc50 := NB305_328.out
                        have hnb51 := NB328_289.out
                        have hnc51 := NB289_328.out
                        have hcz52_0 := blk_cells4 (w := w38) (g := gb328) BK328.out
                        have hfz52_0 := blk_frozen BK328.out
                        go_wp2
                        go_meet
                        case rel => exact ⟨_, (true), (t306), (t307), (t308), (t309), (t310), (t311), (t312), (t313), (t314), (by first | rfl | (simp; done) | (simp [*]; done)), H', ⟨by have := HK1.out; have := HJ15.out; first | omega | exact Nat.le_refl _⟩, ⟨by (with_reducible repeat (first | refine blk_drewN ?_ _ | refine blk_drew ?_ | refine blk_alloc ?_ _)); refine blk_far ?_ NB279_328.out _; (with_reducible repeat (first | refine blk_drewN ?_ _ | refine blk_drew ?_ | refine blk_alloc ?_ _)); refine blk_far ?_ NB279_328.out _; (with_reducible repeat (first | refine blk_drewN ?_ _ | refine blk_drew ?_ | refine blk_alloc ?_ _)); refine blk_far ?_ NB279_328.out _; (with_reducible repeat (first | refine blk_drewN ?_ _ | refine blk_drew ?_ | refine blk_alloc ?_ _)); refine blk_far ?_ NB279_328.out _; (with_reducible repeat (first | refine blk_drewN ?_ _ | refine blk_drew ?_ | refine blk_alloc ?_ _)); exact BK279.out⟩, ⟨by (with_reducible repeat (first | refine blk_drewN ?_ _ | refine blk_drew ?_ | refine blk_alloc ?_ _)); refine blk_far ?_ NB305_328.out _; (with_reducible repeat (first | refine blk_drewN ?_ _ | refine blk_drew ?_ | refine blk_alloc ?_ _)); refine blk_far ?_ NB305_328.out _; (with_reducible repeat (first | refine blk_drewN ?_ _ | refine blk_drew ?_ | refine blk_alloc ?_ _)); refine blk_far ?_ NB305_328.out _; (with_reducible repeat (first | refine blk_drewN ?_ _ | refine blk_drew ?_ | refine blk_alloc ?_ _)); refine blk_far ?_ NB305_328.out _; (with_reducible repeat (first | refine blk_drewN ?_ _ | refine blk_drew ?_ | refine blk_alloc ?_ _)); exact BK305.out⟩, ⟨by (with_reducible repeat (first | refine blk_drewN ?_ _ | refine blk_drew ?_ | refine blk_alloc ?_ _)); refine blk_put (cs := #[.int .i64 t315, .int .i64 t316, .int .i64 t317, .int .i64 0]) ?_ 3 _ rfl; (with_reducible repeat (first | refine blk_drewN ?_ _ | refine blk_drew ?_ | refine blk_alloc ?_ _)); refine blk_put (cs := #[.int .i64 t315, .int .i64 t316, .int .i64 0, .int .i64 0]) ?_ 2 _ rfl; (with_reducible repeat (first | refine blk_drewN ?_ _ | refine blk_drew ?_ | refine blk_alloc ?_ _)); refine blk_put (cs := #[.int .i64 t315, .int .i64 0, .int .i64 0, .int .i64 0]) ?_ 1 _ rfl; (with_reducible repeat (first | refine blk_drewN ?_ _ | refine blk_drew ?_ | refine blk_alloc ?_ _)); refine blk_put (cs := #[.int .i64 0, .int .i64 0, .int .i64 0, .int .i64 0]) ?_ 0 _ rfl; (with_reducible repeat (first | refine blk_drewN ?_ _ | refine blk_drew ?_ | refine blk_alloc ?_ _)); exact BK328.out⟩, ⟨by repeat (first | (with_reducible first | exact HI289.out | apply IsS61.alloc | apply IsS61.drewN | apply IsS61.drew | apply IsS61.set_0 | apply IsS61.set_1 | apply IsS61.set_2 | apply IsS61.set_3 | apply IsS61.set_4 | apply IsS61.set_5 | apply IsS61.set_6 | apply IsS61.set_7 | apply IsS61.set_8 | apply IsS61.farb NB289_279.out | apply IsS61.farb NB289_305.out | apply IsS61.farb NB289_328.out) | exact HI289.out)⟩, ⟨by repeat (first | (with_reducible first | exact HB.out | apply below_alloc | apply pw_below_drewN | apply below_drew1 | refine below_set ?_ (IsS61.ge HI289.out) | refine below_set ?_ GE279.out | refine below_set ?_ GE305.out | refine below_set ?_ GE328.out) | exact HB.out)⟩⟩
                      · rw [if_neg c48] at H
                        have c48b0 : decide (t316 < x5_15) = false := decide_eq_false c48
                        clear c48
                        by_cases c53 : x6_15 < t317
                        · rw [if_pos c53] at H
                          have c53b0 : decide (x6_15 < t317) = true := decide_eq_true c53
                          clear c53
                          have H' := Aside0.mk H
                          clear H
                          have hnb54 := NB328_279.out
                          have hnc54 := NB279_328.out
                          have hnb55 := NB328_305.out
                          have hnc55 := NB305_328.out
                          have hnb56 := NB328_289.out
                          have hnc56 := NB289_328.out
                          have hcz57_0 := blk_cells4 (w := w38) (g := gb328) BK328.out
                          have hfz57_0 := blk_frozen BK328.out
                          go_wp2
                          go_meet
                          case rel => exact ⟨_, (true), (t306), (t307), (t308), (t309), (t310), (t311), (t312), (t313), (t314), (by first | rfl | (simp; done) | (simp [*]; done)), H', ⟨by have := HK1.out; have := HJ15.out; first | omega | exact Nat.le_refl _⟩, ⟨by (with_reducible repeat (first | refine blk_drewN ?_ _ | refine blk_drew ?_ | refine blk_alloc ?_ _)); refine blk_far ?_ NB279_328.out _; (with_reducible repeat (first | refine blk_drewN ?_ _ | refine blk_drew ?_ | refine blk_alloc ?_ _)); refine blk_far ?_ NB279_328.out _; (with_reducible repeat (first | refine blk_drewN ?_ _ | refine blk_drew ?_ | refine blk_alloc ?_ _)); refine blk_far ?_ NB279_328.out _; (with_reducible repeat (first | refine blk_drewN ?_ _ | refine blk_drew ?_ | refine blk_alloc ?_ _)); refine blk_far ?_ NB279_328.out _; (with_reducible repeat (first | refine blk_drewN ?_ _ | refine blk_drew ?_ | refine blk_alloc ?_ _)); exact BK279.out⟩, ⟨by (with_reducible repeat (first | refine blk_drewN ?_ _ | refine blk_drew ?_ | refine blk_alloc ?_ _)); refine blk_far ?_ NB305_328.out _; (with_reducible repeat (first | refine blk_drewN ?_ _ | refine blk_drew ?_ | refine blk_alloc ?_ _)); refine blk_far ?_ NB305_328.out _; (with_reducible repeat (first | refine blk_drewN ?_ _ | refine blk_drew ?_ | refine blk_alloc ?_ _)); refine blk_far ?_ NB305_328.out _; (with_reducible repeat (first | refine blk_drewN ?_ _ | refine blk_drew ?_ | refine blk_alloc ?_ _)); refine blk_far ?_ NB305_328.out _; (with_reducible repeat (first | refine blk_drewN ?_ _ | refine blk_drew ?_ | refine blk_alloc ?_ _)); exact BK305.out⟩, ⟨by (with_reducible repeat (first | refine blk_drewN ?_ _ | refine blk_drew ?_ | refine blk_alloc ?_ _)); refine blk_put (cs := #[.int .i64 t315, .int .i64 t316, .int .i64 t317, .int .i64 0]) ?_ 3 _ rfl; (with_reducible repeat (first | refine blk_drewN ?_ _ | refine blk_drew ?_ | refine blk_alloc ?_ _)); refine blk_put (cs := #[.int .i64 t315, .int .i64 t316, .int .i64 0, .int .i64 0]) ?_ 2 _ rfl; (with_reducible repeat (first | refine blk_drewN ?_ _ | refine blk_drew ?_ | refine blk_alloc ?_ _)); refine blk_put (cs := #[.int .i64 t315, .int .i64 0, .int .i64 0, .int .i64 0]) ?_ 1 _ rfl; (with_reducible repeat (first | refine blk_drewN ?_ _ | refine blk_drew ?_ | refine blk_alloc ?_ _)); refine blk_put (cs := #[.int .i64 0, .int .i64 0, .int .i64 0, .int .i64 0]) ?_ 0 _ rfl; (with_reducible repeat (first | refine blk_drewN ?_ _ | refine blk_drew ?_ | refine blk_alloc ?_ _)); exact BK328.out⟩, ⟨by repeat (first | (with_reducible first | exact HI289.out | apply IsS61.alloc | apply IsS61.drewN | apply IsS61.drew | apply IsS61.set_0 | apply IsS61.set_1 | apply IsS61.set_2 | apply IsS61.set_3 | apply IsS61.set_4 | apply IsS61.set_5 | apply IsS61.set_6 | apply IsS61.set_7 | apply IsS61.set_8 | apply IsS61.farb NB289_279.out | apply IsS61.farb NB289_305.out | apply IsS61.farb NB289_328.out) | exact HI289.out)⟩, ⟨by repeat (first | (with_reducible first | exact HB.out | apply below_alloc | apply pw_below_drewN | apply below_drew1 | refine below_set ?_ (IsS61.ge HI289.out) | refine below_set ?_ GE279.out | refine below_set ?_ GE305.out | refine below_set ?_ GE328.out) | exact HB.out)⟩⟩
                        · rw [if_neg c53] at H
                          have c53b0 : decide (x6_15 < t317) = false := decide_eq_false c53
                          clear c53
                          by_cases c58 : x6_15 > t318
                          · rw [if_pos c58] at H
                            have c58b0 : decide (t318 < x6_15) = true := decide_eq_true c58
                            clear c58
                            have H' := Aside0.mk H
                            clear H
                            have hnb59 := NB328_279.out
                            have hnc59 := NB279_328.out
                            have hnb60 := NB328_305.out
                            have hnc60 := NB305_328.out
                            have hnb61 := NB328_289.out
                            have hnc61 := NB289_328.out
                            have hcz62_0 := blk_cells4 (w := w38) (g := gb328) BK328.out
                            have hfz62_0 := blk_frozen BK328.out
                            go_wp2
                            go_meet
                            case rel => exact ⟨_, (true), (t306), (t307), (t308), (t309), (t310), (t311), (t312), (t313), (t314), (by first | rfl | (simp; done) | (simp [*]; done)), H', ⟨by have := HK1.out; have := HJ15.out; first | omega | exact Nat.le_refl _⟩, ⟨by (with_reducible repeat (first | refine blk_drewN ?_ _ | refine blk_drew ?_ | refine blk_alloc ?_ _)); refine blk_far ?_ NB279_328.out _; (with_reducible repeat (first | refine blk_drewN ?_ _ | refine blk_drew ?_ | refine blk_alloc ?_ _)); refine blk_far ?_ NB279_328.out _; (with_reducible repeat (first | refine blk_drewN ?_ _ | refine blk_drew ?_ | refine blk_alloc ?_ _)); refine blk_far ?_ NB279_328.out _; (with_reducible repeat (first | refine blk_drewN ?_ _ | refine blk_drew ?_ | refine blk_alloc ?_ _)); refine blk_far ?_ NB279_328.out _; (with_reducible repeat (first | refine blk_drewN ?_ _ | refine blk_drew ?_ | refine blk_alloc ?_ _)); exact BK279.out⟩, ⟨by (with_reducible repeat (first | refine blk_drewN ?_ _ | refine blk_drew ?_ | refine blk_alloc ?_ _)); refine blk_far ?_ NB305_328.out _; (with_reducible repeat (first | refine blk_drewN ?_ _ | refine blk_drew ?_ | refine blk_alloc ?_ _)); refine blk_far ?_ NB305_328.out _; (with_reducible repeat (first | refine blk_drewN ?_ _ | refine blk_drew ?_ | refine blk_alloc ?_ _)); refine blk_far ?_ NB305_328.out _; (with_reducible repeat (first | refine blk_drewN ?_ _ | refine blk_drew ?_ | refine blk_alloc ?_ _)); refine blk_far ?_ NB305_328.out _; (with_reducible repeat (first | refine blk_drewN ?_ _ | refine blk_drew ?_ | refine blk_alloc ?_ _)); exact BK305.out⟩, ⟨by (with_reducible repeat (first | refine blk_drewN ?_ _ | refine blk_drew ?_ | refine blk_alloc ?_ _)); refine blk_put (cs := #[.int .i64 t315, .int .i64 t316, .int .i64 t317, .int .i64 0]) ?_ 3 _ rfl; (with_reducible repeat (first | refine blk_drewN ?_ _ | refine blk_drew ?_ | refine blk_alloc ?_ _)); refine blk_put (cs := #[.int .i64 t315, .int .i64 t316, .int .i64 0, .int .i64 0]) ?_ 2 _ rfl; (with_reducible repeat (first | refine blk_drewN ?_ _ | refine blk_drew ?_ | refine blk_alloc ?_ _)); refine blk_put (cs := #[.int .i64 t315, .int .i64 0, .int .i64 0, .int .i64 0]) ?_ 1 _ rfl; (with_reducible repeat (first | refine blk_drewN ?_ _ | refine blk_drew ?_ | refine blk_alloc ?_ _)); refine blk_put (cs := #[.int .i64 0, .int .i64 0, .int .i64 0, .int .i64 0]) ?_ 0 _ rfl; (with_reducible repeat (first | refine blk_drewN ?_ _ | refine blk_drew ?_ | refine blk_alloc ?_ _)); exact BK328.out⟩, ⟨by repeat (first | (with_reducible first | exact HI289.out | apply IsS61.alloc | apply IsS61.drewN | apply IsS61.drew | apply IsS61.set_0 | apply IsS61.set_1 | apply IsS61.set_2 | apply IsS61.set_3 | apply IsS61.set_4 | apply IsS61.set_5 | apply IsS61.set_6 | apply IsS61.set_7 | apply IsS61.set_8 | apply IsS61.farb NB289_279.out | apply IsS61.farb NB289_305.out | apply IsS61.farb NB289_328.out) | exact HI289.out)⟩, ⟨by repeat (first | (with_reducible first | exact HB.out | apply below_alloc | apply pw_below_drewN | apply below_drew1 | refine below_set ?_ (IsS61.ge HI289.out) | refine below_set ?_ GE279.out | refine below_set ?_ GE305.out | refine below_set ?_ GE328.out) | exact HB.out)⟩⟩
                          · rw [if_neg c58] at H
                            have c58b0 : decide (t318 < x6_15) = false := decide_eq_false c58
                            clear c58
                            replace H := Option.bind_eq_some_iff.mp H
                            obtain ⟨⟨t329, t330, t331, t332, t333, t334, t335, t336, t337, t338⟩, A630, H⟩ := H
                            replace H : (windhoverlaw13_EstHolds.j2 kj15 x5_15 x6_15 x7_1 (t329 != 0) a0_0 a0_1 a0_2 a0_3 a0_4 l0_5 t306 t307 t308 t309 t310 t311 t312 t313 t314 ((rd_T35 l0_5 x7_1).f0) ((rd_T35 l0_5 x7_1).f1) ((rd_T35 l0_5 x7_1).f2) ((rd_T35 l0_5 x7_1).f3) ((rd_T35 l0_5 x7_1).f4) ((rd_T35 l0_5 x7_1).f5) ((rd_T35 l0_5 x7_1).f6) t315 t316 t317 t318) = some r := H
                            have A63 := Aside0.mk A630
                            clear A630
                            obtain ⟨E0_, E1_, E2_, E3_, E4_, E5_, E6_, E7_, E8_⟩ := est_Filter_Jumps.same A63.out
                            subst E0_
                            subst E1_
                            subst E2_
                            subst E3_
                            subst E4_
                            subst E5_
                            subst E6_
                            subst E7_
                            subst E8_
                            have H' := Aside0.mk H
                            clear H
                            have hnb64 := NB328_279.out
                            have hnc64 := NB279_328.out
                            have hnb65 := NB328_305.out
                            have hnc65 := NB305_328.out
                            have hnb66 := NB328_289.out
                            have hnc66 := NB289_328.out
                            have hcz67_0 := blk_cells4 (w := w38) (g := gb328) BK328.out
                            have hfz67_0 := blk_frozen BK328.out
                            go_wp2_with (first | (go_at_call 11; (with_reducible refine (est_Filter_Jumps.calls g289 t306 t307 t308 t309 t310 t311 t312 t313 t314 t329 t306 t307 t308 t309 t310 t311 t312 t313 t314 w _ ?side1 ?side2 A63.out).mono ?_); (case side1 => repeat (first | (with_reducible first | exact HI289.out | apply IsS61.alloc | apply IsS61.drewN | apply IsS61.drew | apply IsS61.set_0 | apply IsS61.set_1 | apply IsS61.set_2 | apply IsS61.set_3 | apply IsS61.set_4 | apply IsS61.set_5 | apply IsS61.set_6 | apply IsS61.set_7 | apply IsS61.set_8 | apply IsS61.farb NB289_279.out | apply IsS61.farb NB289_305.out | apply IsS61.farb NB289_328.out) | exact HI289.out)); (case side2 => repeat (first | (with_reducible first | exact HB.out | apply below_alloc | apply pw_below_drewN | apply below_drew1 | refine below_set ?_ (IsS61.ge HI289.out) | refine below_set ?_ GE279.out | refine below_set ?_ GE305.out | refine below_set ?_ GE328.out) | exact HB.out)); rintro e w68 ⟨rfl, hi, hb, hk⟩; have n0_ := Aside0.mk (KeepBut.blk hk (g' := gb279) (o := .cells #[.int .i64 a0_0, .int .i64 a0_1, .int .i64 a0_2, .int .i64 a0_3, .int .i64 a0_4, .slice (some ad304) l0_5.length c0_5] 24 (0, 0)) (by (with_reducible repeat (first | refine blk_drewN ?_ _ | refine blk_drew ?_ | refine blk_alloc ?_ _)); refine blk_far ?_ NB279_328.out _; (with_reducible repeat (first | refine blk_drewN ?_ _ | refine blk_drew ?_ | refine blk_alloc ?_ _)); refine blk_far ?_ NB279_328.out _; (with_reducible repeat (first | refine blk_drewN ?_ _ | refine blk_drew ?_ | refine blk_alloc ?_ _)); refine blk_far ?_ NB279_328.out _; (with_reducible repeat (first | refine blk_drewN ?_ _ | refine blk_drew ?_ | refine blk_alloc ?_ _)); refine blk_far ?_ NB279_328.out _; (with_reducible repeat (first | refine blk_drewN ?_ _ | refine blk_drew ?_ | refine blk_alloc ?_ _)); exact BK279.out) NB279_289.out (by simp)); have n1_ := Aside0.mk (KeepBut.blk hk (g' := gb305) (o := .cells #[.int .i64 ((rd_T35 l0_5 x7_1).f0), .int .i64 ((rd_T35 l0_5 x7_1).f1), .bool ((rd_T35 l0_5 x7_1).f2), .int .i64 ((rd_T35 l0_5 x7_1).f3), .int .i64 ((rd_T35 l0_5 x7_1).f4), .bool ((rd_T35 l0_5 x7_1).f5), .bool ((rd_T35 l0_5 x7_1).f6)] 35 (0, 0)) (by (with_reducible repeat (first | refine blk_drewN ?_ _ | refine blk_drew ?_ | refine blk_alloc ?_ _)); refine blk_far ?_ NB305_328.out _; (with_reducible repeat (first | refine blk_drewN ?_ _ | refine blk_drew ?_ | refine blk_alloc ?_ _)); refine blk_far ?_ NB305_328.out _; (with_reducible repeat (first | refine blk_drewN ?_ _ | refine blk_drew ?_ | refine blk_alloc ?_ _)); refine blk_far ?_ NB305_328.out _; (with_reducible repeat (first | refine blk_drewN ?_ _ | refine blk_drew ?_ | refine blk_alloc ?_ _)); refine blk_far ?_ NB305_328.out _; (with_reducible repeat (first | refine blk_drewN ?_ _ | refine blk_drew ?_ | refine blk_alloc ?_ _)); exact BK305.out) NB305_289.out (by simp)); have n2_ := Aside0.mk (KeepBut.blk hk (g' := gb328) (o := .cells #[.int .i64 t315, .int .i64 t316, .int .i64 t317, .int .i64 t318] 39 (0, 0)) (by (with_reducible repeat (first | refine blk_drewN ?_ _ | refine blk_drew ?_ | refine blk_alloc ?_ _)); refine blk_put (cs := #[.int .i64 t315, .int .i64 t316, .int .i64 t317, .int .i64 0]) ?_ 3 _ rfl; (with_reducible repeat (first | refine blk_drewN ?_ _ | refine blk_drew ?_ | refine blk_alloc ?_ _)); refine blk_put (cs := #[.int .i64 t315, .int .i64 t316, .int .i64 0, .int .i64 0]) ?_ 2 _ rfl; (with_reducible repeat (first | refine blk_drewN ?_ _ | refine blk_drew ?_ | refine blk_alloc ?_ _)); refine blk_put (cs := #[.int .i64 t315, .int .i64 0, .int .i64 0, .int .i64 0]) ?_ 1 _ rfl; (with_reducible repeat (first | refine blk_drewN ?_ _ | refine blk_drew ?_ | refine blk_alloc ?_ _)); refine blk_put (cs := #[.int .i64 0, .int .i64 0, .int .i64 0, .int .i64 0]) ?_ 0 _ rfl; (with_reducible repeat (first | refine blk_drewN ?_ _ | refine blk_drew ?_ | refine blk_alloc ?_ _)); exact BK328.out) NB328_289.out (by simp)); have n3_ := Aside0.mk (hb); have n4_ := Aside0.mk (hi); clear BK279; clear BK305; clear BK328; clear HB; clear HI289; have BK279 := n0_; have BK305 := n1_; have BK328 := n2_; have HB := n3_; have HI289 := n4_; clear n0_ n1_ n2_ n3_ n4_; (try clear hb); (try clear hb2); (try clear hk); (try clear hi)))
                            go_meet
                            case rel => exact ⟨_, ((t329 != 0)), (t306), (t307), (t308), (t309), (t310), (t311), (t312), (t313), (t314), (by first | rfl | (simp; done) | (simp [*]; done)), H', ⟨by have := HK1.out; have := HJ15.out; first | omega | exact Nat.le_refl _⟩, ⟨by (with_reducible repeat (first | refine blk_drewN ?_ _ | refine blk_drew ?_ | refine blk_alloc ?_ _)); exact BK279.out⟩, ⟨by (with_reducible repeat (first | refine blk_drewN ?_ _ | refine blk_drew ?_ | refine blk_alloc ?_ _)); exact BK305.out⟩, ⟨by (with_reducible repeat (first | refine blk_drewN ?_ _ | refine blk_drew ?_ | refine blk_alloc ?_ _)); exact BK328.out⟩, ⟨by repeat (first | (with_reducible first | exact HI289.out | apply IsS61.alloc | apply IsS61.drewN | apply IsS61.drew | apply IsS61.set_0 | apply IsS61.set_1 | apply IsS61.set_2 | apply IsS61.set_3 | apply IsS61.set_4 | apply IsS61.set_5 | apply IsS61.set_6 | apply IsS61.set_7 | apply IsS61.set_8 | apply IsS61.farb NB289_279.out | apply IsS61.farb NB289_305.out | apply IsS61.farb NB289_328.out) | exact HI289.out)⟩, ⟨by repeat (first | (with_reducible first | exact HB.out | apply below_alloc | apply pw_below_drewN | apply below_drew1 | refine below_set ?_ (IsS61.ge HI289.out) | refine below_set ?_ GE279.out | refine below_set ?_ GE305.out | refine below_set ?_ GE328.out) | exact HB.out)⟩⟩
                  case rest =>
                    clear HC30
                    try clear c1
                    try clear c2
                    try clear p2
                    try clear q2
                    try clear c3
                    try clear c3b0
                    try clear c3b1
                    try clear p3
                    try clear q3
                    try clear hx3
                    try clear c4
                    try clear c5
                    try clear c6
                    try clear p6
                    try clear c7
                    try clear c9
                    try clear c10
                    try clear c14
                    try clear c14b0
                    try clear c15
                    try clear c15b0
                    try clear c17
                    try clear c20
                    try clear c21
                    try clear q23
                    try clear c24
                    try clear c25
                    try clear c26
                    try clear p30
                    try clear q30
                    try clear hx30
                    try clear c31
                    try clear c32
                    try clear c34
                    try clear c39
                    try clear c40
                    try clear c41
                    try clear c43
                    try clear c43b0
                    try clear c44
                    try clear c45
                    try clear c46
                    try clear c48
                    try clear c48b0
                    try clear c49
                    try clear c50
                    try clear c51
                    try clear c53
                    try clear c53b0
                    try clear c54
                    try clear c55
                    try clear c56
                    try clear c58
                    try clear c58b0
                    try clear c59
                    try clear c60
                    try clear c61
                    try clear c64
                    try clear p64
                    try clear c65
                    try clear c66
                    try clear hcz10_0
                    try clear hcz12_0
                    try clear hcz18_0
                    try clear hcz22_0
                    try clear hcz27_0
                    try clear hcz33_0
                    try clear hcz35_0
                    try clear hcz42_0
                    try clear hcz47_0
                    try clear hcz52_0
                    try clear hcz57_0
                    try clear hcz62_0
                    try clear hcz67_0
                    try clear hfz10_0
                    try clear hfz12_0
                    try clear hfz18_0
                    try clear hfz22_0
                    try clear hfz27_0
                    try clear hfz33_0
                    try clear hfz35_0
                    try clear hfz42_0
                    try clear hfz47_0
                    try clear hfz52_0
                    try clear hfz57_0
                    try clear hfz62_0
                    try clear hfz67_0
                    try clear hx304_0
                    try clear hx304_1
                    try clear hx304_2
                    try clear hx304_3
                    try clear hx304_4
                    try clear hx304_5
                    try clear hx304_6
                    try clear p2
                    try clear p3
                    try clear p304
                    try clear p6
                    try clear q2
                    try clear q23
                    try clear q3
                    try clear q304
                    obtain ⟨kq, x120_29, x290000_29, x290001_29, x290002_29, x290003_29, x290004_29, x290005_29, x290006_29, x290007_29, x290008_29, rfl, HA, HJ29, BK279, BK305, BK328, HI289, HB⟩ := hcut
                    cases kq with
                    | zero => exact absurd HA.out (by simp [windhoverlaw13_EstHolds.j2])
                    | succ kj29 =>
                      have H := HA.out
                      clear HA
                      simp only [windhoverlaw13_EstHolds.j2] at H
                      by_cases c69 : x120_29 = true
                      · subst c69
                        have H1 : (none) = some r := by rw [if_pos rfl] at H; exact H
                        clear H
                        have H := H1
                        clear H1
                        exact absurd H (by simp)
                      · replace c69 := Bool.eq_false_iff.mpr c69
                        subst c69
                        have H1 : (if ((rd_T35 l0_5 x7_1).f5) = true then (if (wrap64 (t316 - t315)) > (wrap64 (2 * a0_3)) then (none) else (if ((rd_T35 l0_5 x7_1).f6) = true then (if (wrap64 (t318 - t317)) > (wrap64 (2 * a0_4)) then (none) else (windhoverlaw13_EstHolds.l0 kj29 x5_15 x6_15 (wrap64 (x7_1 + 1)) a0_0 a0_1 a0_2 a0_3 a0_4 l0_5 x290000_29 x290001_29 x290002_29 x290003_29 x290004_29 x290005_29 x290006_29 x290007_29 x290008_29)) else (windhoverlaw13_EstHolds.l0 kj29 x5_15 x6_15 (wrap64 (x7_1 + 1)) a0_0 a0_1 a0_2 a0_3 a0_4 l0_5 x290000_29 x290001_29 x290002_29 x290003_29 x290004_29 x290005_29 x290006_29 x290007_29 x290008_29))) else (if ((rd_T35 l0_5 x7_1).f6) = true then (if (wrap64 (t318 - t317)) > (wrap64 (2 * a0_4)) then (none) else (windhoverlaw13_EstHolds.l0 kj29 x5_15 x6_15 (wrap64 (x7_1 + 1)) a0_0 a0_1 a0_2 a0_3 a0_4 l0_5 x290000_29 x290001_29 x290002_29 x290003_29 x290004_29 x290005_29 x290006_29 x290007_29 x290008_29)) else (windhoverlaw13_EstHolds.l0 kj29 x5_15 x6_15 (wrap64 (x7_1 + 1)) a0_0 a0_1 a0_2 a0_3 a0_4 l0_5 x290000_29 x290001_29 x290002_29 x290003_29 x290004_29 x290005_29 x290006_29 x290007_29 x290008_29))) = some r := by rw [if_neg (show ¬ (false = true) by decide)] at H; exact H
                        clear H
                        have H := H1
                        clear H1
                        by_cases c70 : ((rd_T35 l0_5 x7_1).f5) = true
                        · rw [if_pos c70] at H
                          have c70b0 : ((rd_T35 l0_5 x7_1).f5) = true := c70
                          clear c70
                          by_cases c71 : (wrap64 (t316 - t315)) > (wrap64 (2 * a0_3))
                          · rw [if_pos c71] at H
                            exact absurd H (by simp)
                          · rw [if_neg c71] at H
                            have c71b0 : decide ((wrap64 (2 * a0_3)) < (wrap64 (t316 - t315))) = false := decide_eq_false c71
                            clear c71
                            by_cases c72 : ((rd_T35 l0_5 x7_1).f6) = true
                            · rw [if_pos c72] at H
                              have c72b0 : ((rd_T35 l0_5 x7_1).f6) = true := c72
                              clear c72
                              by_cases c73 : (wrap64 (t318 - t317)) > (wrap64 (2 * a0_4))
                              · rw [if_pos c73] at H
                                exact absurd H (by simp)
                              · rw [if_neg c73] at H
                                have c73b0 : decide ((wrap64 (2 * a0_4)) < (wrap64 (t318 - t317))) = false := decide_eq_false c73
                                clear c73
                                have H' := Aside0.mk H
                                clear H
                                have hnb74 := NB305_279.out
                                have hnc74 := NB279_305.out
                                have hnb75 := NB305_328.out
                                have hnc75 := NB328_305.out
                                have hnb76 := NB305_289.out
                                have hnc76 := NB289_305.out
                                have hcz77_0 := blk_cells7 (w := wc) (g := gb305) BK305.out
                                have hfz77_0 := blk_frozen BK305.out
                                have hnb78 := NB328_279.out
                                have hnc78 := NB279_328.out
                                have hnb79 := NB328_289.out
                                have hnc79 := NB289_328.out
                                have hcz80_0 := blk_cells4 (w := wc) (g := gb328) BK328.out
                                have hfz80_0 := blk_frozen BK328.out
                                have hnb81 := NB279_289.out
                                have hnc81 := NB289_279.out
                                have hcz82_0 := blk_cells6 (w := wc) (g := gb279) BK279.out
                                have hfz82_0 := blk_frozen BK279.out
                                go_wp2
                                go_roundg kj29
                                case measure => have := HK1.out; have := HJ15.out; have := HJ29.out; omega
                                case rel => exact ⟨(x5_15), (x6_15), (wrap64 (x7_1 + 1)), (x290000_29), (x290001_29), (x290002_29), (x290003_29), (x290004_29), (x290005_29), (x290006_29), (x290007_29), (x290008_29), (by first | rfl | (simp; done) | (simp [*]; done)), (by first | rfl | (simp; done) | (simp [*]; done)), (by first | rfl | (simp; done) | (simp [*]; done)), H', ⟨by have := HK1.out; have := HJ15.out; have := HJ29.out; omega⟩, ⟨by (with_reducible repeat (first | refine blk_drewN ?_ _ | refine blk_drew ?_ | refine blk_alloc ?_ _)); exact BK279.out⟩, ⟨by repeat (first | (with_reducible first | exact HI289.out | apply IsS61.alloc | apply IsS61.drewN | apply IsS61.drew | apply IsS61.set_0 | apply IsS61.set_1 | apply IsS61.set_2 | apply IsS61.set_3 | apply IsS61.set_4 | apply IsS61.set_5 | apply IsS61.set_6 | apply IsS61.set_7 | apply IsS61.set_8 | apply IsS61.farb NB289_279.out | apply IsS61.farb NB289_305.out | apply IsS61.farb NB289_328.out) | exact HI289.out)⟩, ⟨by repeat (first | (with_reducible first | exact HB.out | apply below_alloc | apply pw_below_drewN | apply below_drew1 | refine below_set ?_ (IsS61.ge HI289.out) | refine below_set ?_ GE279.out | refine below_set ?_ GE305.out | refine below_set ?_ GE328.out) | exact HB.out)⟩⟩
                            · rw [if_neg c72] at H
                              have c72b0 : ((rd_T35 l0_5 x7_1).f6) = false := by simpa using c72
                              clear c72
                              have H' := Aside0.mk H
                              clear H
                              have hnb83 := NB305_279.out
                              have hnc83 := NB279_305.out
                              have hnb84 := NB305_328.out
                              have hnc84 := NB328_305.out
                              have hnb85 := NB305_289.out
                              have hnc85 := NB289_305.out
                              have hcz86_0 := blk_cells7 (w := wc) (g := gb305) BK305.out
                              have hfz86_0 := blk_frozen BK305.out
                              have hnb87 := NB328_279.out
                              have hnc87 := NB279_328.out
                              have hnb88 := NB328_289.out
                              have hnc88 := NB289_328.out
                              have hcz89_0 := blk_cells4 (w := wc) (g := gb328) BK328.out
                              have hfz89_0 := blk_frozen BK328.out
                              have hnb90 := NB279_289.out
                              have hnc90 := NB289_279.out
                              have hcz91_0 := blk_cells6 (w := wc) (g := gb279) BK279.out
                              have hfz91_0 := blk_frozen BK279.out
                              go_wp2
                              go_roundg kj29
                              case measure => have := HK1.out; have := HJ15.out; have := HJ29.out; omega
                              case rel => exact ⟨(x5_15), (x6_15), (wrap64 (x7_1 + 1)), (x290000_29), (x290001_29), (x290002_29), (x290003_29), (x290004_29), (x290005_29), (x290006_29), (x290007_29), (x290008_29), (by first | rfl | (simp; done) | (simp [*]; done)), (by first | rfl | (simp; done) | (simp [*]; done)), (by first | rfl | (simp; done) | (simp [*]; done)), H', ⟨by have := HK1.out; have := HJ15.out; have := HJ29.out; omega⟩, ⟨by (with_reducible repeat (first | refine blk_drewN ?_ _ | refine blk_drew ?_ | refine blk_alloc ?_ _)); exact BK279.out⟩, ⟨by repeat (first | (with_reducible first | exact HI289.out | apply IsS61.alloc | apply IsS61.drewN | apply IsS61.drew | apply IsS61.set_0 | apply IsS61.set_1 | apply IsS61.set_2 | apply IsS61.set_3 | apply IsS61.set_4 | apply IsS61.set_5 | apply IsS61.set_6 | apply IsS61.set_7 | apply IsS61.set_8 | apply IsS61.farb NB289_279.out | apply IsS61.farb NB289_305.out | apply IsS61.farb NB289_328.out) | exact HI289.out)⟩, ⟨by repeat (first | (with_reducible first | exact HB.out | apply below_alloc | apply pw_below_drewN | apply below_drew1 | refine below_set ?_ (IsS61.ge HI289.out) | refine below_set ?_ GE279.out | refine below_set ?_ GE305.out | refine below_set ?_ GE328.out) | exact HB.out)⟩⟩
                        · rw [if_neg c70] at H
                          have c70b0 : ((rd_T35 l0_5 x7_1).f5) = false := by simpa using c70
                          clear c70
                          by_cases c92 : ((rd_T35 l0_5 x7_1).f6) = true
                          · rw [if_pos c92] at H
                            have c92b0 : ((rd_T35 l0_5 x7_1).f6) = true := c92
                            clear c92
                            by_cases c93 : (wrap64 (t318 - t317)) > (wrap64 (2 * a0_4))
                            · rw [if_pos c93] at H
                              exact absurd H (by simp)
                            · rw [if_neg c93] at H
                              have c93b0 : decide ((wrap64 (2 * a0_4)) < (wrap64 (t318 - t317))) = false := decide_eq_false c93
                              clear c93
                              have H' := Aside0.mk H
                              clear H
                              have hnb94 := NB305_279.out
                              have hnc94 := NB279_305.out
                              have hnb95 := NB305_328.out
                              have hnc95 := NB328_305.out
                              have hnb96 := NB305_289.out
                              have hnc96 := NB289_305.out
                              have hcz97_0 := blk_cells7 (w := wc) (g := gb305) BK305.out
                              have hfz97_0 := blk_frozen BK305.out
                              have hnb98 := NB328_279.out
                              have hnc98 := NB279_328.out
                              have hnb99 := NB328_289.out
                              have hnc99 := NB289_328.out
                              have hcz100_0 := blk_cells4 (w := wc) (g := gb328) BK328.out
                              have hfz100_0 := blk_frozen BK328.out
                              have hnb101 := NB279_289.out
                              have hnc101 := NB289_279.out
                              have hcz102_0 := blk_cells6 (w := wc) (g := gb279) BK279.out
                              have hfz102_0 := blk_frozen BK279.out
                              go_wp2
                              go_roundg kj29
                              case measure => have := HK1.out; have := HJ15.out; have := HJ29.out; omega
                              case rel => exact ⟨(x5_15), (x6_15), (wrap64 (x7_1 + 1)), (x290000_29), (x290001_29), (x290002_29), (x290003_29), (x290004_29), (x290005_29), (x290006_29), (x290007_29), (x290008_29), (by first | rfl | (simp; done) | (simp [*]; done)), (by first | rfl | (simp; done) | (simp [*]; done)), (by first | rfl | (simp; done) | (simp [*]; done)), H', ⟨by have := HK1.out; have := HJ15.out; have := HJ29.out; omega⟩, ⟨by (with_reducible repeat (first | refine blk_drewN ?_ _ | refine blk_drew ?_ | refine blk_alloc ?_ _)); exact BK279.out⟩, ⟨by repeat (first | (with_reducible first | exact HI289.out | apply IsS61.alloc | apply IsS61.drewN | apply IsS61.drew | apply IsS61.set_0 | apply IsS61.set_1 | apply IsS61.set_2 | apply IsS61.set_3 | apply IsS61.set_4 | apply IsS61.set_5 | apply IsS61.set_6 | apply IsS61.set_7 | apply IsS61.set_8 | apply IsS61.farb NB289_279.out | apply IsS61.farb NB289_305.out | apply IsS61.farb NB289_328.out) | exact HI289.out)⟩, ⟨by repeat (first | (with_reducible first | exact HB.out | apply below_alloc | apply pw_below_drewN | apply below_drew1 | refine below_set ?_ (IsS61.ge HI289.out) | refine below_set ?_ GE279.out | refine below_set ?_ GE305.out | refine below_set ?_ GE328.out) | exact HB.out)⟩⟩
                          · rw [if_neg c92] at H
                            have c92b0 : ((rd_T35 l0_5 x7_1).f6) = false := by simpa using c92
                            clear c92
                            have H' := Aside0.mk H
                            clear H
                            have hnb103 := NB305_279.out
                            have hnc103 := NB279_305.out
                            have hnb104 := NB305_328.out
                            have hnc104 := NB328_305.out
                            have hnb105 := NB305_289.out
                            have hnc105 := NB289_305.out
                            have hcz106_0 := blk_cells7 (w := wc) (g := gb305) BK305.out
                            have hfz106_0 := blk_frozen BK305.out
                            go_wp2
                            go_roundg kj29
                            case measure => have := HK1.out; have := HJ15.out; have := HJ29.out; omega
                            case rel => exact ⟨(x5_15), (x6_15), (wrap64 (x7_1 + 1)), (x290000_29), (x290001_29), (x290002_29), (x290003_29), (x290004_29), (x290005_29), (x290006_29), (x290007_29), (x290008_29), (by first | rfl | (simp; done) | (simp [*]; done)), (by first | rfl | (simp; done) | (simp [*]; done)), (by first | rfl | (simp; done) | (simp [*]; done)), H', ⟨by have := HK1.out; have := HJ15.out; have := HJ29.out; omega⟩, ⟨by (with_reducible repeat (first | refine blk_drewN ?_ _ | refine blk_drew ?_ | refine blk_alloc ?_ _)); exact BK279.out⟩, ⟨by repeat (first | (with_reducible first | exact HI289.out | apply IsS61.alloc | apply IsS61.drewN | apply IsS61.drew | apply IsS61.set_0 | apply IsS61.set_1 | apply IsS61.set_2 | apply IsS61.set_3 | apply IsS61.set_4 | apply IsS61.set_5 | apply IsS61.set_6 | apply IsS61.set_7 | apply IsS61.set_8 | apply IsS61.farb NB289_279.out | apply IsS61.farb NB289_305.out | apply IsS61.farb NB289_328.out) | exact HI289.out)⟩, ⟨by repeat (first | (with_reducible first | exact HB.out | apply below_alloc | apply pw_below_drewN | apply below_drew1 | refine below_set ?_ (IsS61.ge HI289.out) | refine below_set ?_ GE279.out | refine below_set ?_ GE305.out | refine below_set ?_ GE328.out) | exact HB.out)⟩⟩
            · rw [if_neg c15] at H
              exact absurd H (by simp)
          · rw [if_neg c14] at H
            have c14b0 : decide (x7_1 < (l0_5.length : Int)) = false := decide_eq_false c14
            clear c14
            replace H := Option.bind_eq_some_iff.mp H
            obtain ⟨t303, A1070, H⟩ := H
            replace H : (some t303) = some r := H
            have A107 := Aside0.mk A1070
            clear A1070
            obtain rfl := Option.some.inj H
            have hnb108 := NB279_289.out
            have hnc108 := NB289_279.out
            have hcz109_0 := blk_cells6 (w := wr) (g := gb279) BK279.out
            have hfz109_0 := blk_frozen BK279.out
            go_wp2_with (first | ((with_reducible refine gate_callee (f := 8) rfl ?_); refine goesL_ (some 153) rfl rfl Try.func8 (by kernel_rfl) rfl #[] rfl (by (try simp only [List.map_toArray, List.map_cons, List.map_nil]); first | done | rfl | (simp only [List.length_drop, List.length_take]; rfl)) ?_; (with_reducible refine (windhoverlaw13_awake.calls k1  t303 _ A107.out).mono ?_); rintro e w110 ⟨rfl, hb⟩; refine ⟨_, rfl, ?_⟩; have n0_ := Aside0.mk (blk_below (g := gb279) (o := .cells #[.int .i64 a0_0, .int .i64 a0_1, .int .i64 a0_2, .int .i64 a0_3, .int .i64 a0_4, .slice A0_5 l0_5.length c0_5] 24 (0, 0)) (by (with_reducible repeat (first | refine blk_drewN ?_ _ | refine blk_drew ?_ | refine blk_alloc ?_ _)); exact BK279.out) hb); have n1_ := Aside0.mk (IsS61.below (by repeat (first | (with_reducible first | exact HI289.out | apply IsS61.alloc | apply IsS61.drewN | apply IsS61.drew | apply IsS61.set_0 | apply IsS61.set_1 | apply IsS61.set_2 | apply IsS61.set_3 | apply IsS61.set_4 | apply IsS61.set_5 | apply IsS61.set_6 | apply IsS61.set_7 | apply IsS61.set_8 | apply IsS61.farb NB289_279.out) | exact HI289.out)) hb); have n2_ := Aside0.mk (below_step (by repeat (first | (with_reducible first | exact HB.out | apply below_alloc | apply pw_below_drewN | apply below_drew1 | refine below_set ?_ (IsS61.ge HI289.out) | refine below_set ?_ GE279.out) | exact HB.out)) hb); clear BK279; clear HI289; clear HB; have BK279 := n0_; have HI289 := n1_; have HB := n2_; clear n0_ n1_ n2_; (try clear hb); (try clear hb2); (try clear hk); (try clear hi)))
            go_ret
            exact ⟨by first | rfl | (simp [errW_none, errW_some] <;> rfl) | (simp [*, errW_none, errW_some] <;> rfl), by repeat (first | (with_reducible first | exact HB.out | apply below_alloc | apply pw_below_drewN | apply below_drew1 | refine below_set ?_ (IsS61.ge HI289.out) | refine below_set ?_ GE279.out) | exact HB.out)⟩
    · replace c5 := Bool.eq_false_iff.mpr c5
      subst c5
      have H1 : ((windhoverlaw13_awake.f k).bind fun t293 => (some t293)) = some r := by rw [if_neg (show ¬ (false = true) by decide)] at H; exact H
      clear H
      have H := H1
      clear H1
      replace H := Option.bind_eq_some_iff.mp H
      obtain ⟨t293, A1110, H⟩ := H
      replace H : (some t293) = some r := H
      have A111 := Aside0.mk A1110
      clear A1110
      obtain rfl := Option.some.inj H
      go_enter Try.func3, Try.ntmps3
      go_wp2_with (first | ((with_reducible refine gate_dst (N := 1) rfl ?_); refine box_event ?hg (N := 1) ?hd (cs := #[.int .i64 a0_0, .int .i64 a0_1, .int .i64 a0_2, .int .i64 a0_3, .int .i64 a0_4, .slice A0_5 l0_5.length c0_5]) (t := 24) ?hr ?_; (case hd => rfl); (case hg => rfl); (case hr => first | (go_simp; done) | (go_simp; rfl)); intro gb279 hg w112 hbox hb; have n0_ := Aside0.mk (below_step (by repeat (first | (with_reducible first | exact HB.out | apply below_alloc | apply pw_below_drewN | apply below_drew1) | exact HB.out)) hb); have n1_ := Aside0.mk (hbox); have n2_ := Aside0.mk ((by rw [hg]; exact (below_size (by repeat (first | (with_reducible first | exact HB.out | apply below_alloc | apply pw_below_drewN | apply below_drew1) | exact HB.out))) : w.heap.size ≤ gb279)); have n3_ := Aside0.mk ((by rw [hg]; exact (below_size (by repeat (first | (with_reducible first | exact HB.out | apply below_alloc | apply pw_below_drewN | apply below_drew1) | exact HB.out))) : w.heap.size ≤ gb279)); clear HB; have HB := n0_; have BK279 := n1_; have GW279 := n2_; have GE279 := n3_; clear n0_ n1_ n2_ n3_; clear hb hbox hg) | ((with_reducible refine gate_callee (f := 6) rfl ?_); refine goesL_ (some 11) rfl rfl Try.func6 (by kernel_rfl) rfl #[.int .i64 3] rfl (by (try simp only [List.map_toArray, List.map_cons, List.map_nil]); first | done | rfl | (simp only [List.length_drop, List.length_take]; rfl)) ?_; (with_reducible refine (est_New.callsNew 3 t280 t281 t282 t283 t284 t285 t286 t287 t288 t290 w _ ?side1 A2.out (by assumption)).mono ?_); (case side1 => repeat (first | (with_reducible first | exact HB.out | apply below_alloc | apply pw_below_drewN | apply below_drew1 | refine below_set ?_ GE279.out) | exact HB.out)); rintro e w113 ⟨g289, rfl, hi, hb, hb2⟩; refine ⟨_, rfl, ?_⟩; have n0_ := Aside0.mk (blk_below (g := gb279) (o := .cells #[.int .i64 a0_0, .int .i64 a0_1, .int .i64 a0_2, .int .i64 a0_3, .int .i64 a0_4, .slice A0_5 l0_5.length c0_5] 24 (0, 0)) (by (with_reducible repeat (first | refine blk_drewN ?_ _ | refine blk_drew ?_ | refine blk_alloc ?_ _)); exact BK279.out) hb2); have n1_ := Aside0.mk (hb); have n2_ := Aside0.mk (hi); have n3_ := Aside0.mk (IsS61.ne_blk hi (blk_below (g := gb279) (o := .cells #[.int .i64 a0_0, .int .i64 a0_1, .int .i64 a0_2, .int .i64 a0_3, .int .i64 a0_4, .slice A0_5 l0_5.length c0_5] 24 (0, 0)) (by (with_reducible repeat (first | refine blk_drewN ?_ _ | refine blk_drew ?_ | refine blk_alloc ?_ _)); exact BK279.out) hb2) (by decide)); have n4_ := Aside0.mk (Ne.symm (IsS61.ne_blk hi (blk_below (g := gb279) (o := .cells #[.int .i64 a0_0, .int .i64 a0_1, .int .i64 a0_2, .int .i64 a0_3, .int .i64 a0_4, .slice A0_5 l0_5.length c0_5] 24 (0, 0)) (by (with_reducible repeat (first | refine blk_drewN ?_ _ | refine blk_drew ?_ | refine blk_alloc ?_ _)); exact BK279.out) hb2) (by decide))); clear BK279; clear HB; have BK279 := n0_; have HB := n1_; have HI289 := n2_; have NB289_279 := n3_; have NB279_289 := n4_; clear n0_ n1_ n2_ n3_ n4_; (try clear hb); (try clear hb2); (try clear hk); (try clear hi); have hnb114 := NB279_289.out; have hnc114 := NB289_279.out; have hcz115_0 := blk_cells6 (w := w113) (g := gb279) BK279.out; have hfz115_0 := blk_frozen BK279.out) | ((with_reducible refine gate_callee (f := 7) rfl ?_); refine goesL_ (some 21) rfl rfl Try.func7 (by kernel_rfl) rfl #[.agg #[.int .i64 a0_0, .int .i64 a0_1, .int .i64 a0_2, .int .i64 a0_3, .int .i64 a0_4, .slice A0_5 l0_5.length c0_5]] rfl (by (try simp only [List.map_toArray, List.map_cons, List.map_nil]); first | done | rfl | (simp only [List.length_drop, List.length_take]; rfl)) ?_; (with_reducible refine (windhoverlaw13_within.calls k a0_0 a0_1 a0_2 a0_3 a0_4 _ _ l0_5 false _ ?side1 ?side2 A4.out).mono ?_); (case side1 => repeat (first | exact (Kd.C_below HR0_5.out HB.out) | (with_reducible refine Kd.C_alloc ?_ _) | (with_reducible refine Kd.C_drewN ?_ _) | (with_reducible refine Kd.C_drew ?_))); (case side2 => exact HC0_5.out); rintro e w116 ⟨rfl, hb⟩; refine ⟨_, rfl, ?_⟩; have n0_ := Aside0.mk (blk_below (g := gb279) (o := .cells #[.int .i64 a0_0, .int .i64 a0_1, .int .i64 a0_2, .int .i64 a0_3, .int .i64 a0_4, .slice A0_5 l0_5.length c0_5] 24 (0, 0)) (by (with_reducible repeat (first | refine blk_drewN ?_ _ | refine blk_drew ?_ | refine blk_alloc ?_ _)); exact BK279.out) hb); have n1_ := Aside0.mk (IsS61.below (by repeat (first | (with_reducible first | exact HI289.out | apply IsS61.alloc | apply IsS61.drewN | apply IsS61.drew | apply IsS61.set_0 | apply IsS61.set_1 | apply IsS61.set_2 | apply IsS61.set_3 | apply IsS61.set_4 | apply IsS61.set_5 | apply IsS61.set_6 | apply IsS61.set_7 | apply IsS61.set_8 | apply IsS61.farb NB289_279.out) | exact HI289.out)) hb); have n2_ := Aside0.mk (below_step (by repeat (first | (with_reducible first | exact HB.out | apply below_alloc | apply pw_below_drewN | apply below_drew1 | refine below_set ?_ (IsS61.ge HI289.out) | refine below_set ?_ GE279.out) | exact HB.out)) hb); clear BK279; clear HI289; clear HB; have BK279 := n0_; have HI289 := n1_; have HB := n2_; clear n0_ n1_ n2_; (try clear hb); (try clear hb2); (try clear hk); (try clear hi)) | ((with_reducible refine gate_callee (f := 8) rfl ?_); refine goesL_ (some 23) rfl rfl Try.func8 (by kernel_rfl) rfl #[] rfl (by (try simp only [List.map_toArray, List.map_cons, List.map_nil]); first | done | rfl | (simp only [List.length_drop, List.length_take]; rfl)) ?_; (with_reducible refine (windhoverlaw13_awake.calls k  t293 _ A111.out).mono ?_); rintro e w117 ⟨rfl, hb⟩; refine ⟨_, rfl, ?_⟩; have n0_ := Aside0.mk (blk_below (g := gb279) (o := .cells #[.int .i64 a0_0, .int .i64 a0_1, .int .i64 a0_2, .int .i64 a0_3, .int .i64 a0_4, .slice A0_5 l0_5.length c0_5] 24 (0, 0)) (by (with_reducible repeat (first | refine blk_drewN ?_ _ | refine blk_drew ?_ | refine blk_alloc ?_ _)); exact BK279.out) hb); have n1_ := Aside0.mk (IsS61.below (by repeat (first | (with_reducible first | exact HI289.out | apply IsS61.alloc | apply IsS61.drewN | apply IsS61.drew | apply IsS61.set_0 | apply IsS61.set_1 | apply IsS61.set_2 | apply IsS61.set_3 | apply IsS61.set_4 | apply IsS61.set_5 | apply IsS61.set_6 | apply IsS61.set_7 | apply IsS61.set_8 | apply IsS61.farb NB289_279.out) | exact HI289.out)) hb); have n2_ := Aside0.mk (below_step (by repeat (first | (with_reducible first | exact HB.out | apply below_alloc | apply pw_below_drewN | apply below_drew1 | refine below_set ?_ (IsS61.ge HI289.out) | refine below_set ?_ GE279.out) | exact HB.out)) hb); clear BK279; clear HI289; clear HB; have BK279 := n0_; have HI289 := n1_; have HB := n2_; clear n0_ n1_ n2_; (try clear hb); (try clear hb2); (try clear hk); (try clear hi)))
      go_ret
      exact ⟨by first | rfl | (simp [errW_none, errW_some] <;> rfl) | (simp [*, errW_none, errW_some] <;> rfl), by repeat (first | (with_reducible first | exact HB.out | apply below_alloc | apply pw_below_drewN | apply below_drew1 | refine below_set ?_ (IsS61.ge HI289.out) | refine below_set ?_ GE279.out) | exact HB.out)⟩
  · rw [if_neg c3] at H
    have c3b0 : (t290 == 0) = false := beq_eq_false_iff_ne.mpr c3
    have c3b1 : (t290 != 0) = true := bne_iff_ne.mpr c3
    exact absurd H (by simp)

/-- THE ONE PURE STATEMENT of windhoverlaw13_EstHolds: yours. -/
def windhoverlaw13_EstHolds.Pure : Prop := ∀ (a0_0 : Int) (a0_1 : Int) (a0_2 : Int) (a0_3 : Int) (a0_4 : Int) (l0_5 : List (S35)), ((Lit.int .i64 a0_0).wf = true) → ((Lit.int .i64 a0_1).wf = true) → ((Lit.int .i64 a0_2).wf = true) → ((Lit.int .i64 a0_3).wf = true) → ((Lit.int .i64 a0_4).wf = true) → (l0_5.length ≤ maxLen) → (∀ p_ ∈ l0_5, (Lit.int .i64 p_.f0).wf = true ∧ (Lit.int .i64 p_.f1).wf = true ∧ (Lit.int .i64 p_.f3).wf = true ∧ (Lit.int .i64 p_.f4).wf = true) → ∃ k, windhoverlaw13_EstHolds.f k a0_0 a0_1 a0_2 a0_3 a0_4 l0_5 = some true
theorem windhoverlaw13_EstHolds.walk (P : windhoverlaw13_EstHolds.Pure) (a0_0 : Int) (a0_1 : Int) (a0_2 : Int) (a0_3 : Int) (a0_4 : Int) (A0_5 : Option Addr) (c0_5 : Nat) (l0_5 : List (S35)) (w : World) (w0_0 : (Lit.int .i64 a0_0).wf = true) (w0_1 : (Lit.int .i64 a0_1).wf = true) (w0_2 : (Lit.int .i64 a0_2).wf = true) (w0_3 : (Lit.int .i64 a0_3).wf = true) (w0_4 : (Lit.int .i64 a0_4).wf = true) (m0_5 : l0_5.length ≤ maxLen) (w0_5 : ∀ p_ ∈ l0_5, (Lit.int .i64 p_.f0).wf = true ∧ (Lit.int .i64 p_.f1).wf = true ∧ (Lit.int .i64 p_.f3).wf = true ∧ (Lit.int .i64 p_.f4).wf = true) (hr0_5 : Kd.C k35 w A0_5 l0_5.length l0_5) (hc0_5 : l0_5.length ≤ c0_5) :
    Calls Try.prog 3 #[.agg #[.int .i64 a0_0, .int .i64 a0_1, .int .i64 a0_2, .int .i64 a0_3, .int .i64 a0_4, .slice A0_5 l0_5.length c0_5]] w fun e w' => e = .returned (.bool true) ∧ Below w.heap.size w w' := by
  obtain ⟨k, h⟩ := P a0_0 a0_1 a0_2 a0_3 a0_4 l0_5 w0_0 w0_1 w0_2 w0_3 w0_4 m0_5 w0_5
  refine (windhoverlaw13_EstHolds.calls k a0_0 a0_1 a0_2 a0_3 a0_4 A0_5 c0_5 l0_5 true w hr0_5 hc0_5 h).mono ?_
  rintro e w' ⟨rfl, hd⟩
  exact ⟨rfl, hd⟩

end Go.Proofs.Ytpfnonfehkiemaa.PEstHolds
