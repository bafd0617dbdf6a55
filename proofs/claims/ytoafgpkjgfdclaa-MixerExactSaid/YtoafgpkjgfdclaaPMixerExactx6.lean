-- WRITTEN BY wip/tools/aprint.py of this claim's repository over the kit's words: not typed by hand
import Derived.Test.YtoafgpkjgfdclaaPMixerExactx0
import Derived.Test.YtoafgpkjgfdclaaPMixerExactx2
import Derived.Test.YtoafgpkjgfdclaaPMixerExactx3
import Derived.Test.YtoafgpkjgfdclaaPMixerExactx4
import Derived.Test.YtoafgpkjgfdclaaPMixerExactx5
namespace Go.Proofs.Ytoafgpkjgfdclaa.PMixerExact
open Go.RowKit Go.Proofs.YtoafgpkjgfdclaaW.PrintWords Go.Proofs.YtoafgpkjgfdclaaW.PrintLast Go.Proofs.YtoafgpkjgfdclaaW.PrintMore
attribute [local go_sem] max2_int min2_int max_two min_two max_three min_three max_four min_four   -- for this text's walks alone
set_option linter.unusedVariables false
set_option linter.unusedSimpArgs false

attribute [local go_sem high] eqA24
/-! ### windhoverlaw16_MixerExact: function 4 -/
mutual
def windhoverlaw16_MixerExact.j0 : Nat → Int → Int → Bool → Int → Int → Int → Int → Int → Int → Int → Int → Int → Int → Int → Int → Option (Bool)
  | 0, _, _, _, _, _, _, _, _, _, _, _, _, _, _, _ => none
  | k + 1, x1, x6, x23, x198000, x198001, x198002, x198003, x208000, x208001, x208002, x208003, x208004, x208005, x208006, x208007 => if x23 = true then (if x6 = 1 then (if (x208000 == 0 && (x208001 == 0 && (x208002 == 0 && (x208003 == 0 && (x208004 == 0 && (x208005 == 0 && (x208006 == 0 && (x208007 == 0)))))))) = true then ((windhoverlaw16_awake.f k).bind fun t208 => (some t208)) else (none)) else (none)) else ((mixer_Limit.f x198000 x198001 x198002 x198003).bind fun bt209 => ((mixer_Work.f k x208000 x208001 x208002 x208003 x208004 x208005 x208006 x208007).bind fun bt214 => (windhoverlaw16_MixerExact.l0 k x1 x6 0 0 x208000 x208001 x208002 x208003 x208004 x208005 x208006 x208007 bt209.1 bt209.2.1 bt209.2.2.1 bt209.2.2.2 bt214.1 bt214.2.1 bt214.2.2.1 bt214.2.2.2)))
def windhoverlaw16_MixerExact.l0 : Nat → Int → Int → Int → Int → Int → Int → Int → Int → Int → Int → Int → Int → Int → Int → Int → Int → Int → Int → Int → Int → Option (Bool)
  | 0, _, _, _, _, _, _, _, _, _, _, _, _, _, _, _, _, _, _, _, _ => none
  | k + 1, x1, x6, x9, x10, x208000, x208001, x208002, x208003, x208004, x208005, x208006, x208007, x214000, x214001, x214002, x214003, x219000, x219001, x219002, x219003 => if x10 < 8 then (if x10 = 0 then (if x208000 < 0 then (none) else (if x208000 > 584 then (none) else (if x1 = 0 then (if x208000 < 50 then (none) else (if x208000 > 342 then (none) else (windhoverlaw16_MixerExact.l0 k x1 x6 (wrap64 (x9 + x208000)) 1 x208000 x208001 x208002 x208003 x208004 x208005 x208006 x208007 x214000 x214001 x214002 x214003 x219000 x219001 x219002 x219003))) else (windhoverlaw16_MixerExact.l0 k x1 x6 (wrap64 (x9 + x208000)) 1 x208000 x208001 x208002 x208003 x208004 x208005 x208006 x208007 x214000 x214001 x214002 x214003 x219000 x219001 x219002 x219003)))) else (if x10 = 1 then (if x208001 < 0 then (none) else (if x208001 > 584 then (none) else (if x1 = 0 then (if x208001 < 50 then (none) else (if x208001 > 342 then (none) else (windhoverlaw16_MixerExact.l0 k x1 x6 (wrap64 (x9 + x208001)) 2 x208000 x208001 x208002 x208003 x208004 x208005 x208006 x208007 x214000 x214001 x214002 x214003 x219000 x219001 x219002 x219003))) else (windhoverlaw16_MixerExact.l0 k x1 x6 (wrap64 (x9 + x208001)) 2 x208000 x208001 x208002 x208003 x208004 x208005 x208006 x208007 x214000 x214001 x214002 x214003 x219000 x219001 x219002 x219003)))) else (if x10 = 2 then (if x208002 < 0 then (none) else (if x208002 > 584 then (none) else (if x1 = 0 then (if x208002 < 50 then (none) else (if x208002 > 342 then (none) else (windhoverlaw16_MixerExact.l0 k x1 x6 (wrap64 (x9 + x208002)) 3 x208000 x208001 x208002 x208003 x208004 x208005 x208006 x208007 x214000 x214001 x214002 x214003 x219000 x219001 x219002 x219003))) else (windhoverlaw16_MixerExact.l0 k x1 x6 (wrap64 (x9 + x208002)) 3 x208000 x208001 x208002 x208003 x208004 x208005 x208006 x208007 x214000 x214001 x214002 x214003 x219000 x219001 x219002 x219003)))) else (if x10 = 3 then (if x208003 < 0 then (none) else (if x208003 > 584 then (none) else (if x1 = 0 then (if x208003 < 50 then (none) else (if x208003 > 342 then (none) else (windhoverlaw16_MixerExact.l0 k x1 x6 (wrap64 (x9 + x208003)) 4 x208000 x208001 x208002 x208003 x208004 x208005 x208006 x208007 x214000 x214001 x214002 x214003 x219000 x219001 x219002 x219003))) else (windhoverlaw16_MixerExact.l0 k x1 x6 (wrap64 (x9 + x208003)) 4 x208000 x208001 x208002 x208003 x208004 x208005 x208006 x208007 x214000 x214001 x214002 x214003 x219000 x219001 x219002 x219003)))) else (if x10 = 4 then (if x208004 < 0 then (none) else (if x208004 > 584 then (none) else (if x1 = 0 then (if x208004 < 50 then (none) else (if x208004 > 342 then (none) else (windhoverlaw16_MixerExact.l0 k x1 x6 (wrap64 (x9 + x208004)) 5 x208000 x208001 x208002 x208003 x208004 x208005 x208006 x208007 x214000 x214001 x214002 x214003 x219000 x219001 x219002 x219003))) else (windhoverlaw16_MixerExact.l0 k x1 x6 (wrap64 (x9 + x208004)) 5 x208000 x208001 x208002 x208003 x208004 x208005 x208006 x208007 x214000 x214001 x214002 x214003 x219000 x219001 x219002 x219003)))) else (if x10 = 5 then (if x208005 < 0 then (none) else (if x208005 > 584 then (none) else (if x1 = 0 then (if x208005 < 50 then (none) else (if x208005 > 342 then (none) else (windhoverlaw16_MixerExact.l0 k x1 x6 (wrap64 (x9 + x208005)) 6 x208000 x208001 x208002 x208003 x208004 x208005 x208006 x208007 x214000 x214001 x214002 x214003 x219000 x219001 x219002 x219003))) else (windhoverlaw16_MixerExact.l0 k x1 x6 (wrap64 (x9 + x208005)) 6 x208000 x208001 x208002 x208003 x208004 x208005 x208006 x208007 x214000 x214001 x214002 x214003 x219000 x219001 x219002 x219003)))) else (if x10 = 6 then (if x208006 < 0 then (none) else (if x208006 > 584 then (none) else (if x1 = 0 then (if x208006 < 50 then (none) else (if x208006 > 342 then (none) else (windhoverlaw16_MixerExact.l0 k x1 x6 (wrap64 (x9 + x208006)) 7 x208000 x208001 x208002 x208003 x208004 x208005 x208006 x208007 x214000 x214001 x214002 x214003 x219000 x219001 x219002 x219003))) else (windhoverlaw16_MixerExact.l0 k x1 x6 (wrap64 (x9 + x208006)) 7 x208000 x208001 x208002 x208003 x208004 x208005 x208006 x208007 x214000 x214001 x214002 x214003 x219000 x219001 x219002 x219003)))) else (if x10 = 7 then (if x208007 < 0 then (none) else (if x208007 > 584 then (none) else (if x1 = 0 then (if x208007 < 50 then (none) else (if x208007 > 342 then (none) else (windhoverlaw16_MixerExact.l0 k x1 x6 (wrap64 (x9 + x208007)) 8 x208000 x208001 x208002 x208003 x208004 x208005 x208006 x208007 x214000 x214001 x214002 x214003 x219000 x219001 x219002 x219003))) else (windhoverlaw16_MixerExact.l0 k x1 x6 (wrap64 (x9 + x208007)) 8 x208000 x208001 x208002 x208003 x208004 x208005 x208006 x208007 x214000 x214001 x214002 x214003 x219000 x219001 x219002 x219003)))) else (none))))))))) else (if x1 > 0 then (if x1 = 1 then (if x208000 = 0 then (if x9 = (wrap64 (4 * x214000)) then (if x6 = 0 then (if x219000 = x214000 then (if x219001 = x214001 then (if x219002 = x214002 then ((windhoverlaw16_awake.f k).bind fun t219 => (some t219)) else (none)) else (none)) else (none)) else (none)) else (none)) else (none)) else (if x1 = 2 then (if x208001 = 0 then (if x9 = (wrap64 (4 * x214000)) then (if x6 = 0 then (if x219000 = x214000 then (if x219001 = x214001 then (if x219002 = x214002 then ((windhoverlaw16_awake.f k).bind fun t220 => (some t220)) else (none)) else (none)) else (none)) else (none)) else (none)) else (none)) else (if x1 = 3 then (if x208002 = 0 then (if x9 = (wrap64 (4 * x214000)) then (if x6 = 0 then (if x219000 = x214000 then (if x219001 = x214001 then (if x219002 = x214002 then ((windhoverlaw16_awake.f k).bind fun t221 => (some t221)) else (none)) else (none)) else (none)) else (none)) else (none)) else (none)) else (if x1 = 4 then (if x208003 = 0 then (if x9 = (wrap64 (4 * x214000)) then (if x6 = 0 then (if x219000 = x214000 then (if x219001 = x214001 then (if x219002 = x214002 then ((windhoverlaw16_awake.f k).bind fun t222 => (some t222)) else (none)) else (none)) else (none)) else (none)) else (none)) else (none)) else (if x1 = 5 then (if x208004 = 0 then (if x9 = (wrap64 (4 * x214000)) then (if x6 = 0 then (if x219000 = x214000 then (if x219001 = x214001 then (if x219002 = x214002 then ((windhoverlaw16_awake.f k).bind fun t223 => (some t223)) else (none)) else (none)) else (none)) else (none)) else (none)) else (none)) else (if x1 = 6 then (if x208005 = 0 then (if x9 = (wrap64 (4 * x214000)) then (if x6 = 0 then (if x219000 = x214000 then (if x219001 = x214001 then (if x219002 = x214002 then ((windhoverlaw16_awake.f k).bind fun t224 => (some t224)) else (none)) else (none)) else (none)) else (none)) else (none)) else (none)) else (if x1 = 7 then (if x208006 = 0 then (if x9 = (wrap64 (4 * x214000)) then (if x6 = 0 then (if x219000 = x214000 then (if x219001 = x214001 then (if x219002 = x214002 then ((windhoverlaw16_awake.f k).bind fun t225 => (some t225)) else (none)) else (none)) else (none)) else (none)) else (none)) else (none)) else (if x1 = 8 then (if x208007 = 0 then (if x9 = (wrap64 (4 * x214000)) then (if x6 = 0 then (if x219000 = x214000 then (if x219001 = x214001 then (if x219002 = x214002 then ((windhoverlaw16_awake.f k).bind fun t226 => (some t226)) else (none)) else (none)) else (none)) else (none)) else (none)) else (none)) else (none))))))))) else (if x9 = (wrap64 (4 * x214000)) then (if x219003 = x214003 then (if x6 = 0 then (if x219000 = x214000 then (if x219001 = x214001 then (if x219002 = x214002 then ((windhoverlaw16_awake.f k).bind fun t227 => (some t227)) else (none)) else (none)) else (none)) else (none)) else (if x6 = 0 then (if x219000 = x214000 then (if x219001 = x214001 then (if x219002 = x214002 then (if x219003 = (wrap64 (x214003 - 1)) then ((windhoverlaw16_awake.f k).bind fun t228 => (some t228)) else (none)) else (none)) else (none)) else (none)) else (none))) else (none)))
end
def windhoverlaw16_MixerExact.f (k : Nat) (a0_0 : Int) (a0_1 : Int) (a0_2 : Int) (a0_3 : Int) (a1 : Int) : Option (Bool) := (mixer_Mix.f k a0_0 a0_1 a0_2 a0_3 a1).bind fun bt198 => (if a1 < 0 then (windhoverlaw16_MixerExact.j0 k a1 bt198.2.2.2.2.2.2.2.2 true a0_0 a0_1 a0_2 a0_3 bt198.1 bt198.2.1 bt198.2.2.1 bt198.2.2.2.1 bt198.2.2.2.2.1 bt198.2.2.2.2.2.1 bt198.2.2.2.2.2.2.1 bt198.2.2.2.2.2.2.2.1) else (windhoverlaw16_MixerExact.j0 k a1 bt198.2.2.2.2.2.2.2.2 (decide (a1 > 8)) a0_0 a0_1 a0_2 a0_3 bt198.1 bt198.2.1 bt198.2.2.1 bt198.2.2.2.1 bt198.2.2.2.2.1 bt198.2.2.2.2.2.1 bt198.2.2.2.2.2.2.1 bt198.2.2.2.2.2.2.2.1))
theorem windhoverlaw16_MixerExact.mono_l : ∀ k, (∀ y0 y1 y2 y3 y4 y5 y6 y7 y8 y9 y10 y11 y12 y13 y14, LeO (windhoverlaw16_MixerExact.j0 k y0 y1 y2 y3 y4 y5 y6 y7 y8 y9 y10 y11 y12 y13 y14) (windhoverlaw16_MixerExact.j0 (k + 1) y0 y1 y2 y3 y4 y5 y6 y7 y8 y9 y10 y11 y12 y13 y14)) ∧ (∀ y0 y1 y2 y3 y4 y5 y6 y7 y8 y9 y10 y11 y12 y13 y14 y15 y16 y17 y18 y19, LeO (windhoverlaw16_MixerExact.l0 k y0 y1 y2 y3 y4 y5 y6 y7 y8 y9 y10 y11 y12 y13 y14 y15 y16 y17 y18 y19) (windhoverlaw16_MixerExact.l0 (k + 1) y0 y1 y2 y3 y4 y5 y6 y7 y8 y9 y10 y11 y12 y13 y14 y15 y16 y17 y18 y19))
  | 0 => ⟨fun _ _ _ _ _ _ _ _ _ _ _ _ _ _ _ r h => by simp [windhoverlaw16_MixerExact.j0] at h, fun _ _ _ _ _ _ _ _ _ _ _ _ _ _ _ _ _ _ _ _ r h => by simp [windhoverlaw16_MixerExact.l0] at h⟩
  | k + 1 => by
    obtain ⟨ih0, ih1⟩ := windhoverlaw16_MixerExact.mono_l k
    refine ⟨?_, ?_⟩
    · intro y0 y1 y2 y3 y4 y5 y6 y7 y8 y9 y10 y11 y12 y13 y14
      unfold windhoverlaw16_MixerExact.j0
      repeat' first
      | (with_reducible exact ih0 _ _ _ _ _ _ _ _ _ _ _ _ _ _ _)
      | (with_reducible exact ih1 _ _ _ _ _ _ _ _ _ _ _ _ _ _ _ _ _ _ _ _)
      | (with_reducible exact mixer_Mix.mono _ _ _ _ _ _)
      | (with_reducible exact mixer_Work.mono _ _ _ _ _ _ _ _ _)
      | (with_reducible exact windhoverlaw16_awake.mono _)
      | (with_reducible exact LeO.refl _)
      | (with_reducible exact LeO.none _)
      | (with_reducible refine LeO.ite ?_ ?_)
      | (with_reducible refine LeO.bind ?_ (fun _ => ?_))
      | exact ih0 _ _ _ _ _ _ _ _ _ _ _ _ _ _ _
      | exact ih1 _ _ _ _ _ _ _ _ _ _ _ _ _ _ _ _ _ _ _ _
      | exact mixer_Mix.mono _ _ _ _ _ _
      | exact mixer_Work.mono _ _ _ _ _ _ _ _ _
      | exact windhoverlaw16_awake.mono _
      | exact LeO.none _
      | refine LeO.ite ?_ ?_
      | refine LeO.bind ?_ (fun _ => ?_)
    · intro y0 y1 y2 y3 y4 y5 y6 y7 y8 y9 y10 y11 y12 y13 y14 y15 y16 y17 y18 y19
      unfold windhoverlaw16_MixerExact.l0
      repeat' first
      | (with_reducible exact ih0 _ _ _ _ _ _ _ _ _ _ _ _ _ _ _)
      | (with_reducible exact ih1 _ _ _ _ _ _ _ _ _ _ _ _ _ _ _ _ _ _ _ _)
      | (with_reducible exact mixer_Mix.mono _ _ _ _ _ _)
      | (with_reducible exact mixer_Work.mono _ _ _ _ _ _ _ _ _)
      | (with_reducible exact windhoverlaw16_awake.mono _)
      | (with_reducible exact LeO.refl _)
      | (with_reducible exact LeO.none _)
      | (with_reducible refine LeO.ite ?_ ?_)
      | (with_reducible refine LeO.bind ?_ (fun _ => ?_))
      | exact ih0 _ _ _ _ _ _ _ _ _ _ _ _ _ _ _
      | exact ih1 _ _ _ _ _ _ _ _ _ _ _ _ _ _ _ _ _ _ _ _
      | exact mixer_Mix.mono _ _ _ _ _ _
      | exact mixer_Work.mono _ _ _ _ _ _ _ _ _
      | exact windhoverlaw16_awake.mono _
      | exact LeO.none _
      | refine LeO.ite ?_ ?_
      | refine LeO.bind ?_ (fun _ => ?_)
theorem windhoverlaw16_MixerExact.mono : ∀ a0 a1 a2 a3 a4 k, LeO (windhoverlaw16_MixerExact.f k a0 a1 a2 a3 a4) (windhoverlaw16_MixerExact.f (k + 1) a0 a1 a2 a3 a4) := by
  intro a0 a1 a2 a3 a4 k
  obtain ⟨ih0, ih1⟩ := windhoverlaw16_MixerExact.mono_l k
  unfold windhoverlaw16_MixerExact.f
  repeat' first
      | (with_reducible exact ih0 _ _ _ _ _ _ _ _ _ _ _ _ _ _ _)
      | (with_reducible exact ih1 _ _ _ _ _ _ _ _ _ _ _ _ _ _ _ _ _ _ _ _)
      | (with_reducible exact mixer_Mix.mono _ _ _ _ _ _)
      | (with_reducible exact mixer_Work.mono _ _ _ _ _ _ _ _ _)
      | (with_reducible exact windhoverlaw16_awake.mono _)
      | (with_reducible exact LeO.refl _)
      | (with_reducible exact LeO.none _)
      | (with_reducible refine LeO.ite ?_ ?_)
      | (with_reducible refine LeO.bind ?_ (fun _ => ?_))
      | exact ih0 _ _ _ _ _ _ _ _ _ _ _ _ _ _ _
      | exact ih1 _ _ _ _ _ _ _ _ _ _ _ _ _ _ _ _ _ _ _ _
      | exact mixer_Mix.mono _ _ _ _ _ _
      | exact mixer_Work.mono _ _ _ _ _ _ _ _ _
      | exact windhoverlaw16_awake.mono _
      | exact LeO.none _
      | refine LeO.ite ?_ ?_
      | refine LeO.bind ?_ (fun _ => ?_)
set_option maxHeartbeats 8000000 in
set_option maxRecDepth 100000 in
theorem windhoverlaw16_MixerExact.calls (k : Nat) (a0_0 : Int) (a0_1 : Int) (a0_2 : Int) (a0_3 : Int) (a1 : Int) (r : Bool) (w : World) (h : windhoverlaw16_MixerExact.f k a0_0 a0_1 a0_2 a0_3 a1 = some r) :
    Calls Try.prog 4 #[.agg #[.int .i64 a0_0, .int .i64 a0_1, .int .i64 a0_2, .int .i64 a0_3], .int .i64 a1] w fun e w' => e = .returned (.bool r) ∧ Below w.heap.size w w' := by
  have hu23 := Try.underlying23
  have hu24 := Try.underlying24
  have HB := Aside0.mk (Below.refl w.heap.size w)
  have H : ((mixer_Mix.f k a0_0 a0_1 a0_2 a0_3 a1).bind fun bt198 => (if a1 < 0 then (windhoverlaw16_MixerExact.j0 k a1 bt198.2.2.2.2.2.2.2.2 true a0_0 a0_1 a0_2 a0_3 bt198.1 bt198.2.1 bt198.2.2.1 bt198.2.2.2.1 bt198.2.2.2.2.1 bt198.2.2.2.2.2.1 bt198.2.2.2.2.2.2.1 bt198.2.2.2.2.2.2.2.1) else (windhoverlaw16_MixerExact.j0 k a1 bt198.2.2.2.2.2.2.2.2 (decide (a1 > 8)) a0_0 a0_1 a0_2 a0_3 bt198.1 bt198.2.1 bt198.2.2.1 bt198.2.2.2.1 bt198.2.2.2.2.1 bt198.2.2.2.2.2.1 bt198.2.2.2.2.2.2.1 bt198.2.2.2.2.2.2.2.1))) = some r := h
  clear h
  replace H := Option.bind_eq_some_iff.mp H
  obtain ⟨⟨t198, t199, t200, t201, t202, t203, t204, t205, t206⟩, A30, H⟩ := H
  replace H : (if a1 < 0 then (windhoverlaw16_MixerExact.j0 k a1 t206 true a0_0 a0_1 a0_2 a0_3 t198 t199 t200 t201 t202 t203 t204 t205) else (windhoverlaw16_MixerExact.j0 k a1 t206 (decide (a1 > 8)) a0_0 a0_1 a0_2 a0_3 t198 t199 t200 t201 t202 t203 t204 t205)) = some r := H
  have A3 := Aside0.mk A30
  clear A30
  have HC4 := Aside0.mk H
  clear H
  go_enter Try.func4, Try.ntmps4
  go_upto_region 2 with (first | ((with_reducible refine gate_dst (N := 2) rfl ?_); refine box_event ?hg (N := 2) ?hd (cs := #[.int .i64 a0_0, .int .i64 a0_1, .int .i64 a0_2, .int .i64 a0_3]) (t := 23) ?hr ?_; (case hd => rfl); (case hg => rfl); (case hr => first | (go_simp; done) | (go_simp; rfl)); intro gb197 hg w5 hbox hb; have n0_ := Aside0.mk (below_step (by repeat (first | (with_reducible first | exact HB.out | apply below_alloc | apply pw_below_drewN | apply below_drew1) | exact HB.out)) hb); have n1_ := Aside0.mk (hbox); have n2_ := Aside0.mk ((by rw [hg]; exact (below_size (by repeat (first | (with_reducible first | exact HB.out | apply below_alloc | apply pw_below_drewN | apply below_drew1) | exact HB.out))) : w.heap.size ≤ gb197)); have n3_ := Aside0.mk ((by rw [hg]; exact (below_size (by repeat (first | (with_reducible first | exact HB.out | apply below_alloc | apply pw_below_drewN | apply below_drew1) | exact HB.out))) : w.heap.size ≤ gb197)); clear HB; have HB := n0_; have BK197 := n1_; have GW197 := n2_; have GE197 := n3_; clear n0_ n1_ n2_ n3_; clear hb hbox hg; have hcz6_0 := blk_cells4 (w := w5) (g := gb197) BK197.out; have hfz6_0 := blk_frozen BK197.out) | ((with_reducible refine gate_callee (f := 7) rfl ?_); refine goesL_ (some 15) rfl rfl Try.func7 (by kernel_rfl) rfl #[.agg #[.int .i64 a0_0, .int .i64 a0_1, .int .i64 a0_2, .int .i64 a0_3], .int .i64 a1] rfl (by (try simp only [List.map_toArray, List.map_cons, List.map_nil]); first | done | rfl | (simp only [List.length_drop, List.length_take]; rfl)) ?_; (with_reducible refine (mixer_Mix.calls k a0_0 a0_1 a0_2 a0_3 a1 t198 t199 t200 t201 t202 t203 t204 t205 t206 _ A3.out).mono ?_); rintro e w7 ⟨rfl, hb⟩; refine ⟨_, rfl, ?_⟩; have n0_ := Aside0.mk (blk_below (g := gb197) (o := .cells #[.int .i64 a0_0, .int .i64 a0_1, .int .i64 a0_2, .int .i64 a0_3] 23 (0, 0)) (by (with_reducible repeat (first | refine blk_drewN ?_ _ | refine blk_drew ?_ | refine blk_alloc ?_ _)); exact BK197.out) hb); have n1_ := Aside0.mk (below_step (by repeat (first | (with_reducible first | exact HB.out | apply below_alloc | apply pw_below_drewN | apply below_drew1 | refine below_set ?_ GE197.out) | exact HB.out)) hb); clear BK197; clear HB; have BK197 := n0_; have HB := n1_; clear n0_ n1_; (try clear hb); (try clear hb2); (try clear hk); (try clear hi)) | ((with_reducible refine gate_dst (N := 5) rfl ?_); refine box_event ?hg (N := 5) ?hd (cs := #[.int .i64 0, .int .i64 0, .int .i64 0, .int .i64 0, .int .i64 0, .int .i64 0, .int .i64 0, .int .i64 0]) (t := 24) ?hr ?_; (case hd => rfl); (case hg => rfl); (case hr => first | (go_simp; done) | (go_simp; rfl)); intro gb207 hg w8 hbox hb; have n0_ := Aside0.mk (blk_below (g := gb197) (o := .cells #[.int .i64 a0_0, .int .i64 a0_1, .int .i64 a0_2, .int .i64 a0_3] 23 (0, 0)) (by (with_reducible repeat (first | refine blk_drewN ?_ _ | refine blk_drew ?_ | refine blk_alloc ?_ _)); exact BK197.out) hb); have n1_ := Aside0.mk (below_step (by repeat (first | (with_reducible first | exact HB.out | apply below_alloc | apply pw_below_drewN | apply below_drew1 | refine below_set ?_ GE197.out) | exact HB.out)) hb); have n2_ := Aside0.mk (hbox); have n3_ := Aside0.mk ((by rw [hg]; exact (below_size (by repeat (first | (with_reducible first | exact HB.out | apply below_alloc | apply pw_below_drewN | apply below_drew1 | refine below_set ?_ GE197.out) | exact HB.out))) : w.heap.size ≤ gb207)); have n4_ := Aside0.mk ((by rw [hg]; exact (below_size (by repeat (first | (with_reducible first | exact HB.out | apply below_alloc | apply pw_below_drewN | apply below_drew1 | refine below_set ?_ GE197.out) | exact HB.out))) : w.heap.size ≤ gb207)); have n5_ := Aside0.mk ((by rw [hg]; exact Nat.ne_of_lt (blk_lt (g := gb197) (o := .cells #[.int .i64 a0_0, .int .i64 a0_1, .int .i64 a0_2, .int .i64 a0_3] 23 (0, 0)) (by (with_reducible repeat (first | refine blk_drewN ?_ _ | refine blk_drew ?_ | refine blk_alloc ?_ _)); exact BK197.out)) : gb197 ≠ gb207)); have n6_ := Aside0.mk ((by rw [hg]; exact Nat.ne_of_gt (blk_lt (g := gb197) (o := .cells #[.int .i64 a0_0, .int .i64 a0_1, .int .i64 a0_2, .int .i64 a0_3] 23 (0, 0)) (by (with_reducible repeat (first | refine blk_drewN ?_ _ | refine blk_drew ?_ | refine blk_alloc ?_ _)); exact BK197.out)) : gb207 ≠ gb197)); clear BK197; clear HB; have BK197 := n0_; have HB := n1_; have BK207 := n2_; have GW207 := n3_; have GE207 := n4_; have NB197_207 := n5_; have NB207_197 := n6_; clear n0_ n1_ n2_ n3_ n4_ n5_ n6_; clear hb hbox hg; have hnb9 := NB207_197.out; have hnc9 := NB197_207.out; have hcz10_0 := blk_cells8 (w := w8) (g := gb207) BK207.out; have hfz10_0 := blk_frozen BK207.out))
  (try simp only [Act.put, List.setIfInBounds_toArray, List.set_cons_zero, List.set_cons_succ])
  go_cut [23] (fun v23 wc => ∃ (kq : Nat) (x23_3 : Bool), v23 = .bool x23_3 ∧ Aside0 (windhoverlaw16_MixerExact.j0 kq a1 t206 x23_3 a0_0 a0_1 a0_2 a0_3 t198 t199 t200 t201 t202 t203 t204 t205 = some r) ∧ Aside0 (kq ≤ k) ∧ Aside0 (wc.heap[gb197]? = some (.cells #[.int .i64 a0_0, .int .i64 a0_1, .int .i64 a0_2, .int .i64 a0_3] 23 (0, 0))) ∧ Aside0 (wc.heap[gb207]? = some (.cells #[.int .i64 t198, .int .i64 t199, .int .i64 t200, .int .i64 t201, .int .i64 t202, .int .i64 t203, .int .i64 t204, .int .i64 t205] 24 (0, 0))) ∧ Aside0 (Below w.heap.size w wc))
  case first =>
    have H := HC4.out
    clear HC4
    by_cases c11 : a1 < 0
    · rw [if_pos c11] at H
      have c11b0 : decide (a1 < 0) = true := decide_eq_true c11
      clear c11
      (first | rw [c11b0] | (simp only [i64_w, i32_w]; rw [c11b0]) | skip)
      have H' := Aside0.mk H
      clear H
      go_wp2
      go_meet
      case rel => exact ⟨_, (true), (by first | rfl | (simp; done) | (simp [*]; done)), H', ⟨by first | omega | exact Nat.le_refl _⟩, ⟨by (with_reducible repeat (first | refine blk_drewN ?_ _ | refine blk_drew ?_ | refine blk_alloc ?_ _)); refine blk_far ?_ NB197_207.out _; (with_reducible repeat (first | refine blk_drewN ?_ _ | refine blk_drew ?_ | refine blk_alloc ?_ _)); refine blk_far ?_ NB197_207.out _; (with_reducible repeat (first | refine blk_drewN ?_ _ | refine blk_drew ?_ | refine blk_alloc ?_ _)); refine blk_far ?_ NB197_207.out _; (with_reducible repeat (first | refine blk_drewN ?_ _ | refine blk_drew ?_ | refine blk_alloc ?_ _)); refine blk_far ?_ NB197_207.out _; (with_reducible repeat (first | refine blk_drewN ?_ _ | refine blk_drew ?_ | refine blk_alloc ?_ _)); refine blk_far ?_ NB197_207.out _; (with_reducible repeat (first | refine blk_drewN ?_ _ | refine blk_drew ?_ | refine blk_alloc ?_ _)); refine blk_far ?_ NB197_207.out _; (with_reducible repeat (first | refine blk_drewN ?_ _ | refine blk_drew ?_ | refine blk_alloc ?_ _)); refine blk_far ?_ NB197_207.out _; (with_reducible repeat (first | refine blk_drewN ?_ _ | refine blk_drew ?_ | refine blk_alloc ?_ _)); refine blk_far ?_ NB197_207.out _; (with_reducible repeat (first | refine blk_drewN ?_ _ | refine blk_drew ?_ | refine blk_alloc ?_ _)); exact BK197.out⟩, ⟨by (with_reducible repeat (first | refine blk_drewN ?_ _ | refine blk_drew ?_ | refine blk_alloc ?_ _)); refine blk_put (cs := #[.int .i64 t198, .int .i64 t199, .int .i64 t200, .int .i64 t201, .int .i64 t202, .int .i64 t203, .int .i64 t204, .int .i64 0]) ?_ 7 _ rfl; (with_reducible repeat (first | refine blk_drewN ?_ _ | refine blk_drew ?_ | refine blk_alloc ?_ _)); refine blk_put (cs := #[.int .i64 t198, .int .i64 t199, .int .i64 t200, .int .i64 t201, .int .i64 t202, .int .i64 t203, .int .i64 0, .int .i64 0]) ?_ 6 _ rfl; (with_reducible repeat (first | refine blk_drewN ?_ _ | refine blk_drew ?_ | refine blk_alloc ?_ _)); refine blk_put (cs := #[.int .i64 t198, .int .i64 t199, .int .i64 t200, .int .i64 t201, .int .i64 t202, .int .i64 0, .int .i64 0, .int .i64 0]) ?_ 5 _ rfl; (with_reducible repeat (first | refine blk_drewN ?_ _ | refine blk_drew ?_ | refine blk_alloc ?_ _)); refine blk_put (cs := #[.int .i64 t198, .int .i64 t199, .int .i64 t200, .int .i64 t201, .int .i64 0, .int .i64 0, .int .i64 0, .int .i64 0]) ?_ 4 _ rfl; (with_reducible repeat (first | refine blk_drewN ?_ _ | refine blk_drew ?_ | refine blk_alloc ?_ _)); refine blk_put (cs := #[.int .i64 t198, .int .i64 t199, .int .i64 t200, .int .i64 0, .int .i64 0, .int .i64 0, .int .i64 0, .int .i64 0]) ?_ 3 _ rfl; (with_reducible repeat (first | refine blk_drewN ?_ _ | refine blk_drew ?_ | refine blk_alloc ?_ _)); refine blk_put (cs := #[.int .i64 t198, .int .i64 t199, .int .i64 0, .int .i64 0, .int .i64 0, .int .i64 0, .int .i64 0, .int .i64 0]) ?_ 2 _ rfl; (with_reducible repeat (first | refine blk_drewN ?_ _ | refine blk_drew ?_ | refine blk_alloc ?_ _)); refine blk_put (cs := #[.int .i64 t198, .int .i64 0, .int .i64 0, .int .i64 0, .int .i64 0, .int .i64 0, .int .i64 0, .int .i64 0]) ?_ 1 _ rfl; (with_reducible repeat (first | refine blk_drewN ?_ _ | refine blk_drew ?_ | refine blk_alloc ?_ _)); refine blk_put (cs := #[.int .i64 0, .int .i64 0, .int .i64 0, .int .i64 0, .int .i64 0, .int .i64 0, .int .i64 0, .int .i64 0]) ?_ 0 _ rfl; (with_reducible repeat (first | refine blk_drewN ?_ _ | refine blk_drew ?_ | refine blk_alloc ?_ _)); exact BK207.out⟩, ⟨by repeat (first | (with_reducible first | exact HB.out | apply below_alloc | apply pw_below_drewN | apply below_drew1 | refine below_set ?_ GE197.out | refine below_set ?_ GE207.out) | exact HB.out)⟩⟩
    · rw [if_neg c11] at H
      have c11b0 : decide (a1 < 0) = false := decide_eq_false c11
      clear c11
      (first | rw [c11b0] | (simp only [i64_w, i32_w]; rw [c11b0]) | skip)
      have H' := Aside0.mk H
      clear H
      go_wp2
      go_meet
      case rel => exact ⟨_, (decide (a1 > 8)), (by first | rfl | (simp; done) | (simp [*]; done)), H', ⟨by first | omega | exact Nat.le_refl _⟩, ⟨by (with_reducible repeat (first | refine blk_drewN ?_ _ | refine blk_drew ?_ | refine blk_alloc ?_ _)); refine blk_far ?_ NB197_207.out _; (with_reducible repeat (first | refine blk_drewN ?_ _ | refine blk_drew ?_ | refine blk_alloc ?_ _)); refine blk_far ?_ NB197_207.out _; (with_reducible repeat (first | refine blk_drewN ?_ _ | refine blk_drew ?_ | refine blk_alloc ?_ _)); refine blk_far ?_ NB197_207.out _; (with_reducible repeat (first | refine blk_drewN ?_ _ | refine blk_drew ?_ | refine blk_alloc ?_ _)); refine blk_far ?_ NB197_207.out _; (with_reducible repeat (first | refine blk_drewN ?_ _ | refine blk_drew ?_ | refine blk_alloc ?_ _)); refine blk_far ?_ NB197_207.out _; (with_reducible repeat (first | refine blk_drewN ?_ _ | refine blk_drew ?_ | refine blk_alloc ?_ _)); refine blk_far ?_ NB197_207.out _; (with_reducible repeat (first | refine blk_drewN ?_ _ | refine blk_drew ?_ | refine blk_alloc ?_ _)); refine blk_far ?_ NB197_207.out _; (with_reducible repeat (first | refine blk_drewN ?_ _ | refine blk_drew ?_ | refine blk_alloc ?_ _)); refine blk_far ?_ NB197_207.out _; (with_reducible repeat (first | refine blk_drewN ?_ _ | refine blk_drew ?_ | refine blk_alloc ?_ _)); exact BK197.out⟩, ⟨by (with_reducible repeat (first | refine blk_drewN ?_ _ | refine blk_drew ?_ | refine blk_alloc ?_ _)); refine blk_put (cs := #[.int .i64 t198, .int .i64 t199, .int .i64 t200, .int .i64 t201, .int .i64 t202, .int .i64 t203, .int .i64 t204, .int .i64 0]) ?_ 7 _ rfl; (with_reducible repeat (first | refine blk_drewN ?_ _ | refine blk_drew ?_ | refine blk_alloc ?_ _)); refine blk_put (cs := #[.int .i64 t198, .int .i64 t199, .int .i64 t200, .int .i64 t201, .int .i64 t202, .int .i64 t203, .int .i64 0, .int .i64 0]) ?_ 6 _ rfl; (with_reducible repeat (first | refine blk_drewN ?_ _ | refine blk_drew ?_ | refine blk_alloc ?_ _)); refine blk_put (cs := #[.int .i64 t198, .int .i64 t199, .int .i64 t200, .int .i64 t201, .int .i64 t202, .int .i64 0, .int .i64 0, .int .i64 0]) ?_ 5 _ rfl; (with_reducible repeat (first | refine blk_drewN ?_ _ | refine blk_drew ?_ | refine blk_alloc ?_ _)); refine blk_put (cs := #[.int .i64 t198, .int .i64 t199, .int .i64 t200, .int .i64 t201, .int .i64 0, .int .i64 0, .int .i64 0, .int .i64 0]) ?_ 4 _ rfl; (with_reducible repeat (first | refine blk_drewN ?_ _ | refine blk_drew ?_ | refine blk_alloc ?_ _)); refine blk_put (cs := #[.int .i64 t198, .int .i64 t199, .int .i64 t200, .int .i64 0, .int .i64 0, .int .i64 0, .int .i64 0, .int .i64 0]) ?_ 3 _ rfl; (with_reducible repeat (first | refine blk_drewN ?_ _ | refine blk_drew ?_ | refine blk_alloc ?_ _)); refine blk_put (cs := #[.int .i64 t198, .int .i64 t199, .int .i64 0, .int .i64 0, .int .i64 0, .int .i64 0, .int .i64 0, .int .i64 0]) ?_ 2 _ rfl; (with_reducible repeat (first | refine blk_drewN ?_ _ | refine blk_drew ?_ | refine blk_alloc ?_ _)); refine blk_put (cs := #[.int .i64 t198, .int .i64 0, .int .i64 0, .int .i64 0, .int .i64 0, .int .i64 0, .int .i64 0, .int .i64 0]) ?_ 1 _ rfl; (with_reducible repeat (first | refine blk_drewN ?_ _ | refine blk_drew ?_ | refine blk_alloc ?_ _)); refine blk_put (cs := #[.int .i64 0, .int .i64 0, .int .i64 0, .int .i64 0, .int .i64 0, .int .i64 0, .int .i64 0, .int .i64 0]) ?_ 0 _ rfl; (with_reducible repeat (first | refine blk_drewN ?_ _ | refine blk_drew ?_ | refine blk_alloc ?_ _)); exact BK207.out⟩, ⟨by repeat (first | (with_reducible first | exact HB.out | apply below_alloc | apply pw_below_drewN | apply below_drew1 | refine below_set ?_ GE197.out | refine below_set ?_ GE207.out) | exact HB.out)⟩⟩
  case rest =>
    clear HC4
    try clear c1
    try clear p2
    try clear c4
    try clear c7
    try clear c9
    try clear c11
    try clear c11b0
    try clear hcz10_0
    try clear hcz6_0
    try clear hfz10_0
    try clear hfz6_0
    obtain ⟨kq, x23_3, rfl, HA, HJ3, BK197, BK207, HB⟩ := hcut
    cases kq with
    | zero => exact absurd HA.out (by simp [windhoverlaw16_MixerExact.j0])
    | succ kj3 =>
      have H := HA.out
      clear HA
      simp only [windhoverlaw16_MixerExact.j0] at H
      by_cases c12 : x23_3 = true
      · subst c12
        have H1 : (if t206 = 1 then (if (t198 == 0 && (t199 == 0 && (t200 == 0 && (t201 == 0 && (t202 == 0 && (t203 == 0 && (t204 == 0 && (t205 == 0)))))))) = true then ((windhoverlaw16_awake.f kj3).bind fun t208 => (some t208)) else (none)) else (none)) = some r := by rw [if_pos rfl] at H; exact H
        clear H
        have H := H1
        clear H1
        by_cases c13 : t206 = 1
        · rw [if_pos c13] at H
          have c13b0 : (t206 == 1) = true := beq_iff_eq.mpr c13
          have c13b1 : (t206 != 1) = false := bne_eq_false_iff_eq.mpr c13
          clear c13
          by_cases c14 : (t198 == 0 && (t199 == 0 && (t200 == 0 && (t201 == 0 && (t202 == 0 && (t203 == 0 && (t204 == 0 && (t205 == 0)))))))) = true
          · rw [if_pos c14] at H
            have c14b0 : (t198 == 0 && (t199 == 0 && (t200 == 0 && (t201 == 0 && (t202 == 0 && (t203 == 0 && (t204 == 0 && (t205 == 0)))))))) = true := c14
            (try (have c14b1 : decide (t198 = 0 && (t199 == 0 && (t200 == 0 && (t201 == 0 && (t202 == 0 && (t203 == 0 && (t204 == 0 && (t205 == 0)))))))) = true := by simpa using c14))
            (try (have c14b2 : (t198 == 0 && (t199 == 0 && (t200 == 0 && (t201 == 0 && (t202 == 0 && (t203 == 0 && (t204 == 0 && (t205 == 0)))))))) = true := by simpa using c14))
            clear c14
            replace H := Option.bind_eq_some_iff.mp H
            obtain ⟨t208, A150, H⟩ := H
            replace H : (some t208) = some r := H
            have A15 := Aside0.mk A150
            clear A150
            obtain rfl := Option.some.inj H
            have hnb16 := NB207_197.out
            have hnc16 := NB197_207.out
            have hcz17_0 := blk_cells8 (w := wc) (g := gb207) BK207.out
            have hfz17_0 := blk_frozen BK207.out
            go_wp2_with (first | (go_at_call 13; (with_reducible refine (windhoverlaw16_awake.calls kj3  t208 _ A15.out).mono ?_); rintro e w18 ⟨rfl, hb⟩; have n0_ := Aside0.mk (blk_below (g := gb197) (o := .cells #[.int .i64 a0_0, .int .i64 a0_1, .int .i64 a0_2, .int .i64 a0_3] 23 (0, 0)) (by (with_reducible repeat (first | refine blk_drewN ?_ _ | refine blk_drew ?_ | refine blk_alloc ?_ _)); exact BK197.out) hb); have n1_ := Aside0.mk (blk_below (g := gb207) (o := .cells #[.int .i64 t198, .int .i64 t199, .int .i64 t200, .int .i64 t201, .int .i64 t202, .int .i64 t203, .int .i64 t204, .int .i64 t205] 24 (0, 0)) (by (with_reducible repeat (first | refine blk_drewN ?_ _ | refine blk_drew ?_ | refine blk_alloc ?_ _)); exact BK207.out) hb); have n2_ := Aside0.mk (below_step (by repeat (first | (with_reducible first | exact HB.out | apply below_alloc | apply pw_below_drewN | apply below_drew1 | refine below_set ?_ GE197.out | refine below_set ?_ GE207.out) | exact HB.out)) hb); clear BK197; clear BK207; clear HB; have BK197 := n0_; have BK207 := n1_; have HB := n2_; clear n0_ n1_ n2_; (try clear hb); (try clear hb2); (try clear hk); (try clear hi)))
            go_ret
            exact ⟨by first | rfl | (simp [errW_none, errW_some] <;> rfl) | (simp [*, errW_none, errW_some] <;> rfl), by repeat (first | (with_reducible first | exact HB.out | apply below_alloc | apply pw_below_drewN | apply below_drew1 | refine below_set ?_ GE197.out | refine below_set ?_ GE207.out) | exact HB.out)⟩
          · rw [if_neg c14] at H
            exact absurd H (by simp)
        · rw [if_neg c13] at H
          exact absurd H (by simp)
      · replace c12 := Bool.eq_false_iff.mpr c12
        subst c12
        have H1 : ((mixer_Limit.f a0_0 a0_1 a0_2 a0_3).bind fun bt209 => ((mixer_Work.f kj3 t198 t199 t200 t201 t202 t203 t204 t205).bind fun bt214 => (windhoverlaw16_MixerExact.l0 kj3 a1 t206 0 0 t198 t199 t200 t201 t202 t203 t204 t205 bt209.1 bt209.2.1 bt209.2.2.1 bt209.2.2.2 bt214.1 bt214.2.1 bt214.2.2.1 bt214.2.2.2))) = some r := by rw [if_neg (show ¬ (false = true) by decide)] at H; exact H
        clear H
        have H := H1
        clear H1
        replace H := Option.bind_eq_some_iff.mp H
        obtain ⟨⟨t209, t210, t211, t212⟩, A190, H⟩ := H
        replace H : ((mixer_Work.f kj3 t198 t199 t200 t201 t202 t203 t204 t205).bind fun bt214 => (windhoverlaw16_MixerExact.l0 kj3 a1 t206 0 0 t198 t199 t200 t201 t202 t203 t204 t205 t209 t210 t211 t212 bt214.1 bt214.2.1 bt214.2.2.1 bt214.2.2.2)) = some r := H
        have A19 := Aside0.mk A190
        clear A190
        replace H := Option.bind_eq_some_iff.mp H
        obtain ⟨⟨t214, t215, t216, t217⟩, A200, H⟩ := H
        replace H : (windhoverlaw16_MixerExact.l0 kj3 a1 t206 0 0 t198 t199 t200 t201 t202 t203 t204 t205 t209 t210 t211 t212 t214 t215 t216 t217) = some r := H
        have A20 := Aside0.mk A200
        clear A200
        have H' := Aside0.mk H
        clear H
        have hnb21 := NB197_207.out
        have hnc21 := NB207_197.out
        have hcz22_0 := blk_cells4 (w := wc) (g := gb197) BK197.out
        have hfz22_0 := blk_frozen BK197.out
        go_wp2_with (first | ((with_reducible refine gate_callee (f := 9) rfl ?_); refine goesL_ (some 35) rfl rfl Try.func9 (by kernel_rfl) rfl #[.agg #[.int .i64 a0_0, .int .i64 a0_1, .int .i64 a0_2, .int .i64 a0_3]] rfl (by (try simp only [List.map_toArray, List.map_cons, List.map_nil]); first | done | rfl | (simp only [List.length_drop, List.length_take]; rfl)) ?_; (with_reducible refine (mixer_Limit.calls a0_0 a0_1 a0_2 a0_3 t209 t210 t211 t212 _ A19.out).mono ?_); rintro e w23 ⟨rfl, hb⟩; refine ⟨_, rfl, ?_⟩; have n0_ := Aside0.mk (blk_below (g := gb197) (o := .cells #[.int .i64 a0_0, .int .i64 a0_1, .int .i64 a0_2, .int .i64 a0_3] 23 (0, 0)) (by (with_reducible repeat (first | refine blk_drewN ?_ _ | refine blk_drew ?_ | refine blk_alloc ?_ _)); exact BK197.out) hb); have n1_ := Aside0.mk (blk_below (g := gb207) (o := .cells #[.int .i64 t198, .int .i64 t199, .int .i64 t200, .int .i64 t201, .int .i64 t202, .int .i64 t203, .int .i64 t204, .int .i64 t205] 24 (0, 0)) (by (with_reducible repeat (first | refine blk_drewN ?_ _ | refine blk_drew ?_ | refine blk_alloc ?_ _)); exact BK207.out) hb); have n2_ := Aside0.mk (below_step (by repeat (first | (with_reducible first | exact HB.out | apply below_alloc | apply pw_below_drewN | apply below_drew1 | refine below_set ?_ GE197.out | refine below_set ?_ GE207.out) | exact HB.out)) hb); clear BK197; clear BK207; clear HB; have BK197 := n0_; have BK207 := n1_; have HB := n2_; clear n0_ n1_ n2_; (try clear hb); (try clear hb2); (try clear hk); (try clear hi)) | ((with_reducible refine gate_dst (N := 7) rfl ?_); refine box_event ?hg (N := 7) ?hd (cs := #[.int .i64 0, .int .i64 0, .int .i64 0, .int .i64 0]) (t := 23) ?hr ?_; (case hd => rfl); (case hg => rfl); (case hr => first | (go_simp; done) | (go_simp; rfl)); intro gb213 hg w24 hbox hb; have n0_ := Aside0.mk (blk_below (g := gb197) (o := .cells #[.int .i64 a0_0, .int .i64 a0_1, .int .i64 a0_2, .int .i64 a0_3] 23 (0, 0)) (by (with_reducible repeat (first | refine blk_drewN ?_ _ | refine blk_drew ?_ | refine blk_alloc ?_ _)); exact BK197.out) hb); have n1_ := Aside0.mk (blk_below (g := gb207) (o := .cells #[.int .i64 t198, .int .i64 t199, .int .i64 t200, .int .i64 t201, .int .i64 t202, .int .i64 t203, .int .i64 t204, .int .i64 t205] 24 (0, 0)) (by (with_reducible repeat (first | refine blk_drewN ?_ _ | refine blk_drew ?_ | refine blk_alloc ?_ _)); exact BK207.out) hb); have n2_ := Aside0.mk (below_step (by repeat (first | (with_reducible first | exact HB.out | apply below_alloc | apply pw_below_drewN | apply below_drew1 | refine below_set ?_ GE197.out | refine below_set ?_ GE207.out) | exact HB.out)) hb); have n3_ := Aside0.mk (hbox); have n4_ := Aside0.mk ((by rw [hg]; exact (below_size (by repeat (first | (with_reducible first | exact HB.out | apply below_alloc | apply pw_below_drewN | apply below_drew1 | refine below_set ?_ GE197.out | refine below_set ?_ GE207.out) | exact HB.out))) : w.heap.size ≤ gb213)); have n5_ := Aside0.mk ((by rw [hg]; exact (below_size (by repeat (first | (with_reducible first | exact HB.out | apply below_alloc | apply pw_below_drewN | apply below_drew1 | refine below_set ?_ GE197.out | refine below_set ?_ GE207.out) | exact HB.out))) : w.heap.size ≤ gb213)); have n6_ := Aside0.mk ((by rw [hg]; exact Nat.ne_of_lt (blk_lt (g := gb197) (o := .cells #[.int .i64 a0_0, .int .i64 a0_1, .int .i64 a0_2, .int .i64 a0_3] 23 (0, 0)) (by (with_reducible repeat (first | refine blk_drewN ?_ _ | refine blk_drew ?_ | refine blk_alloc ?_ _)); exact BK197.out)) : gb197 ≠ gb213)); have n7_ := Aside0.mk ((by rw [hg]; exact Nat.ne_of_gt (blk_lt (g := gb197) (o := .cells #[.int .i64 a0_0, .int .i64 a0_1, .int .i64 a0_2, .int .i64 a0_3] 23 (0, 0)) (by (with_reducible repeat (first | refine blk_drewN ?_ _ | refine blk_drew ?_ | refine blk_alloc ?_ _)); exact BK197.out)) : gb213 ≠ gb197)); have n8_ := Aside0.mk ((by rw [hg]; exact Nat.ne_of_lt (blk_lt (g := gb207) (o := .cells #[.int .i64 t198, .int .i64 t199, .int .i64 t200, .int .i64 t201, .int .i64 t202, .int .i64 t203, .int .i64 t204, .int .i64 t205] 24 (0, 0)) (by (with_reducible repeat (first | refine blk_drewN ?_ _ | refine blk_drew ?_ | refine blk_alloc ?_ _)); exact BK207.out)) : gb207 ≠ gb213)); have n9_ := Aside0.mk ((by rw [hg]; exact Nat.ne_of_gt (blk_lt (g := gb207) (o := .cells #[.int .i64 t198, .int .i64 t199, .int .i64 t200, .int .i64 t201, .int .i64 t202, .int .i64 t203, .int .i64 t204, .int .i64 t205] 24 (0, 0)) (by (with_reducible repeat (first | refine blk_drewN ?_ _ | refine blk_drew ?_ | refine blk_alloc ?_ _)); exact BK207.out)) : gb213 ≠ gb207)); clear BK197; clear BK207; clear HB; have BK197 := n0_; have BK207 := n1_; have HB := n2_; have BK213 := n3_; have GW213 := n4_; have GE213 := n5_; have NB197_213 := n6_; have NB213_197 := n7_; have NB207_213 := n8_; have NB213_207 := n9_; clear n0_ n1_ n2_ n3_ n4_ n5_ n6_ n7_ n8_ n9_; clear hb hbox hg; have hnb25 := NB213_197.out; have hnc25 := NB197_213.out; have hnb26 := NB213_207.out; have hnc26 := NB207_213.out; have hcz27_0 := blk_cells4 (w := w24) (g := gb213) BK213.out; have hfz27_0 := blk_frozen BK213.out; have hcz28_0 := blk_cells8 (w := w24) (g := gb207) BK207.out; have hfz28_0 := blk_frozen BK207.out) | ((with_reducible refine gate_callee (f := 11) rfl ?_); refine goesL_ (some 37) rfl rfl Try.func11 (by kernel_rfl) rfl #[.agg #[.int .i64 t198, .int .i64 t199, .int .i64 t200, .int .i64 t201, .int .i64 t202, .int .i64 t203, .int .i64 t204, .int .i64 t205]] rfl (by (try simp only [List.map_toArray, List.map_cons, List.map_nil]); first | done | rfl | (simp only [List.length_drop, List.length_take]; rfl)) ?_; (with_reducible refine (mixer_Work.calls kj3 t198 t199 t200 t201 t202 t203 t204 t205 t214 t215 t216 t217 _ A20.out).mono ?_); rintro e w29 ⟨rfl, hb⟩; refine ⟨_, rfl, ?_⟩; have n0_ := Aside0.mk (blk_below (g := gb197) (o := .cells #[.int .i64 a0_0, .int .i64 a0_1, .int .i64 a0_2, .int .i64 a0_3] 23 (0, 0)) (by (with_reducible repeat (first | refine blk_drewN ?_ _ | refine blk_drew ?_ | refine blk_alloc ?_ _)); refine blk_far ?_ NB197_213.out _; (with_reducible repeat (first | refine blk_drewN ?_ _ | refine blk_drew ?_ | refine blk_alloc ?_ _)); refine blk_far ?_ NB197_213.out _; (with_reducible repeat (first | refine blk_drewN ?_ _ | refine blk_drew ?_ | refine blk_alloc ?_ _)); refine blk_far ?_ NB197_213.out _; (with_reducible repeat (first | refine blk_drewN ?_ _ | refine blk_drew ?_ | refine blk_alloc ?_ _)); refine blk_far ?_ NB197_213.out _; (with_reducible repeat (first | refine blk_drewN ?_ _ | refine blk_drew ?_ | refine blk_alloc ?_ _)); exact BK197.out) hb); have n1_ := Aside0.mk (blk_below (g := gb207) (o := .cells #[.int .i64 t198, .int .i64 t199, .int .i64 t200, .int .i64 t201, .int .i64 t202, .int .i64 t203, .int .i64 t204, .int .i64 t205] 24 (0, 0)) (by (with_reducible repeat (first | refine blk_drewN ?_ _ | refine blk_drew ?_ | refine blk_alloc ?_ _)); refine blk_far ?_ NB207_213.out _; (with_reducible repeat (first | refine blk_drewN ?_ _ | refine blk_drew ?_ | refine blk_alloc ?_ _)); refine blk_far ?_ NB207_213.out _; (with_reducible repeat (first | refine blk_drewN ?_ _ | refine blk_drew ?_ | refine blk_alloc ?_ _)); refine blk_far ?_ NB207_213.out _; (with_reducible repeat (first | refine blk_drewN ?_ _ | refine blk_drew ?_ | refine blk_alloc ?_ _)); refine blk_far ?_ NB207_213.out _; (with_reducible repeat (first | refine blk_drewN ?_ _ | refine blk_drew ?_ | refine blk_alloc ?_ _)); exact BK207.out) hb); have n2_ := Aside0.mk (blk_below (g := gb213) (o := .cells #[.int .i64 t209, .int .i64 t210, .int .i64 t211, .int .i64 t212] 23 (0, 0)) (by (with_reducible repeat (first | refine blk_drewN ?_ _ | refine blk_drew ?_ | refine blk_alloc ?_ _)); refine blk_put (cs := #[.int .i64 t209, .int .i64 t210, .int .i64 t211, .int .i64 0]) ?_ 3 _ rfl; (with_reducible repeat (first | refine blk_drewN ?_ _ | refine blk_drew ?_ | refine blk_alloc ?_ _)); refine blk_put (cs := #[.int .i64 t209, .int .i64 t210, .int .i64 0, .int .i64 0]) ?_ 2 _ rfl; (with_reducible repeat (first | refine blk_drewN ?_ _ | refine blk_drew ?_ | refine blk_alloc ?_ _)); refine blk_put (cs := #[.int .i64 t209, .int .i64 0, .int .i64 0, .int .i64 0]) ?_ 1 _ rfl; (with_reducible repeat (first | refine blk_drewN ?_ _ | refine blk_drew ?_ | refine blk_alloc ?_ _)); refine blk_put (cs := #[.int .i64 0, .int .i64 0, .int .i64 0, .int .i64 0]) ?_ 0 _ rfl; (with_reducible repeat (first | refine blk_drewN ?_ _ | refine blk_drew ?_ | refine blk_alloc ?_ _)); exact BK213.out) hb); have n3_ := Aside0.mk (below_step (by repeat (first | (with_reducible first | exact HB.out | apply below_alloc | apply pw_below_drewN | apply below_drew1 | refine below_set ?_ GE197.out | refine below_set ?_ GE207.out | refine below_set ?_ GE213.out) | exact HB.out)) hb); clear BK197; clear BK207; clear BK213; clear HB; have BK197 := n0_; have BK207 := n1_; have BK213 := n2_; have HB := n3_; clear n0_ n1_ n2_ n3_; (try clear hb); (try clear hb2); (try clear hk); (try clear hi)) | ((with_reducible refine gate_dst (N := 8) rfl ?_); refine box_event ?hg (N := 8) ?hd (cs := #[.int .i64 0, .int .i64 0, .int .i64 0, .int .i64 0]) (t := 23) ?hr ?_; (case hd => rfl); (case hg => rfl); (case hr => first | (go_simp; done) | (go_simp; rfl)); intro gb218 hg w30 hbox hb; have n0_ := Aside0.mk (blk_below (g := gb197) (o := .cells #[.int .i64 a0_0, .int .i64 a0_1, .int .i64 a0_2, .int .i64 a0_3] 23 (0, 0)) (by (with_reducible repeat (first | refine blk_drewN ?_ _ | refine blk_drew ?_ | refine blk_alloc ?_ _)); exact BK197.out) hb); have n1_ := Aside0.mk (blk_below (g := gb207) (o := .cells #[.int .i64 t198, .int .i64 t199, .int .i64 t200, .int .i64 t201, .int .i64 t202, .int .i64 t203, .int .i64 t204, .int .i64 t205] 24 (0, 0)) (by (with_reducible repeat (first | refine blk_drewN ?_ _ | refine blk_drew ?_ | refine blk_alloc ?_ _)); exact BK207.out) hb); have n2_ := Aside0.mk (blk_below (g := gb213) (o := .cells #[.int .i64 t209, .int .i64 t210, .int .i64 t211, .int .i64 t212] 23 (0, 0)) (by (with_reducible repeat (first | refine blk_drewN ?_ _ | refine blk_drew ?_ | refine blk_alloc ?_ _)); exact BK213.out) hb); have n3_ := Aside0.mk (below_step (by repeat (first | (with_reducible first | exact HB.out | apply below_alloc | apply pw_below_drewN | apply below_drew1 | refine below_set ?_ GE197.out | refine below_set ?_ GE207.out | refine below_set ?_ GE213.out) | exact HB.out)) hb); have n4_ := Aside0.mk (hbox); have n5_ := Aside0.mk ((by rw [hg]; exact (below_size (by repeat (first | (with_reducible first | exact HB.out | apply below_alloc | apply pw_below_drewN | apply below_drew1 | refine below_set ?_ GE197.out | refine below_set ?_ GE207.out | refine below_set ?_ GE213.out) | exact HB.out))) : w.heap.size ≤ gb218)); have n6_ := Aside0.mk ((by rw [hg]; exact (below_size (by repeat (first | (with_reducible first | exact HB.out | apply below_alloc | apply pw_below_drewN | apply below_drew1 | refine below_set ?_ GE197.out | refine below_set ?_ GE207.out | refine below_set ?_ GE213.out) | exact HB.out))) : w.heap.size ≤ gb218)); have n7_ := Aside0.mk ((by rw [hg]; exact Nat.ne_of_lt (blk_lt (g := gb197) (o := .cells #[.int .i64 a0_0, .int .i64 a0_1, .int .i64 a0_2, .int .i64 a0_3] 23 (0, 0)) (by (with_reducible repeat (first | refine blk_drewN ?_ _ | refine blk_drew ?_ | refine blk_alloc ?_ _)); exact BK197.out)) : gb197 ≠ gb218)); have n8_ := Aside0.mk ((by rw [hg]; exact Nat.ne_of_gt (blk_lt (g := gb197) (o := .cells #[.int .i64 a0_0, .int .i64 a0_1, .int .i64 a0_2, .int .i64 a0_3] 23 (0, 0)) (by (with_reducible repeat (first | refine blk_drewN ?_ _ | refine blk_drew ?_ | refine blk_alloc ?_ _)); exact BK197.out)) : gb218 ≠ gb197)); have n9_ := Aside0.mk ((by rw [hg]; exact Nat.ne_of_lt (blk_lt (g := gb207) (o := .cells #[.int .i64 t198, .int .i64 t199, .int .i64 t200, .int .i64 t201, .int .i64 t202, .int .i64 t203, .int .i64 t204, .int .i64 t205] 24 (0, 0)) (by (with_reducible repeat (first | refine blk_drewN ?_ _ | refine blk_drew ?_ | refine blk_alloc ?_ _)); exact BK207.out)) : gb207 ≠ gb218)); have n10_ := Aside0.mk ((by rw [hg]; exact Nat.ne_of_gt (blk_lt (g := gb207) (o := .cells #[.int .i64 t198, .int .i64 t199, .int .i64 t200, .int .i64 t201, .int .i64 t202, .int .i64 t203, .int .i64 t204, .int .i64 t205] 24 (0, 0)) (by (with_reducible repeat (first | refine blk_drewN ?_ _ | refine blk_drew ?_ | refine blk_alloc ?_ _)); exact BK207.out)) : gb218 ≠ gb207)); have n11_ := Aside0.mk ((by rw [hg]; exact Nat.ne_of_lt (blk_lt (g := gb213) (o := .cells #[.int .i64 t209, .int .i64 t210, .int .i64 t211, .int .i64 t212] 23 (0, 0)) (by (with_reducible repeat (first | refine blk_drewN ?_ _ | refine blk_drew ?_ | refine blk_alloc ?_ _)); exact BK213.out)) : gb213 ≠ gb218)); have n12_ := Aside0.mk ((by rw [hg]; exact Nat.ne_of_gt (blk_lt (g := gb213) (o := .cells #[.int .i64 t209, .int .i64 t210, .int .i64 t211, .int .i64 t212] 23 (0, 0)) (by (with_reducible repeat (first | refine blk_drewN ?_ _ | refine blk_drew ?_ | refine blk_alloc ?_ _)); exact BK213.out)) : gb218 ≠ gb213)); clear BK197; clear BK207; clear BK213; clear HB; have BK197 := n0_; have BK207 := n1_; have BK213 := n2_; have HB := n3_; have BK218 := n4_; have GW218 := n5_; have GE218 := n6_; have NB197_218 := n7_; have NB218_197 := n8_; have NB207_218 := n9_; have NB218_207 := n10_; have NB213_218 := n11_; have NB218_213 := n12_; clear n0_ n1_ n2_ n3_ n4_ n5_ n6_ n7_ n8_ n9_ n10_ n11_ n12_; clear hb hbox hg; have hnb31 := NB218_197.out; have hnc31 := NB197_218.out; have hnb32 := NB218_207.out; have hnc32 := NB207_218.out; have hnb33 := NB218_213.out; have hnc33 := NB213_218.out; have hcz34_0 := blk_cells4 (w := w30) (g := gb218) BK218.out; have hfz34_0 := blk_frozen BK218.out))
        go_loopg [9, 10] kj3 (fun kq v9 v10 w' => ∃ (x9_2 : Int) (x10_2 : Int), v9 = .int .i64 x9_2 ∧ v10 = .int .i64 x10_2 ∧ Aside0 (windhoverlaw16_MixerExact.l0 kq a1 t206 x9_2 x10_2 t198 t199 t200 t201 t202 t203 t204 t205 t209 t210 t211 t212 t214 t215 t216 t217 = some r) ∧ Aside0 (kq ≤ kj3) ∧ Aside0 (w'.heap[gb197]? = some (.cells #[.int .i64 a0_0, .int .i64 a0_1, .int .i64 a0_2, .int .i64 a0_3] 23 (0, 0))) ∧ Aside0 (w'.heap[gb207]? = some (.cells #[.int .i64 t198, .int .i64 t199, .int .i64 t200, .int .i64 t201, .int .i64 t202, .int .i64 t203, .int .i64 t204, .int .i64 t205] 24 (0, 0))) ∧ Aside0 (w'.heap[gb213]? = some (.cells #[.int .i64 t209, .int .i64 t210, .int .i64 t211, .int .i64 t212] 23 (0, 0))) ∧ Aside0 (w'.heap[gb218]? = some (.cells #[.int .i64 t214, .int .i64 t215, .int .i64 t216, .int .i64 t217] 23 (0, 0))) ∧ Aside0 (Below w.heap.size w w'))
        case atStart => exact ⟨(0), (0), (by first | rfl | (simp; done) | (simp [*]; done)), (by first | rfl | (simp; done) | (simp [*]; done)), H', ⟨Nat.le_refl _⟩, ⟨by (with_reducible repeat (first | refine blk_drewN ?_ _ | refine blk_drew ?_ | refine blk_alloc ?_ _)); refine blk_far ?_ NB197_218.out _; (with_reducible repeat (first | refine blk_drewN ?_ _ | refine blk_drew ?_ | refine blk_alloc ?_ _)); refine blk_far ?_ NB197_218.out _; (with_reducible repeat (first | refine blk_drewN ?_ _ | refine blk_drew ?_ | refine blk_alloc ?_ _)); refine blk_far ?_ NB197_218.out _; (with_reducible repeat (first | refine blk_drewN ?_ _ | refine blk_drew ?_ | refine blk_alloc ?_ _)); refine blk_far ?_ NB197_218.out _; (with_reducible repeat (first | refine blk_drewN ?_ _ | refine blk_drew ?_ | refine blk_alloc ?_ _)); exact BK197.out⟩, ⟨by (with_reducible repeat (first | refine blk_drewN ?_ _ | refine blk_drew ?_ | refine blk_alloc ?_ _)); refine blk_far ?_ NB207_218.out _; (with_reducible repeat (first | refine blk_drewN ?_ _ | refine blk_drew ?_ | refine blk_alloc ?_ _)); refine blk_far ?_ NB207_218.out _; (with_reducible repeat (first | refine blk_drewN ?_ _ | refine blk_drew ?_ | refine blk_alloc ?_ _)); refine blk_far ?_ NB207_218.out _; (with_reducible repeat (first | refine blk_drewN ?_ _ | refine blk_drew ?_ | refine blk_alloc ?_ _)); refine blk_far ?_ NB207_218.out _; (with_reducible repeat (first | refine blk_drewN ?_ _ | refine blk_drew ?_ | refine blk_alloc ?_ _)); exact BK207.out⟩, ⟨by (with_reducible repeat (first | refine blk_drewN ?_ _ | refine blk_drew ?_ | refine blk_alloc ?_ _)); refine blk_far ?_ NB213_218.out _; (with_reducible repeat (first | refine blk_drewN ?_ _ | refine blk_drew ?_ | refine blk_alloc ?_ _)); refine blk_far ?_ NB213_218.out _; (with_reducible repeat (first | refine blk_drewN ?_ _ | refine blk_drew ?_ | refine blk_alloc ?_ _)); refine blk_far ?_ NB213_218.out _; (with_reducible repeat (first | refine blk_drewN ?_ _ | refine blk_drew ?_ | refine blk_alloc ?_ _)); refine blk_far ?_ NB213_218.out _; (with_reducible repeat (first | refine blk_drewN ?_ _ | refine blk_drew ?_ | refine blk_alloc ?_ _)); exact BK213.out⟩, ⟨by (with_reducible repeat (first | refine blk_drewN ?_ _ | refine blk_drew ?_ | refine blk_alloc ?_ _)); refine blk_put (cs := #[.int .i64 t214, .int .i64 t215, .int .i64 t216, .int .i64 0]) ?_ 3 _ rfl; (with_reducible repeat (first | refine blk_drewN ?_ _ | refine blk_drew ?_ | refine blk_alloc ?_ _)); refine blk_put (cs := #[.int .i64 t214, .int .i64 t215, .int .i64 0, .int .i64 0]) ?_ 2 _ rfl; (with_reducible repeat (first | refine blk_drewN ?_ _ | refine blk_drew ?_ | refine blk_alloc ?_ _)); refine blk_put (cs := #[.int .i64 t214, .int .i64 0, .int .i64 0, .int .i64 0]) ?_ 1 _ rfl; (with_reducible repeat (first | refine blk_drewN ?_ _ | refine blk_drew ?_ | refine blk_alloc ?_ _)); refine blk_put (cs := #[.int .i64 0, .int .i64 0, .int .i64 0, .int .i64 0]) ?_ 0 _ rfl; (with_reducible repeat (first | refine blk_drewN ?_ _ | refine blk_drew ?_ | refine blk_alloc ?_ _)); exact BK218.out⟩, ⟨by repeat (first | (with_reducible first | exact HB.out | apply below_alloc | apply pw_below_drewN | apply below_drew1 | refine below_set ?_ GE197.out | refine below_set ?_ GE207.out | refine below_set ?_ GE213.out | refine below_set ?_ GE218.out) | exact HB.out)⟩⟩
        case round =>
          clear H'
          try clear c1
          try clear c2
          try clear p2
          try clear c3
          try clear c4
          try clear c7
          try clear c9
          try clear c11
          try clear c11b0
          try clear c12
          try clear c13
          try clear c13b0
          try clear c13b1
          try clear c14
          try clear c14b0
          try clear c14b1
          try clear c14b2
          try clear c16
          try clear c21
          try clear c25
          try clear c26
          try clear c31
          try clear c32
          try clear c33
          try clear hcz10_0
          try clear hcz17_0
          try clear hcz22_0
          try clear hcz27_0
          try clear hcz28_0
          try clear hcz34_0
          try clear hcz6_0
          try clear hfz10_0
          try clear hfz17_0
          try clear hfz22_0
          try clear hfz27_0
          try clear hfz28_0
          try clear hfz34_0
          try clear hfz6_0
          try clear p2
          obtain ⟨x9_2, x10_2, rfl, rfl, HA, HK2, BK197, BK207, BK213, BK218, HB⟩ := hrel
          cases gk with
          | zero => exact absurd HA.out (by simp [windhoverlaw16_MixerExact.l0])
          | succ k2 =>
            have H := HA.out
            clear HA
            simp only [windhoverlaw16_MixerExact.l0] at H
            by_cases c35 : x10_2 < 8
            · rw [if_pos c35] at H
              have c35b0 : decide (x10_2 < 8) = true := decide_eq_true c35
              clear c35
              by_cases c36 : x10_2 = 0
              · subst c36
                have H1 : (if t198 < 0 then (none) else (if t198 > 584 then (none) else (if a1 = 0 then (if t198 < 50 then (none) else (if t198 > 342 then (none) else (windhoverlaw16_MixerExact.l0 k2 a1 t206 (wrap64 (x9_2 + t198)) 1 t198 t199 t200 t201 t202 t203 t204 t205 t209 t210 t211 t212 t214 t215 t216 t217))) else (windhoverlaw16_MixerExact.l0 k2 a1 t206 (wrap64 (x9_2 + t198)) 1 t198 t199 t200 t201 t202 t203 t204 t205 t209 t210 t211 t212 t214 t215 t216 t217)))) = some r := by rw [if_pos rfl] at H; exact H
                clear H
                have H := H1
                clear H1
                by_cases c37 : t198 < 0
                · rw [if_pos c37] at H
                  exact absurd H (by simp)
                · rw [if_neg c37] at H
                  have c37b0 : decide (t198 < 0) = false := decide_eq_false c37
                  clear c37
                  by_cases c38 : t198 > 584
                  · rw [if_pos c38] at H
                    exact absurd H (by simp)
                  · rw [if_neg c38] at H
                    have c38b0 : decide (584 < t198) = false := decide_eq_false c38
                    clear c38
                    by_cases c39 : a1 = 0
                    · rw [if_pos c39] at H
                      have c39b0 : (a1 == 0) = true := beq_iff_eq.mpr c39
                      have c39b1 : (a1 != 0) = false := bne_eq_false_iff_eq.mpr c39
                      clear c39
                      by_cases c40 : t198 < 50
                      · rw [if_pos c40] at H
                        exact absurd H (by simp)
                      · rw [if_neg c40] at H
                        have c40b0 : decide (t198 < 50) = false := decide_eq_false c40
                        clear c40
                        by_cases c41 : t198 > 342
                        · rw [if_pos c41] at H
                          exact absurd H (by simp)
                        · rw [if_neg c41] at H
                          have c41b0 : decide (342 < t198) = false := decide_eq_false c41
                          clear c41
                          have H' := Aside0.mk H
                          clear H
                          have hnb42 := NB207_197.out
                          have hnc42 := NB197_207.out
                          have hnb43 := NB207_213.out
                          have hnc43 := NB213_207.out
                          have hnb44 := NB207_218.out
                          have hnc44 := NB218_207.out
                          have hcz45_0 := blk_cells8 (w := wr) (g := gb207) BK207.out
                          have hfz45_0 := blk_frozen BK207.out
                          go_wp2
                          go_roundg k2
                          case measure => have := HJ3.out; have := HK2.out; omega
                          case rel => exact ⟨(wrap64 (x9_2 + t198)), (1), (by first | rfl | (simp; done) | (simp [*]; done)), (by first | rfl | (simp; done) | (simp [*]; done)), H', ⟨by have := HJ3.out; have := HK2.out; omega⟩, ⟨by (with_reducible repeat (first | refine blk_drewN ?_ _ | refine blk_drew ?_ | refine blk_alloc ?_ _)); exact BK197.out⟩, ⟨by (with_reducible repeat (first | refine blk_drewN ?_ _ | refine blk_drew ?_ | refine blk_alloc ?_ _)); exact BK207.out⟩, ⟨by (with_reducible repeat (first | refine blk_drewN ?_ _ | refine blk_drew ?_ | refine blk_alloc ?_ _)); exact BK213.out⟩, ⟨by (with_reducible repeat (first | refine blk_drewN ?_ _ | refine blk_drew ?_ | refine blk_alloc ?_ _)); exact BK218.out⟩, ⟨by repeat (first | (with_reducible first | exact HB.out | apply below_alloc | apply pw_below_drewN | apply below_drew1 | refine below_set ?_ GE197.out | refine below_set ?_ GE207.out | refine below_set ?_ GE213.out | refine below_set ?_ GE218.out) | exact HB.out)⟩⟩
                    · rw [if_neg c39] at H
                      have c39b0 : (a1 == 0) = false := beq_eq_false_iff_ne.mpr c39
                      have c39b1 : (a1 != 0) = true := bne_iff_ne.mpr c39
                      have H' := Aside0.mk H
                      clear H
                      have hnb46 := NB207_197.out
                      have hnc46 := NB197_207.out
                      have hnb47 := NB207_213.out
                      have hnc47 := NB213_207.out
                      have hnb48 := NB207_218.out
                      have hnc48 := NB218_207.out
                      have hcz49_0 := blk_cells8 (w := wr) (g := gb207) BK207.out
                      have hfz49_0 := blk_frozen BK207.out
                      go_wp2
                      go_roundg k2
                      case measure => have := HJ3.out; have := HK2.out; omega
                      case rel => exact ⟨(wrap64 (x9_2 + t198)), (1), (by first | rfl | (simp; done) | (simp [*]; done)), (by first | rfl | (simp; done) | (simp [*]; done)), H', ⟨by have := HJ3.out; have := HK2.out; omega⟩, ⟨by (with_reducible repeat (first | refine blk_drewN ?_ _ | refine blk_drew ?_ | refine blk_alloc ?_ _)); exact BK197.out⟩, ⟨by (with_reducible repeat (first | refine blk_drewN ?_ _ | refine blk_drew ?_ | refine blk_alloc ?_ _)); exact BK207.out⟩, ⟨by (with_reducible repeat (first | refine blk_drewN ?_ _ | refine blk_drew ?_ | refine blk_alloc ?_ _)); exact BK213.out⟩, ⟨by (with_reducible repeat (first | refine blk_drewN ?_ _ | refine blk_drew ?_ | refine blk_alloc ?_ _)); exact BK218.out⟩, ⟨by repeat (first | (with_reducible first | exact HB.out | apply below_alloc | apply pw_below_drewN | apply below_drew1 | refine below_set ?_ GE197.out | refine below_set ?_ GE207.out | refine below_set ?_ GE213.out | refine below_set ?_ GE218.out) | exact HB.out)⟩⟩
              rw [if_neg c36] at H
              by_cases c50 : x10_2 = 1
              · subst c50
                have H1 : (if t199 < 0 then (none) else (if t199 > 584 then (none) else (if a1 = 0 then (if t199 < 50 then (none) else (if t199 > 342 then (none) else (windhoverlaw16_MixerExact.l0 k2 a1 t206 (wrap64 (x9_2 + t199)) 2 t198 t199 t200 t201 t202 t203 t204 t205 t209 t210 t211 t212 t214 t215 t216 t217))) else (windhoverlaw16_MixerExact.l0 k2 a1 t206 (wrap64 (x9_2 + t199)) 2 t198 t199 t200 t201 t202 t203 t204 t205 t209 t210 t211 t212 t214 t215 t216 t217)))) = some r := by rw [if_pos rfl] at H; exact H
                clear H
                have H := H1
                clear H1
                by_cases c51 : t199 < 0
                · rw [if_pos c51] at H
                  exact absurd H (by simp)
                · rw [if_neg c51] at H
                  have c51b0 : decide (t199 < 0) = false := decide_eq_false c51
                  clear c51
                  by_cases c52 : t199 > 584
                  · rw [if_pos c52] at H
                    exact absurd H (by simp)
                  · rw [if_neg c52] at H
                    have c52b0 : decide (584 < t199) = false := decide_eq_false c52
                    clear c52
                    by_cases c53 : a1 = 0
                    · rw [if_pos c53] at H
                      have c53b0 : (a1 == 0) = true := beq_iff_eq.mpr c53
                      have c53b1 : (a1 != 0) = false := bne_eq_false_iff_eq.mpr c53
                      clear c53
                      by_cases c54 : t199 < 50
                      · rw [if_pos c54] at H
                        exact absurd H (by simp)
                      · rw [if_neg c54] at H
                        have c54b0 : decide (t199 < 50) = false := decide_eq_false c54
                        clear c54
                        by_cases c55 : t199 > 342
                        · rw [if_pos c55] at H
                          exact absurd H (by simp)
                        · rw [if_neg c55] at H
                          have c55b0 : decide (342 < t199) = false := decide_eq_false c55
                          clear c55
                          have H' := Aside0.mk H
                          clear H
                          have hnb56 := NB207_197.out
                          have hnc56 := NB197_207.out
                          have hnb57 := NB207_213.out
                          have hnc57 := NB213_207.out
                          have hnb58 := NB207_218.out
                          have hnc58 := NB218_207.out
                          have hcz59_0 := blk_cells8 (w := wr) (g := gb207) BK207.out
                          have hfz59_0 := blk_frozen BK207.out
                          go_wp2
                          go_roundg k2
                          case measure => have := HJ3.out; have := HK2.out; omega
                          case rel => exact ⟨(wrap64 (x9_2 + t199)), (2), (by first | rfl | (simp; done) | (simp [*]; done)), (by first | rfl | (simp; done) | (simp [*]; done)), H', ⟨by have := HJ3.out; have := HK2.out; omega⟩, ⟨by (with_reducible repeat (first | refine blk_drewN ?_ _ | refine blk_drew ?_ | refine blk_alloc ?_ _)); exact BK197.out⟩, ⟨by (with_reducible repeat (first | refine blk_drewN ?_ _ | refine blk_drew ?_ | refine blk_alloc ?_ _)); exact BK207.out⟩, ⟨by (with_reducible repeat (first | refine blk_drewN ?_ _ | refine blk_drew ?_ | refine blk_alloc ?_ _)); exact BK213.out⟩, ⟨by (with_reducible repeat (first | refine blk_drewN ?_ _ | refine blk_drew ?_ | refine blk_alloc ?_ _)); exact BK218.out⟩, ⟨by repeat (first | (with_reducible first | exact HB.out | apply below_alloc | apply pw_below_drewN | apply below_drew1 | refine below_set ?_ GE197.out | refine below_set ?_ GE207.out | refine below_set ?_ GE213.out | refine below_set ?_ GE218.out) | exact HB.out)⟩⟩
                    · rw [if_neg c53] at H
                      have c53b0 : (a1 == 0) = false := beq_eq_false_iff_ne.mpr c53
                      have c53b1 : (a1 != 0) = true := bne_iff_ne.mpr c53
                      have H' := Aside0.mk H
                      clear H
                      have hnb60 := NB207_197.out
                      have hnc60 := NB197_207.out
                      have hnb61 := NB207_213.out
                      have hnc61 := NB213_207.out
                      have hnb62 := NB207_218.out
                      have hnc62 := NB218_207.out
                      have hcz63_0 := blk_cells8 (w := wr) (g := gb207) BK207.out
                      have hfz63_0 := blk_frozen BK207.out
                      go_wp2
                      go_roundg k2
                      case measure => have := HJ3.out; have := HK2.out; omega
                      case rel => exact ⟨(wrap64 (x9_2 + t199)), (2), (by first | rfl | (simp; done) | (simp [*]; done)), (by first | rfl | (simp; done) | (simp [*]; done)), H', ⟨by have := HJ3.out; have := HK2.out; omega⟩, ⟨by (with_reducible repeat (first | refine blk_drewN ?_ _ | refine blk_drew ?_ | refine blk_alloc ?_ _)); exact BK197.out⟩, ⟨by (with_reducible repeat (first | refine blk_drewN ?_ _ | refine blk_drew ?_ | refine blk_alloc ?_ _)); exact BK207.out⟩, ⟨by (with_reducible repeat (first | refine blk_drewN ?_ _ | refine blk_drew ?_ | refine blk_alloc ?_ _)); exact BK213.out⟩, ⟨by (with_reducible repeat (first | refine blk_drewN ?_ _ | refine blk_drew ?_ | refine blk_alloc ?_ _)); exact BK218.out⟩, ⟨by repeat (first | (with_reducible first | exact HB.out | apply below_alloc | apply pw_below_drewN | apply below_drew1 | refine below_set ?_ GE197.out | refine below_set ?_ GE207.out | refine below_set ?_ GE213.out | refine below_set ?_ GE218.out) | exact HB.out)⟩⟩
              rw [if_neg c50] at H
              by_cases c64 : x10_2 = 2
              · subst c64
                have H1 : (if t200 < 0 then (none) else (if t200 > 584 then (none) else (if a1 = 0 then (if t200 < 50 then (none) else (if t200 > 342 then (none) else (windhoverlaw16_MixerExact.l0 k2 a1 t206 (wrap64 (x9_2 + t200)) 3 t198 t199 t200 t201 t202 t203 t204 t205 t209 t210 t211 t212 t214 t215 t216 t217))) else (windhoverlaw16_MixerExact.l0 k2 a1 t206 (wrap64 (x9_2 + t200)) 3 t198 t199 t200 t201 t202 t203 t204 t205 t209 t210 t211 t212 t214 t215 t216 t217)))) = some r := by rw [if_pos rfl] at H; exact H
                clear H
                have H := H1
                clear H1
                by_cases c65 : t200 < 0
                · rw [if_pos c65] at H
                  exact absurd H (by simp)
                · rw [if_neg c65] at H
                  have c65b0 : decide (t200 < 0) = false := decide_eq_false c65
                  clear c65
                  by_cases c66 : t200 > 584
                  · rw [if_pos c66] at H
                    exact absurd H (by simp)
                  · rw [if_neg c66] at H
                    have c66b0 : decide (584 < t200) = false := decide_eq_false c66
                    clear c66
                    by_cases c67 : a1 = 0
                    · rw [if_pos c67] at H
                      have c67b0 : (a1 == 0) = true := beq_iff_eq.mpr c67
                      have c67b1 : (a1 != 0) = false := bne_eq_false_iff_eq.mpr c67
                      clear c67
                      by_cases c68 : t200 < 50
                      · rw [if_pos c68] at H
                        exact absurd H (by simp)
                      · rw [if_neg c68] at H
                        have c68b0 : decide (t200 < 50) = false := decide_eq_false c68
                        clear c68
                        by_cases c69 : t200 > 342
                        · rw [if_pos c69] at H
                          exact absurd H (by simp)
                        · rw [if_neg c69] at H
                          have c69b0 : decide (342 < t200) = false := decide_eq_false c69
                          clear c69
                          have H' := Aside0.mk H
                          clear H
                          have hnb70 := NB207_197.out
                          have hnc70 := NB197_207.out
                          have hnb71 := NB207_213.out
                          have hnc71 := NB213_207.out
                          have hnb72 := NB207_218.out
                          have hnc72 := NB218_207.out
                          have hcz73_0 := blk_cells8 (w := wr) (g := gb207) BK207.out
                          have hfz73_0 := blk_frozen BK207.out
                          go_wp2
                          go_roundg k2
                          case measure => have := HJ3.out; have := HK2.out; omega
                          case rel => exact ⟨(wrap64 (x9_2 + t200)), (3), (by first | rfl | (simp; done) | (simp [*]; done)), (by first | rfl | (simp; done) | (simp [*]; done)), H', ⟨by have := HJ3.out; have := HK2.out; omega⟩, ⟨by (with_reducible repeat (first | refine blk_drewN ?_ _ | refine blk_drew ?_ | refine blk_alloc ?_ _)); exact BK197.out⟩, ⟨by (with_reducible repeat (first | refine blk_drewN ?_ _ | refine blk_drew ?_ | refine blk_alloc ?_ _)); exact BK207.out⟩, ⟨by (with_reducible repeat (first | refine blk_drewN ?_ _ | refine blk_drew ?_ | refine blk_alloc ?_ _)); exact BK213.out⟩, ⟨by (with_reducible repeat (first | refine blk_drewN ?_ _ | refine blk_drew ?_ | refine blk_alloc ?_ _)); exact BK218.out⟩, ⟨by repeat (first | (with_reducible first | exact HB.out | apply below_alloc | apply pw_below_drewN | apply below_drew1 | refine below_set ?_ GE197.out | refine below_set ?_ GE207.out | refine below_set ?_ GE213.out | refine below_set ?_ GE218.out) | exact HB.out)⟩⟩
                    · rw [if_neg c67] at H
                      have c67b0 : (a1 == 0) = false := beq_eq_false_iff_ne.mpr c67
                      have c67b1 : (a1 != 0) = true := bne_iff_ne.mpr c67
                      have H' := Aside0.mk H
                      clear H
                      have hnb74 := NB207_197.out
                      have hnc74 := NB197_207.out
                      have hnb75 := NB207_213.out
                      have hnc75 := NB213_207.out
                      have hnb76 := NB207_218.out
                      have hnc76 := NB218_207.out
                      have hcz77_0 := blk_cells8 (w := wr) (g := gb207) BK207.out
                      have hfz77_0 := blk_frozen BK207.out
                      go_wp2
                      go_roundg k2
                      case measure => have := HJ3.out; have := HK2.out; omega
                      case rel => exact ⟨(wrap64 (x9_2 + t200)), (3), (by first | rfl | (simp; done) | (simp [*]; done)), (by first | rfl | (simp; done) | (simp [*]; done)), H', ⟨by have := HJ3.out; have := HK2.out; omega⟩, ⟨by (with_reducible repeat (first | refine blk_drewN ?_ _ | refine blk_drew ?_ | refine blk_alloc ?_ _)); exact BK197.out⟩, ⟨by (with_reducible repeat (first | refine blk_drewN ?_ _ | refine blk_drew ?_ | refine blk_alloc ?_ _)); exact BK207.out⟩, ⟨by (with_reducible repeat (first | refine blk_drewN ?_ _ | refine blk_drew ?_ | refine blk_alloc ?_ _)); exact BK213.out⟩, ⟨by (with_reducible repeat (first | refine blk_drewN ?_ _ | refine blk_drew ?_ | refine blk_alloc ?_ _)); exact BK218.out⟩, ⟨by repeat (first | (with_reducible first | exact HB.out | apply below_alloc | apply pw_below_drewN | apply below_drew1 | refine below_set ?_ GE197.out | refine below_set ?_ GE207.out | refine below_set ?_ GE213.out | refine below_set ?_ GE218.out) | exact HB.out)⟩⟩
              rw [if_neg c64] at H
              by_cases c78 : x10_2 = 3
              · subst c78
                have H1 : (if t201 < 0 then (none) else (if t201 > 584 then (none) else (if a1 = 0 then (if t201 < 50 then (none) else (if t201 > 342 then (none) else (windhoverlaw16_MixerExact.l0 k2 a1 t206 (wrap64 (x9_2 + t201)) 4 t198 t199 t200 t201 t202 t203 t204 t205 t209 t210 t211 t212 t214 t215 t216 t217))) else (windhoverlaw16_MixerExact.l0 k2 a1 t206 (wrap64 (x9_2 + t201)) 4 t198 t199 t200 t201 t202 t203 t204 t205 t209 t210 t211 t212 t214 t215 t216 t217)))) = some r := by rw [if_pos rfl] at H; exact H
                clear H
                have H := H1
                clear H1
                by_cases c79 : t201 < 0
                · rw [if_pos c79] at H
                  exact absurd H (by simp)
                · rw [if_neg c79] at H
                  have c79b0 : decide (t201 < 0) = false := decide_eq_false c79
                  clear c79
                  by_cases c80 : t201 > 584
                  · rw [if_pos c80] at H
                    exact absurd H (by simp)
                  · rw [if_neg c80] at H
                    have c80b0 : decide (584 < t201) = false := decide_eq_false c80
                    clear c80
                    by_cases c81 : a1 = 0
                    · rw [if_pos c81] at H
                      have c81b0 : (a1 == 0) = true := beq_iff_eq.mpr c81
                      have c81b1 : (a1 != 0) = false := bne_eq_false_iff_eq.mpr c81
                      clear c81
                      by_cases c82 : t201 < 50
                      · rw [if_pos c82] at H
                        exact absurd H (by simp)
                      · rw [if_neg c82] at H
                        have c82b0 : decide (t201 < 50) = false := decide_eq_false c82
                        clear c82
                        by_cases c83 : t201 > 342
                        · rw [if_pos c83] at H
                          exact absurd H (by simp)
                        · rw [if_neg c83] at H
                          have c83b0 : decide (342 < t201) = false := decide_eq_false c83
                          clear c83
                          have H' := Aside0.mk H
                          clear H
                          have hnb84 := NB207_197.out
                          have hnc84 := NB197_207.out
                          have hnb85 := NB207_213.out
                          have hnc85 := NB213_207.out
                          have hnb86 := NB207_218.out
                          have hnc86 := NB218_207.out
                          have hcz87_0 := blk_cells8 (w := wr) (g := gb207) BK207.out
                          have hfz87_0 := blk_frozen BK207.out
                          go_wp2
                          go_roundg k2
                          case measure => have := HJ3.out; have := HK2.out; omega
                          case rel => exact ⟨(wrap64 (x9_2 + t201)), (4), (by first | rfl | (simp; done) | (simp [*]; done)), (by first | rfl | (simp; done) | (simp [*]; done)), H', ⟨by have := HJ3.out; have := HK2.out; omega⟩, ⟨by (with_reducible repeat (first | refine blk_drewN ?_ _ | refine blk_drew ?_ | refine blk_alloc ?_ _)); exact BK197.out⟩, ⟨by (with_reducible repeat (first | refine blk_drewN ?_ _ | refine blk_drew ?_ | refine blk_alloc ?_ _)); exact BK207.out⟩, ⟨by (with_reducible repeat (first | refine blk_drewN ?_ _ | refine blk_drew ?_ | refine blk_alloc ?_ _)); exact BK213.out⟩, ⟨by (with_reducible repeat (first | refine blk_drewN ?_ _ | refine blk_drew ?_ | refine blk_alloc ?_ _)); exact BK218.out⟩, ⟨by repeat (first | (with_reducible first | exact HB.out | apply below_alloc | apply pw_below_drewN | apply below_drew1 | refine below_set ?_ GE197.out | refine below_set ?_ GE207.out | refine below_set ?_ GE213.out | refine below_set ?_ GE218.out) | exact HB.out)⟩⟩
                    · rw [if_neg c81] at H
                      have c81b0 : (a1 == 0) = false := beq_eq_false_iff_ne.mpr c81
                      have c81b1 : (a1 != 0) = true := bne_iff_ne.mpr c81
                      have H' := Aside0.mk H
                      clear H
                      have hnb88 := NB207_197.out
                      have hnc88 := NB197_207.out
                      have hnb89 := NB207_213.out
                      have hnc89 := NB213_207.out
                      have hnb90 := NB207_218.out
                      have hnc90 := NB218_207.out
                      have hcz91_0 := blk_cells8 (w := wr) (g := gb207) BK207.out
                      have hfz91_0 := blk_frozen BK207.out
                      go_wp2
                      go_roundg k2
                      case measure => have := HJ3.out; have := HK2.out; omega
                      case rel => exact ⟨(wrap64 (x9_2 + t201)), (4), (by first | rfl | (simp; done) | (simp [*]; done)), (by first | rfl | (simp; done) | (simp [*]; done)), H', ⟨by have := HJ3.out; have := HK2.out; omega⟩, ⟨by (with_reducible repeat (first | refine blk_drewN ?_ _ | refine blk_drew ?_ | refine blk_alloc ?_ _)); exact BK197.out⟩, ⟨by (with_reducible repeat (first | refine blk_drewN ?_ _ | refine blk_drew ?_ | refine blk_alloc ?_ _)); exact BK207.out⟩, ⟨by (with_reducible repeat (first | refine blk_drewN ?_ _ | refine blk_drew ?_ | refine blk_alloc ?_ _)); exact BK213.out⟩, ⟨by (with_reducible repeat (first | refine blk_drewN ?_ _ | refine blk_drew ?_ | refine blk_alloc ?_ _)); exact BK218.out⟩, ⟨by repeat (first | (with_reducible first | exact HB.out | apply below_alloc | apply pw_below_drewN | apply below_drew1 | refine below_set ?_ GE197.out | refine below_set ?_ GE207.out | refine below_set ?_ GE213.out | refine below_set ?_ GE218.out) | exact HB.out)⟩⟩
              rw [if_neg c78] at H
              by_cases c92 : x10_2 = 4
              · subst c92
                have H1 : (if t202 < 0 then (none) else (if t202 > 584 then (none) else (if a1 = 0 then (if t202 < 50 then (none) else (if t202 > 342 then (none) else (windhoverlaw16_MixerExact.l0 k2 a1 t206 (wrap64 (x9_2 + t202)) 5 t198 t199 t200 t201 t202 t203 t204 t205 t209 t210 t211 t212 t214 t215 t216 t217))) else (windhoverlaw16_MixerExact.l0 k2 a1 t206 (wrap64 (x9_2 + t202)) 5 t198 t199 t200 t201 t202 t203 t204 t205 t209 t210 t211 t212 t214 t215 t216 t217)))) = some r := by rw [if_pos rfl] at H; exact H
                clear H
                have H := H1
                clear H1
                by_cases c93 : t202 < 0
                · rw [if_pos c93] at H
                  exact absurd H (by simp)
                · rw [if_neg c93] at H
                  have c93b0 : decide (t202 < 0) = false := decide_eq_false c93
                  clear c93
                  by_cases c94 : t202 > 584
                  · rw [if_pos c94] at H
                    exact absurd H (by simp)
                  · rw [if_neg c94] at H
                    have c94b0 : decide (584 < t202) = false := decide_eq_false c94
                    clear c94
                    by_cases c95 : a1 = 0
                    · rw [if_pos c95] at H
                      have c95b0 : (a1 == 0) = true := beq_iff_eq.mpr c95
                      have c95b1 : (a1 != 0) = false := bne_eq_false_iff_eq.mpr c95
                      clear c95
                      by_cases c96 : t202 < 50
                      · rw [if_pos c96] at H
                        exact absurd H (by simp)
                      · rw [if_neg c96] at H
                        have c96b0 : decide (t202 < 50) = false := decide_eq_false c96
                        clear c96
                        by_cases c97 : t202 > 342
                        · rw [if_pos c97] at H
                          exact absurd H (by simp)
                        · rw [if_neg c97] at H
                          have c97b0 : decide (342 < t202) = false := decide_eq_false c97
                          clear c97
                          have H' := Aside0.mk H
                          clear H
                          have hnb98 := NB207_197.out
                          have hnc98 := NB197_207.out
                          have hnb99 := NB207_213.out
                          have hnc99 := NB213_207.out
                          have hnb100 := NB207_218.out
                          have hnc100 := NB218_207.out
                          have hcz101_0 := blk_cells8 (w := wr) (g := gb207) BK207.out
                          have hfz101_0 := blk_frozen BK207.out
                          go_wp2
                          go_roundg k2
                          case measure => have := HJ3.out; have := HK2.out; omega
                          case rel => exact ⟨(wrap64 (x9_2 + t202)), (5), (by first | rfl | (simp; done) | (simp [*]; done)), (by first | rfl | (simp; done) | (simp [*]; done)), H', ⟨by have := HJ3.out; have := HK2.out; omega⟩, ⟨by (with_reducible repeat (first | refine blk_drewN ?_ _ | refine blk_drew ?_ | refine blk_alloc ?_ _)); exact BK197.out⟩, ⟨by (with_reducible repeat (first | refine blk_drewN ?_ _ | refine blk_drew ?_ | refine blk_alloc ?_ _)); exact BK207.out⟩, ⟨by (with_reducible repeat (first | refine blk_drewN ?_ _ | refine blk_drew ?_ | refine blk_alloc ?_ _)); exact BK213.out⟩, ⟨by (with_reducible repeat (first | refine blk_drewN ?_ _ | refine blk_drew ?_ | refine blk_alloc ?_ _)); exact BK218.out⟩, ⟨by repeat (first | (with_reducible first | exact HB.out | apply below_alloc | apply pw_below_drewN | apply below_drew1 | refine below_set ?_ GE197.out | refine below_set ?_ GE207.out | refine below_set ?_ GE213.out | refine below_set ?_ GE218.out) | exact HB.out)⟩⟩
                    · rw [if_neg c95] at H
                      have c95b0 : (a1 == 0) = false := beq_eq_false_iff_ne.mpr c95
                      have c95b1 : (a1 != 0) = true := bne_iff_ne.mpr c95
                      have H' := Aside0.mk H
                      clear H
                      have hnb102 := NB207_197.out
                      have hnc102 := NB197_207.out
                      have hnb103 := NB207_213.out
                      have hnc103 := NB213_207.out
                      have hnb104 := NB207_218.out
                      have hnc104 := NB218_207.out
                      have hcz105_0 := blk_cells8 (w := wr) (g := gb207) BK207.out
                      have hfz105_0 := blk_frozen BK207.out
                      go_wp2
                      go_roundg k2
                      case measure => have := HJ3.out; have := HK2.out; omega
                      case rel => exact ⟨(wrap64 (x9_2 + t202)), (5), (by first | rfl | (simp; done) | (simp [*]; done)), (by first | rfl | (simp; done) | (simp [*]; done)), H', ⟨by have := HJ3.out; have := HK2.out; omega⟩, ⟨by (with_reducible repeat (first | refine blk_drewN ?_ _ | refine blk_drew ?_ | refine blk_alloc ?_ _)); exact BK197.out⟩, ⟨by (with_reducible repeat (first | refine blk_drewN ?_ _ | refine blk_drew ?_ | refine blk_alloc ?_ _)); exact BK207.out⟩, ⟨by (with_reducible repeat (first | refine blk_drewN ?_ _ | refine blk_drew ?_ | refine blk_alloc ?_ _)); exact BK213.out⟩, ⟨by (with_reducible repeat (first | refine blk_drewN ?_ _ | refine blk_drew ?_ | refine blk_alloc ?_ _)); exact BK218.out⟩, ⟨by repeat (first | (with_reducible first | exact HB.out | apply below_alloc | apply pw_below_drewN | apply below_drew1 | refine below_set ?_ GE197.out | refine below_set ?_ GE207.out | refine below_set ?_ GE213.out | refine below_set ?_ GE218.out) | exact HB.out)⟩⟩
              rw [if_neg c92] at H
              by_cases c106 : x10_2 = 5
              · subst c106
                have H1 : (if t203 < 0 then (none) else (if t203 > 584 then (none) else (if a1 = 0 then (if t203 < 50 then (none) else (if t203 > 342 then (none) else (windhoverlaw16_MixerExact.l0 k2 a1 t206 (wrap64 (x9_2 + t203)) 6 t198 t199 t200 t201 t202 t203 t204 t205 t209 t210 t211 t212 t214 t215 t216 t217))) else (windhoverlaw16_MixerExact.l0 k2 a1 t206 (wrap64 (x9_2 + t203)) 6 t198 t199 t200 t201 t202 t203 t204 t205 t209 t210 t211 t212 t214 t215 t216 t217)))) = some r := by rw [if_pos rfl] at H; exact H
                clear H
                have H := H1
                clear H1
                by_cases c107 : t203 < 0
                · rw [if_pos c107] at H
                  exact absurd H (by simp)
                · rw [if_neg c107] at H
                  have c107b0 : decide (t203 < 0) = false := decide_eq_false c107
                  clear c107
                  by_cases c108 : t203 > 584
                  · rw [if_pos c108] at H
                    exact absurd H (by simp)
                  · rw [if_neg c108] at H
                    have c108b0 : decide (584 < t203) = false := decide_eq_false c108
                    clear c108
                    by_cases c109 : a1 = 0
                    · rw [if_pos c109] at H
                      have c109b0 : (a1 == 0) = true := beq_iff_eq.mpr c109
                      have c109b1 : (a1 != 0) = false := bne_eq_false_iff_eq.mpr c109
                      clear c109
                      by_cases c110 : t203 < 50
                      · rw [if_pos c110] at H
                        exact absurd H (by simp)
                      · rw [if_neg c110] at H
                        have c110b0 : decide (t203 < 50) = false := decide_eq_false c110
                        clear c110
                        by_cases c111 : t203 > 342
                        · rw [if_pos c111] at H
                          exact absurd H (by simp)
                        · rw [if_neg c111] at H
                          have c111b0 : decide (342 < t203) = false := decide_eq_false c111
                          clear c111
                          have H' := Aside0.mk H
                          clear H
                          have hnb112 := NB207_197.out
                          have hnc112 := NB197_207.out
                          have hnb113 := NB207_213.out
                          have hnc113 := NB213_207.out
                          have hnb114 := NB207_218.out
                          have hnc114 := NB218_207.out
                          have hcz115_0 := blk_cells8 (w := wr) (g := gb207) BK207.out
                          have hfz115_0 := blk_frozen BK207.out
                          go_wp2
                          go_roundg k2
                          case measure => have := HJ3.out; have := HK2.out; omega
                          case rel => exact ⟨(wrap64 (x9_2 + t203)), (6), (by first | rfl | (simp; done) | (simp [*]; done)), (by first | rfl | (simp; done) | (simp [*]; done)), H', ⟨by have := HJ3.out; have := HK2.out; omega⟩, ⟨by (with_reducible repeat (first | refine blk_drewN ?_ _ | refine blk_drew ?_ | refine blk_alloc ?_ _)); exact BK197.out⟩, ⟨by (with_reducible repeat (first | refine blk_drewN ?_ _ | refine blk_drew ?_ | refine blk_alloc ?_ _)); exact BK207.out⟩, ⟨by (with_reducible repeat (first | refine blk_drewN ?_ _ | refine blk_drew ?_ | refine blk_alloc ?_ _)); exact BK213.out⟩, ⟨by (with_reducible repeat (first | refine blk_drewN ?_ _ | refine blk_drew ?_ | refine blk_alloc ?_ _)); exact BK218.out⟩, ⟨by repeat (first | (with_reducible first | exact HB.out | apply below_alloc | apply pw_below_drewN | apply below_drew1 | refine below_set ?_ GE197.out | refine below_set ?_ GE207.out | refine below_set ?_ GE213.out | refine below_set ?_ GE218.out) | exact HB.out)⟩⟩
                    · rw [if_neg c109] at H
                      have c109b0 : (a1 == 0) = false := beq_eq_false_iff_ne.mpr c109
                      have c109b1 : (a1 != 0) = true := bne_iff_ne.mpr c109
                      have H' := Aside0.mk H
                      clear H
                      have hnb116 := NB207_197.out
                      have hnc116 := NB197_207.out
                      have hnb117 := NB207_213.out
                      have hnc117 := NB213_207.out
                      have hnb118 := NB207_218.out
                      have hnc118 := NB218_207.out
                      have hcz119_0 := blk_cells8 (w := wr) (g := gb207) BK207.out
                      have hfz119_0 := blk_frozen BK207.out
                      go_wp2
                      go_roundg k2
                      case measure => have := HJ3.out; have := HK2.out; omega
                      case rel => exact ⟨(wrap64 (x9_2 + t203)), (6), (by first | rfl | (simp; done) | (simp [*]; done)), (by first | rfl | (simp; done) | (simp [*]; done)), H', ⟨by have := HJ3.out; have := HK2.out; omega⟩, ⟨by (with_reducible repeat (first | refine blk_drewN ?_ _ | refine blk_drew ?_ | refine blk_alloc ?_ _)); exact BK197.out⟩, ⟨by (with_reducible repeat (first | refine blk_drewN ?_ _ | refine blk_drew ?_ | refine blk_alloc ?_ _)); exact BK207.out⟩, ⟨by (with_reducible repeat (first | refine blk_drewN ?_ _ | refine blk_drew ?_ | refine blk_alloc ?_ _)); exact BK213.out⟩, ⟨by (with_reducible repeat (first | refine blk_drewN ?_ _ | refine blk_drew ?_ | refine blk_alloc ?_ _)); exact BK218.out⟩, ⟨by repeat (first | (with_reducible first | exact HB.out | apply below_alloc | apply pw_below_drewN | apply below_drew1 | refine below_set ?_ GE197.out | refine below_set ?_ GE207.out | refine below_set ?_ GE213.out | refine below_set ?_ GE218.out) | exact HB.out)⟩⟩
              rw [if_neg c106] at H
              by_cases c120 : x10_2 = 6
              · subst c120
                have H1 : (if t204 < 0 then (none) else (if t204 > 584 then (none) else (if a1 = 0 then (if t204 < 50 then (none) else (if t204 > 342 then (none) else (windhoverlaw16_MixerExact.l0 k2 a1 t206 (wrap64 (x9_2 + t204)) 7 t198 t199 t200 t201 t202 t203 t204 t205 t209 t210 t211 t212 t214 t215 t216 t217))) else (windhoverlaw16_MixerExact.l0 k2 a1 t206 (wrap64 (x9_2 + t204)) 7 t198 t199 t200 t201 t202 t203 t204 t205 t209 t210 t211 t212 t214 t215 t216 t217)))) = some r := by rw [if_pos rfl] at H; exact H
                clear H
                have H := H1
                clear H1
                by_cases c121 : t204 < 0
                · rw [if_pos c121] at H
                  exact absurd H (by simp)
                · rw [if_neg c121] at H
                  have c121b0 : decide (t204 < 0) = false := decide_eq_false c121
                  clear c121
                  by_cases c122 : t204 > 584
                  · rw [if_pos c122] at H
                    exact absurd H (by simp)
                  · rw [if_neg c122] at H
                    have c122b0 : decide (584 < t204) = false := decide_eq_false c122
                    clear c122
                    by_cases c123 : a1 = 0
                    · rw [if_pos c123] at H
                      have c123b0 : (a1 == 0) = true := beq_iff_eq.mpr c123
                      have c123b1 : (a1 != 0) = false := bne_eq_false_iff_eq.mpr c123
                      clear c123
                      by_cases c124 : t204 < 50
                      · rw [if_pos c124] at H
                        exact absurd H (by simp)
                      · rw [if_neg c124] at H
                        have c124b0 : decide (t204 < 50) = false := decide_eq_false c124
                        clear c124
                        by_cases c125 : t204 > 342
                        · rw [if_pos c125] at H
                          exact absurd H (by simp)
                        · rw [if_neg c125] at H
                          have c125b0 : decide (342 < t204) = false := decide_eq_false c125
                          clear c125
                          have H' := Aside0.mk H
                          clear H
                          have hnb126 := NB207_197.out
                          have hnc126 := NB197_207.out
                          have hnb127 := NB207_213.out
                          have hnc127 := NB213_207.out
                          have hnb128 := NB207_218.out
                          have hnc128 := NB218_207.out
                          have hcz129_0 := blk_cells8 (w := wr) (g := gb207) BK207.out
                          have hfz129_0 := blk_frozen BK207.out
                          go_wp2
                          go_roundg k2
                          case measure => have := HJ3.out; have := HK2.out; omega
                          case rel => exact ⟨(wrap64 (x9_2 + t204)), (7), (by first | rfl | (simp; done) | (simp [*]; done)), (by first | rfl | (simp; done) | (simp [*]; done)), H', ⟨by have := HJ3.out; have := HK2.out; omega⟩, ⟨by (with_reducible repeat (first | refine blk_drewN ?_ _ | refine blk_drew ?_ | refine blk_alloc ?_ _)); exact BK197.out⟩, ⟨by (with_reducible repeat (first | refine blk_drewN ?_ _ | refine blk_drew ?_ | refine blk_alloc ?_ _)); exact BK207.out⟩, ⟨by (with_reducible repeat (first | refine blk_drewN ?_ _ | refine blk_drew ?_ | refine blk_alloc ?_ _)); exact BK213.out⟩, ⟨by (with_reducible repeat (first | refine blk_drewN ?_ _ | refine blk_drew ?_ | refine blk_alloc ?_ _)); exact BK218.out⟩, ⟨by repeat (first | (with_reducible first | exact HB.out | apply below_alloc | apply pw_below_drewN | apply below_drew1 | refine below_set ?_ GE197.out | refine below_set ?_ GE207.out | refine below_set ?_ GE213.out | refine below_set ?_ GE218.out) | exact HB.out)⟩⟩
                    · rw [if_neg c123] at H
                      have c123b0 : (a1 == 0) = false := beq_eq_false_iff_ne.mpr c123
                      have c123b1 : (a1 != 0) = true := bne_iff_ne.mpr c123
                      have H' := Aside0.mk H
                      clear H
                      have hnb130 := NB207_197.out
                      have hnc130 := NB197_207.out
                      have hnb131 := NB207_213.out
                      have hnc131 := NB213_207.out
                      have hnb132 := NB207_218.out
                      have hnc132 := NB218_207.out
                      have hcz133_0 := blk_cells8 (w := wr) (g := gb207) BK207.out
                      have hfz133_0 := blk_frozen BK207.out
                      go_wp2
                      go_roundg k2
                      case measure => have := HJ3.out; have := HK2.out; omega
                      case rel => exact ⟨(wrap64 (x9_2 + t204)), (7), (by first | rfl | (simp; done) | (simp [*]; done)), (by first | rfl | (simp; done) | (simp [*]; done)), H', ⟨by have := HJ3.out; have := HK2.out; omega⟩, ⟨by (with_reducible repeat (first | refine blk_drewN ?_ _ | refine blk_drew ?_ | refine blk_alloc ?_ _)); exact BK197.out⟩, ⟨by (with_reducible repeat (first | refine blk_drewN ?_ _ | refine blk_drew ?_ | refine blk_alloc ?_ _)); exact BK207.out⟩, ⟨by (with_reducible repeat (first | refine blk_drewN ?_ _ | refine blk_drew ?_ | refine blk_alloc ?_ _)); exact BK213.out⟩, ⟨by (with_reducible repeat (first | refine blk_drewN ?_ _ | refine blk_drew ?_ | refine blk_alloc ?_ _)); exact BK218.out⟩, ⟨by repeat (first | (with_reducible first | exact HB.out | apply below_alloc | apply pw_below_drewN | apply below_drew1 | refine below_set ?_ GE197.out | refine below_set ?_ GE207.out | refine below_set ?_ GE213.out | refine below_set ?_ GE218.out) | exact HB.out)⟩⟩
              rw [if_neg c120] at H
              by_cases c134 : x10_2 = 7
              · subst c134
                have H1 : (if t205 < 0 then (none) else (if t205 > 584 then (none) else (if a1 = 0 then (if t205 < 50 then (none) else (if t205 > 342 then (none) else (windhoverlaw16_MixerExact.l0 k2 a1 t206 (wrap64 (x9_2 + t205)) 8 t198 t199 t200 t201 t202 t203 t204 t205 t209 t210 t211 t212 t214 t215 t216 t217))) else (windhoverlaw16_MixerExact.l0 k2 a1 t206 (wrap64 (x9_2 + t205)) 8 t198 t199 t200 t201 t202 t203 t204 t205 t209 t210 t211 t212 t214 t215 t216 t217)))) = some r := by rw [if_pos rfl] at H; exact H
                clear H
                have H := H1
                clear H1
                by_cases c135 : t205 < 0
                · rw [if_pos c135] at H
                  exact absurd H (by simp)
                · rw [if_neg c135] at H
                  have c135b0 : decide (t205 < 0) = false := decide_eq_false c135
                  clear c135
                  by_cases c136 : t205 > 584
                  · rw [if_pos c136] at H
                    exact absurd H (by simp)
                  · rw [if_neg c136] at H
                    have c136b0 : decide (584 < t205) = false := decide_eq_false c136
                    clear c136
                    by_cases c137 : a1 = 0
                    · rw [if_pos c137] at H
                      have c137b0 : (a1 == 0) = true := beq_iff_eq.mpr c137
                      have c137b1 : (a1 != 0) = false := bne_eq_false_iff_eq.mpr c137
                      clear c137
                      by_cases c138 : t205 < 50
                      · rw [if_pos c138] at H
                        exact absurd H (by simp)
                      · rw [if_neg c138] at H
                        have c138b0 : decide (t205 < 50) = false := decide_eq_false c138
                        clear c138
                        by_cases c139 : t205 > 342
                        · rw [if_pos c139] at H
                          exact absurd H (by simp)
                        · rw [if_neg c139] at H
                          have c139b0 : decide (342 < t205) = false := decide_eq_false c139
                          clear c139
                          have H' := Aside0.mk H
                          clear H
                          have hnb140 := NB207_197.out
                          have hnc140 := NB197_207.out
                          have hnb141 := NB207_213.out
                          have hnc141 := NB213_207.out
                          have hnb142 := NB207_218.out
                          have hnc142 := NB218_207.out
                          have hcz143_0 := blk_cells8 (w := wr) (g := gb207) BK207.out
                          have hfz143_0 := blk_frozen BK207.out
                          go_wp2
                          go_roundg k2
                          case measure => have := HJ3.out; have := HK2.out; omega
                          case rel => exact ⟨(wrap64 (x9_2 + t205)), (8), (by first | rfl | (simp; done) | (simp [*]; done)), (by first | rfl | (simp; done) | (simp [*]; done)), H', ⟨by have := HJ3.out; have := HK2.out; omega⟩, ⟨by (with_reducible repeat (first | refine blk_drewN ?_ _ | refine blk_drew ?_ | refine blk_alloc ?_ _)); exact BK197.out⟩, ⟨by (with_reducible repeat (first | refine blk_drewN ?_ _ | refine blk_drew ?_ | refine blk_alloc ?_ _)); exact BK207.out⟩, ⟨by (with_reducible repeat (first | refine blk_drewN ?_ _ | refine blk_drew ?_ | refine blk_alloc ?_ _)); exact BK213.out⟩, ⟨by (with_reducible repeat (first | refine blk_drewN ?_ _ | refine blk_drew ?_ | refine blk_alloc ?_ _)); exact BK218.out⟩, ⟨by repeat (first | (with_reducible first | exact HB.out | apply below_alloc | apply pw_below_drewN | apply below_drew1 | refine below_set ?_ GE197.out | refine below_set ?_ GE207.out | refine below_set ?_ GE213.out | refine below_set ?_ GE218.out) | exact HB.out)⟩⟩
                    · rw [if_neg c137] at H
                      have c137b0 : (a1 == 0) = false := beq_eq_false_iff_ne.mpr c137
                      have c137b1 : (a1 != 0) = true := bne_iff_ne.mpr c137
                      have H' := Aside0.mk H
                      clear H
                      have hnb144 := NB207_197.out
                      have hnc144 := NB197_207.out
                      have hnb145 := NB207_213.out
                      have hnc145 := NB213_207.out
                      have hnb146 := NB207_218.out
                      have hnc146 := NB218_207.out
                      have hcz147_0 := blk_cells8 (w := wr) (g := gb207) BK207.out
                      have hfz147_0 := blk_frozen BK207.out
                      go_wp2
                      go_roundg k2
                      case measure => have := HJ3.out; have := HK2.out; omega
                      case rel => exact ⟨(wrap64 (x9_2 + t205)), (8), (by first | rfl | (simp; done) | (simp [*]; done)), (by first | rfl | (simp; done) | (simp [*]; done)), H', ⟨by have := HJ3.out; have := HK2.out; omega⟩, ⟨by (with_reducible repeat (first | refine blk_drewN ?_ _ | refine blk_drew ?_ | refine blk_alloc ?_ _)); exact BK197.out⟩, ⟨by (with_reducible repeat (first | refine blk_drewN ?_ _ | refine blk_drew ?_ | refine blk_alloc ?_ _)); exact BK207.out⟩, ⟨by (with_reducible repeat (first | refine blk_drewN ?_ _ | refine blk_drew ?_ | refine blk_alloc ?_ _)); exact BK213.out⟩, ⟨by (with_reducible repeat (first | refine blk_drewN ?_ _ | refine blk_drew ?_ | refine blk_alloc ?_ _)); exact BK218.out⟩, ⟨by repeat (first | (with_reducible first | exact HB.out | apply below_alloc | apply pw_below_drewN | apply below_drew1 | refine below_set ?_ GE197.out | refine below_set ?_ GE207.out | refine below_set ?_ GE213.out | refine below_set ?_ GE218.out) | exact HB.out)⟩⟩
              rw [if_neg c134] at H
              exact absurd H (by simp)
            · rw [if_neg c35] at H
              have c35b0 : decide (x10_2 < 8) = false := decide_eq_false c35
              clear c35
              by_cases c148 : a1 > 0
              · rw [if_pos c148] at H
                have c148b0 : decide (0 < a1) = true := decide_eq_true c148
                clear c148
                by_cases c149 : a1 = 1
                · subst c149
                  have H1 : (if t198 = 0 then (if x9_2 = (wrap64 (4 * t209)) then (if t206 = 0 then (if t214 = t209 then (if t215 = t210 then (if t216 = t211 then ((windhoverlaw16_awake.f k2).bind fun t219 => (some t219)) else (none)) else (none)) else (none)) else (none)) else (none)) else (none)) = some r := by rw [if_pos rfl] at H; exact H
                  clear H
                  have H := H1
                  clear H1
                  by_cases c150 : t198 = 0
                  · rw [if_pos c150] at H
                    have c150b0 : (t198 == 0) = true := beq_iff_eq.mpr c150
                    have c150b1 : (t198 != 0) = false := bne_eq_false_iff_eq.mpr c150
                    clear c150
                    by_cases c151 : x9_2 = (wrap64 (4 * t209))
                    · rw [if_pos c151] at H
                      have c151b0 : (x9_2 == (wrap64 (4 * t209))) = true := beq_iff_eq.mpr c151
                      have c151b1 : (x9_2 != (wrap64 (4 * t209))) = false := bne_eq_false_iff_eq.mpr c151
                      clear c151
                      by_cases c152 : t206 = 0
                      · rw [if_pos c152] at H
                        have c152b0 : (t206 == 0) = true := beq_iff_eq.mpr c152
                        have c152b1 : (t206 != 0) = false := bne_eq_false_iff_eq.mpr c152
                        clear c152
                        by_cases c153 : t214 = t209
                        · rw [if_pos c153] at H
                          have c153b0 : (t214 == t209) = true := beq_iff_eq.mpr c153
                          have c153b1 : (t214 != t209) = false := bne_eq_false_iff_eq.mpr c153
                          clear c153
                          by_cases c154 : t215 = t210
                          · rw [if_pos c154] at H
                            have c154b0 : (t215 == t210) = true := beq_iff_eq.mpr c154
                            have c154b1 : (t215 != t210) = false := bne_eq_false_iff_eq.mpr c154
                            clear c154
                            by_cases c155 : t216 = t211
                            · rw [if_pos c155] at H
                              have c155b0 : (t216 == t211) = true := beq_iff_eq.mpr c155
                              have c155b1 : (t216 != t211) = false := bne_eq_false_iff_eq.mpr c155
                              clear c155
                              replace H := Option.bind_eq_some_iff.mp H
                              obtain ⟨t219, A1560, H⟩ := H
                              replace H : (some t219) = some r := H
                              have A156 := Aside0.mk A1560
                              clear A1560
                              obtain rfl := Option.some.inj H
                              have hnb157 := NB207_197.out
                              have hnc157 := NB197_207.out
                              have hnb158 := NB207_213.out
                              have hnc158 := NB213_207.out
                              have hnb159 := NB207_218.out
                              have hnc159 := NB218_207.out
                              have hcz160_0 := blk_cells8 (w := wr) (g := gb207) BK207.out
                              have hfz160_0 := blk_frozen BK207.out
                              have hnb161 := NB213_197.out
                              have hnc161 := NB197_213.out
                              have hnb162 := NB213_218.out
                              have hnc162 := NB218_213.out
                              have hcz163_0 := blk_cells4 (w := wr) (g := gb213) BK213.out
                              have hfz163_0 := blk_frozen BK213.out
                              have hnb164 := NB218_197.out
                              have hnc164 := NB197_218.out
                              have hcz165_0 := blk_cells4 (w := wr) (g := gb218) BK218.out
                              have hfz165_0 := blk_frozen BK218.out
                              go_wp2_with (first | (go_at_call 13; (with_reducible refine (windhoverlaw16_awake.calls k2  t219 _ A156.out).mono ?_); rintro e w166 ⟨rfl, hb⟩; have n0_ := Aside0.mk (blk_below (g := gb197) (o := .cells #[.int .i64 a0_0, .int .i64 a0_1, .int .i64 a0_2, .int .i64 a0_3] 23 (0, 0)) (by (with_reducible repeat (first | refine blk_drewN ?_ _ | refine blk_drew ?_ | refine blk_alloc ?_ _)); exact BK197.out) hb); have n1_ := Aside0.mk (blk_below (g := gb207) (o := .cells #[.int .i64 t198, .int .i64 t199, .int .i64 t200, .int .i64 t201, .int .i64 t202, .int .i64 t203, .int .i64 t204, .int .i64 t205] 24 (0, 0)) (by (with_reducible repeat (first | refine blk_drewN ?_ _ | refine blk_drew ?_ | refine blk_alloc ?_ _)); exact BK207.out) hb); have n2_ := Aside0.mk (blk_below (g := gb213) (o := .cells #[.int .i64 t209, .int .i64 t210, .int .i64 t211, .int .i64 t212] 23 (0, 0)) (by (with_reducible repeat (first | refine blk_drewN ?_ _ | refine blk_drew ?_ | refine blk_alloc ?_ _)); exact BK213.out) hb); have n3_ := Aside0.mk (blk_below (g := gb218) (o := .cells #[.int .i64 t214, .int .i64 t215, .int .i64 t216, .int .i64 t217] 23 (0, 0)) (by (with_reducible repeat (first | refine blk_drewN ?_ _ | refine blk_drew ?_ | refine blk_alloc ?_ _)); exact BK218.out) hb); have n4_ := Aside0.mk (below_step (by repeat (first | (with_reducible first | exact HB.out | apply below_alloc | apply pw_below_drewN | apply below_drew1 | refine below_set ?_ GE197.out | refine below_set ?_ GE207.out | refine below_set ?_ GE213.out | refine below_set ?_ GE218.out) | exact HB.out)) hb); clear BK197; clear BK207; clear BK213; clear BK218; clear HB; have BK197 := n0_; have BK207 := n1_; have BK213 := n2_; have BK218 := n3_; have HB := n4_; clear n0_ n1_ n2_ n3_ n4_; (try clear hb); (try clear hb2); (try clear hk); (try clear hi)))
                              go_ret
                              exact ⟨by first | rfl | (simp [errW_none, errW_some] <;> rfl) | (simp [*, errW_none, errW_some] <;> rfl), by repeat (first | (with_reducible first | exact HB.out | apply below_alloc | apply pw_below_drewN | apply below_drew1 | refine below_set ?_ GE197.out | refine below_set ?_ GE207.out | refine below_set ?_ GE213.out | refine below_set ?_ GE218.out) | exact HB.out)⟩
                            · rw [if_neg c155] at H
                              exact absurd H (by simp)
                          · rw [if_neg c154] at H
                            exact absurd H (by simp)
                        · rw [if_neg c153] at H
                          exact absurd H (by simp)
                      · rw [if_neg c152] at H
                        exact absurd H (by simp)
                    · rw [if_neg c151] at H
                      exact absurd H (by simp)
                  · rw [if_neg c150] at H
                    exact absurd H (by simp)
                rw [if_neg c149] at H
                by_cases c167 : a1 = 2
                · subst c167
                  have H1 : (if t199 = 0 then (if x9_2 = (wrap64 (4 * t209)) then (if t206 = 0 then (if t214 = t209 then (if t215 = t210 then (if t216 = t211 then ((windhoverlaw16_awake.f k2).bind fun t220 => (some t220)) else (none)) else (none)) else (none)) else (none)) else (none)) else (none)) = some r := by rw [if_pos rfl] at H; exact H
                  clear H
                  have H := H1
                  clear H1
                  by_cases c168 : t199 = 0
                  · rw [if_pos c168] at H
                    have c168b0 : (t199 == 0) = true := beq_iff_eq.mpr c168
                    have c168b1 : (t199 != 0) = false := bne_eq_false_iff_eq.mpr c168
                    clear c168
                    by_cases c169 : x9_2 = (wrap64 (4 * t209))
                    · rw [if_pos c169] at H
                      have c169b0 : (x9_2 == (wrap64 (4 * t209))) = true := beq_iff_eq.mpr c169
                      have c169b1 : (x9_2 != (wrap64 (4 * t209))) = false := bne_eq_false_iff_eq.mpr c169
                      clear c169
                      by_cases c170 : t206 = 0
                      · rw [if_pos c170] at H
                        have c170b0 : (t206 == 0) = true := beq_iff_eq.mpr c170
                        have c170b1 : (t206 != 0) = false := bne_eq_false_iff_eq.mpr c170
                        clear c170
                        by_cases c171 : t214 = t209
                        · rw [if_pos c171] at H
                          have c171b0 : (t214 == t209) = true := beq_iff_eq.mpr c171
                          have c171b1 : (t214 != t209) = false := bne_eq_false_iff_eq.mpr c171
                          clear c171
                          by_cases c172 : t215 = t210
                          · rw [if_pos c172] at H
                            have c172b0 : (t215 == t210) = true := beq_iff_eq.mpr c172
                            have c172b1 : (t215 != t210) = false := bne_eq_false_iff_eq.mpr c172
                            clear c172
                            by_cases c173 : t216 = t211
                            · rw [if_pos c173] at H
                              have c173b0 : (t216 == t211) = true := beq_iff_eq.mpr c173
                              have c173b1 : (t216 != t211) = false := bne_eq_false_iff_eq.mpr c173
                              clear c173
                              replace H := Option.bind_eq_some_iff.mp H
                              obtain ⟨t220, A1740, H⟩ := H
                              replace H : (some t220) = some r := H
                              have A174 := Aside0.mk A1740
                              clear A1740
                              obtain rfl := Option.some.inj H
                              have hnb175 := NB207_197.out
                              have hnc175 := NB197_207.out
                              have hnb176 := NB207_213.out
                              have hnc176 := NB213_207.out
                              have hnb177 := NB207_218.out
                              have hnc177 := NB218_207.out
                              have hcz178_0 := blk_cells8 (w := wr) (g := gb207) BK207.out
                              have hfz178_0 := blk_frozen BK207.out
                              have hnb179 := NB213_197.out
                              have hnc179 := NB197_213.out
                              have hnb180 := NB213_218.out
                              have hnc180 := NB218_213.out
                              have hcz181_0 := blk_cells4 (w := wr) (g := gb213) BK213.out
                              have hfz181_0 := blk_frozen BK213.out
                              have hnb182 := NB218_197.out
                              have hnc182 := NB197_218.out
                              have hcz183_0 := blk_cells4 (w := wr) (g := gb218) BK218.out
                              have hfz183_0 := blk_frozen BK218.out
                              go_wp2_with (first | (go_at_call 13; (with_reducible refine (windhoverlaw16_awake.calls k2  t220 _ A174.out).mono ?_); rintro e w184 ⟨rfl, hb⟩; have n0_ := Aside0.mk (blk_below (g := gb197) (o := .cells #[.int .i64 a0_0, .int .i64 a0_1, .int .i64 a0_2, .int .i64 a0_3] 23 (0, 0)) (by (with_reducible repeat (first | refine blk_drewN ?_ _ | refine blk_drew ?_ | refine blk_alloc ?_ _)); exact BK197.out) hb); have n1_ := Aside0.mk (blk_below (g := gb207) (o := .cells #[.int .i64 t198, .int .i64 t199, .int .i64 t200, .int .i64 t201, .int .i64 t202, .int .i64 t203, .int .i64 t204, .int .i64 t205] 24 (0, 0)) (by (with_reducible repeat (first | refine blk_drewN ?_ _ | refine blk_drew ?_ | refine blk_alloc ?_ _)); exact BK207.out) hb); have n2_ := Aside0.mk (blk_below (g := gb213) (o := .cells #[.int .i64 t209, .int .i64 t210, .int .i64 t211, .int .i64 t212] 23 (0, 0)) (by (with_reducible repeat (first | refine blk_drewN ?_ _ | refine blk_drew ?_ | refine blk_alloc ?_ _)); exact BK213.out) hb); have n3_ := Aside0.mk (blk_below (g := gb218) (o := .cells #[.int .i64 t214, .int .i64 t215, .int .i64 t216, .int .i64 t217] 23 (0, 0)) (by (with_reducible repeat (first | refine blk_drewN ?_ _ | refine blk_drew ?_ | refine blk_alloc ?_ _)); exact BK218.out) hb); have n4_ := Aside0.mk (below_step (by repeat (first | (with_reducible first | exact HB.out | apply below_alloc | apply pw_below_drewN | apply below_drew1 | refine below_set ?_ GE197.out | refine below_set ?_ GE207.out | refine below_set ?_ GE213.out | refine below_set ?_ GE218.out) | exact HB.out)) hb); clear BK197; clear BK207; clear BK213; clear BK218; clear HB; have BK197 := n0_; have BK207 := n1_; have BK213 := n2_; have BK218 := n3_; have HB := n4_; clear n0_ n1_ n2_ n3_ n4_; (try clear hb); (try clear hb2); (try clear hk); (try clear hi)))
                              go_ret
                              exact ⟨by first | rfl | (simp [errW_none, errW_some] <;> rfl) | (simp [*, errW_none, errW_some] <;> rfl), by repeat (first | (with_reducible first | exact HB.out | apply below_alloc | apply pw_below_drewN | apply below_drew1 | refine below_set ?_ GE197.out | refine below_set ?_ GE207.out | refine below_set ?_ GE213.out | refine below_set ?_ GE218.out) | exact HB.out)⟩
                            · rw [if_neg c173] at H
                              exact absurd H (by simp)
                          · rw [if_neg c172] at H
                            exact absurd H (by simp)
                        · rw [if_neg c171] at H
                          exact absurd H (by simp)
                      · rw [if_neg c170] at H
                        exact absurd H (by simp)
                    · rw [if_neg c169] at H
                      exact absurd H (by simp)
                  · rw [if_neg c168] at H
                    exact absurd H (by simp)
                rw [if_neg c167] at H
                by_cases c185 : a1 = 3
                · subst c185
                  have H1 : (if t200 = 0 then (if x9_2 = (wrap64 (4 * t209)) then (if t206 = 0 then (if t214 = t209 then (if t215 = t210 then (if t216 = t211 then ((windhoverlaw16_awake.f k2).bind fun t221 => (some t221)) else (none)) else (none)) else (none)) else (none)) else (none)) else (none)) = some r := by rw [if_pos rfl] at H; exact H
                  clear H
                  have H := H1
                  clear H1
                  by_cases c186 : t200 = 0
                  · rw [if_pos c186] at H
                    have c186b0 : (t200 == 0) = true := beq_iff_eq.mpr c186
                    have c186b1 : (t200 != 0) = false := bne_eq_false_iff_eq.mpr c186
                    clear c186
                    by_cases c187 : x9_2 = (wrap64 (4 * t209))
                    · rw [if_pos c187] at H
                      have c187b0 : (x9_2 == (wrap64 (4 * t209))) = true := beq_iff_eq.mpr c187
                      have c187b1 : (x9_2 != (wrap64 (4 * t209))) = false := bne_eq_false_iff_eq.mpr c187
                      clear c187
                      by_cases c188 : t206 = 0
                      · rw [if_pos c188] at H
                        have c188b0 : (t206 == 0) = true := beq_iff_eq.mpr c188
                        have c188b1 : (t206 != 0) = false := bne_eq_false_iff_eq.mpr c188
                        clear c188
                        by_cases c189 : t214 = t209
                        · rw [if_pos c189] at H
                          have c189b0 : (t214 == t209) = true := beq_iff_eq.mpr c189
                          have c189b1 : (t214 != t209) = false := bne_eq_false_iff_eq.mpr c189
                          clear c189
                          by_cases c190 : t215 = t210
                          · rw [if_pos c190] at H
                            have c190b0 : (t215 == t210) = true := beq_iff_eq.mpr c190
                            have c190b1 : (t215 != t210) = false := bne_eq_false_iff_eq.mpr c190
                            clear c190
                            by_cases c191 : t216 = t211
                            · rw [if_pos c191] at H
                              have c191b0 : (t216 == t211) = true := beq_iff_eq.mpr c191
                              have c191b1 : (t216 != t211) = false := bne_eq_false_iff_eq.mpr c191
                              clear c191
                              replace H := Option.bind_eq_some_iff.mp H
                              obtain ⟨t221, A1920, H⟩ := H
                              replace H : (some t221) = some r := H
                              have A192 := Aside0.mk A1920
                              clear A1920
                              obtain rfl := Option.some.inj H
                              have hnb193 := NB207_197.out
                              have hnc193 := NB197_207.out
                              have hnb194 := NB207_213.out
                              have hnc194 := NB213_207.out
                              have hnb195 := NB207_218.out
                              have hnc195 := NB218_207.out
                              have hcz196_0 := blk_cells8 (w := wr) (g := gb207) BK207.out
                              have hfz196_0 := blk_frozen BK207.out
                              have hnb197 := NB213_197.out
                              have hnc197 := NB197_213.out
                              have hnb198 := NB213_218.out
                              have hnc198 := NB218_213.out
                              have hcz199_0 := blk_cells4 (w := wr) (g := gb213) BK213.out
                              have hfz199_0 := blk_frozen BK213.out
                              have hnb200 := NB218_197.out
                              have hnc200 := NB197_218.out
                              have hcz201_0 := blk_cells4 (w := wr) (g := gb218) BK218.out
                              have hfz201_0 := blk_frozen BK218.out
                              go_wp2_with (first | (go_at_call 13; (with_reducible refine (windhoverlaw16_awake.calls k2  t221 _ A192.out).mono ?_); rintro e w202 ⟨rfl, hb⟩; have n0_ := Aside0.mk (blk_below (g := gb197) (o := .cells #[.int .i64 a0_0, .int .i64 a0_1, .int .i64 a0_2, .int .i64 a0_3] 23 (0, 0)) (by (with_reducible repeat (first | refine blk_drewN ?_ _ | refine blk_drew ?_ | refine blk_alloc ?_ _)); exact BK197.out) hb); have n1_ := Aside0.mk (blk_below (g := gb207) (o := .cells #[.int .i64 t198, .int .i64 t199, .int .i64 t200, .int .i64 t201, .int .i64 t202, .int .i64 t203, .int .i64 t204, .int .i64 t205] 24 (0, 0)) (by (with_reducible repeat (first | refine blk_drewN ?_ _ | refine blk_drew ?_ | refine blk_alloc ?_ _)); exact BK207.out) hb); have n2_ := Aside0.mk (blk_below (g := gb213) (o := .cells #[.int .i64 t209, .int .i64 t210, .int .i64 t211, .int .i64 t212] 23 (0, 0)) (by (with_reducible repeat (first | refine blk_drewN ?_ _ | refine blk_drew ?_ | refine blk_alloc ?_ _)); exact BK213.out) hb); have n3_ := Aside0.mk (blk_below (g := gb218) (o := .cells #[.int .i64 t214, .int .i64 t215, .int .i64 t216, .int .i64 t217] 23 (0, 0)) (by (with_reducible repeat (first | refine blk_drewN ?_ _ | refine blk_drew ?_ | refine blk_alloc ?_ _)); exact BK218.out) hb); have n4_ := Aside0.mk (below_step (by repeat (first | (with_reducible first | exact HB.out | apply below_alloc | apply pw_below_drewN | apply below_drew1 | refine below_set ?_ GE197.out | refine below_set ?_ GE207.out | refine below_set ?_ GE213.out | refine below_set ?_ GE218.out) | exact HB.out)) hb); clear BK197; clear BK207; clear BK213; clear BK218; clear HB; have BK197 := n0_; have BK207 := n1_; have BK213 := n2_; have BK218 := n3_; have HB := n4_; clear n0_ n1_ n2_ n3_ n4_; (try clear hb); (try clear hb2); (try clear hk); (try clear hi)))
                              go_ret
                              exact ⟨by first | rfl | (simp [errW_none, errW_some] <;> rfl) | (simp [*, errW_none, errW_some] <;> rfl), by repeat (first | (with_reducible first | exact HB.out | apply below_alloc | apply pw_below_drewN | apply below_drew1 | refine below_set ?_ GE197.out | refine below_set ?_ GE207.out | refine below_set ?_ GE213.out | refine below_set ?_ GE218.out) | exact HB.out)⟩
                            · rw [if_neg c191] at H
                              exact absurd H (by simp)
                          · rw [if_neg c190] at H
                            exact absurd H (by simp)
                        · rw [if_neg c189] at H
                          exact absurd H (by simp)
                      · rw [if_neg c188] at H
                        exact absurd H (by simp)
                    · rw [if_neg c187] at H
                      exact absurd H (by simp)
                  · rw [if_neg c186] at H
                    exact absurd H (by simp)
                rw [if_neg c185] at H
                by_cases c203 : a1 = 4
                · subst c203
                  have H1 : (if t201 = 0 then (if x9_2 = (wrap64 (4 * t209)) then (if t206 = 0 then (if t214 = t209 then (if t215 = t210 then (if t216 = t211 then ((windhoverlaw16_awake.f k2).bind fun t222 => (some t222)) else (none)) else (none)) else (none)) else (none)) else (none)) else (none)) = some r := by rw [if_pos rfl] at H; exact H
                  clear H
                  have H := H1
                  clear H1
                  by_cases c204 : t201 = 0
                  · rw [if_pos c204] at H
                    have c204b0 : (t201 == 0) = true := beq_iff_eq.mpr c204
                    have c204b1 : (t201 != 0) = false := bne_eq_false_iff_eq.mpr c204
                    clear c204
                    by_cases c205 : x9_2 = (wrap64 (4 * t209))
                    · rw [if_pos c205] at H
                      have c205b0 : (x9_2 == (wrap64 (4 * t209))) = true := beq_iff_eq.mpr c205
                      have c205b1 : (x9_2 != (wrap64 (4 * t209))) = false := bne_eq_false_iff_eq.mpr c205
                      clear c205
                      by_cases c206 : t206 = 0
                      · rw [if_pos c206] at H
                        have c206b0 : (t206 == 0) = true := beq_iff_eq.mpr c206
                        have c206b1 : (t206 != 0) = false := bne_eq_false_iff_eq.mpr c206
                        clear c206
                        by_cases c207 : t214 = t209
                        · rw [if_pos c207] at H
                          have c207b0 : (t214 == t209) = true := beq_iff_eq.mpr c207
                          have c207b1 : (t214 != t209) = false := bne_eq_false_iff_eq.mpr c207
                          clear c207
                          by_cases c208 : t215 = t210
                          · rw [if_pos c208] at H
                            have c208b0 : (t215 == t210) = true := beq_iff_eq.mpr c208
                            have c208b1 : (t215 != t210) = false := bne_eq_false_iff_eq.mpr c208
                            clear c208
                            by_cases c209 : t216 = t211
                            · rw [if_pos c209] at H
                              have c209b0 : (t216 == t211) = true := beq_iff_eq.mpr c209
                              have c209b1 : (t216 != t211) = false := bne_eq_false_iff_eq.mpr c209
                              clear c209
                              replace H := Option.bind_eq_some_iff.mp H
                              obtain ⟨t222, A2100, H⟩ := H
                              replace H : (some t222) = some r := H
                              have A210 := Aside0.mk A2100
                              clear A2100
                              obtain rfl := Option.some.inj H
                              have hnb211 := NB207_197.out
                              have hnc211 := NB197_207.out
                              have hnb212 := NB207_213.out
                              have hnc212 := NB213_207.out
                              have hnb213 := NB207_218.out
                              have hnc213 := NB218_207.out
                              have hcz214_0 := blk_cells8 (w := wr) (g := gb207) BK207.out
                              have hfz214_0 := blk_frozen BK207.out
                              have hnb215 := NB213_197.out
                              have hnc215 := NB197_213.out
                              have hnb216 := NB213_218.out
                              have hnc216 := NB218_213.out
                              have hcz217_0 := blk_cells4 (w := wr) (g := gb213) BK213.out
                              have hfz217_0 := blk_frozen BK213.out
                              have hnb218 := NB218_197.out
                              have hnc218 := NB197_218.out
                              have hcz219_0 := blk_cells4 (w := wr) (g := gb218) BK218.out
                              have hfz219_0 := blk_frozen BK218.out
                              go_wp2_with (first | (go_at_call 13; (with_reducible refine (windhoverlaw16_awake.calls k2  t222 _ A210.out).mono ?_); rintro e w220 ⟨rfl, hb⟩; have n0_ := Aside0.mk (blk_below (g := gb197) (o := .cells #[.int .i64 a0_0, .int .i64 a0_1, .int .i64 a0_2, .int .i64 a0_3] 23 (0, 0)) (by (with_reducible repeat (first | refine blk_drewN ?_ _ | refine blk_drew ?_ | refine blk_alloc ?_ _)); exact BK197.out) hb); have n1_ := Aside0.mk (blk_below (g := gb207) (o := .cells #[.int .i64 t198, .int .i64 t199, .int .i64 t200, .int .i64 t201, .int .i64 t202, .int .i64 t203, .int .i64 t204, .int .i64 t205] 24 (0, 0)) (by (with_reducible repeat (first | refine blk_drewN ?_ _ | refine blk_drew ?_ | refine blk_alloc ?_ _)); exact BK207.out) hb); have n2_ := Aside0.mk (blk_below (g := gb213) (o := .cells #[.int .i64 t209, .int .i64 t210, .int .i64 t211, .int .i64 t212] 23 (0, 0)) (by (with_reducible repeat (first | refine blk_drewN ?_ _ | refine blk_drew ?_ | refine blk_alloc ?_ _)); exact BK213.out) hb); have n3_ := Aside0.mk (blk_below (g := gb218) (o := .cells #[.int .i64 t214, .int .i64 t215, .int .i64 t216, .int .i64 t217] 23 (0, 0)) (by (with_reducible repeat (first | refine blk_drewN ?_ _ | refine blk_drew ?_ | refine blk_alloc ?_ _)); exact BK218.out) hb); have n4_ := Aside0.mk (below_step (by repeat (first | (with_reducible first | exact HB.out | apply below_alloc | apply pw_below_drewN | apply below_drew1 | refine below_set ?_ GE197.out | refine below_set ?_ GE207.out | refine below_set ?_ GE213.out | refine below_set ?_ GE218.out) | exact HB.out)) hb); clear BK197; clear BK207; clear BK213; clear BK218; clear HB; have BK197 := n0_; have BK207 := n1_; have BK213 := n2_; have BK218 := n3_; have HB := n4_; clear n0_ n1_ n2_ n3_ n4_; (try clear hb); (try clear hb2); (try clear hk); (try clear hi)))
                              go_ret
                              exact ⟨by first | rfl | (simp [errW_none, errW_some] <;> rfl) | (simp [*, errW_none, errW_some] <;> rfl), by repeat (first | (with_reducible first | exact HB.out | apply below_alloc | apply pw_below_drewN | apply below_drew1 | refine below_set ?_ GE197.out | refine below_set ?_ GE207.out | refine below_set ?_ GE213.out | refine below_set ?_ GE218.out) | exact HB.out)⟩
                            · rw [if_neg c209] at H
                              exact absurd H (by simp)
                          · rw [if_neg c208] at H
                            exact absurd H (by simp)
                        · rw [if_neg c207] at H
                          exact absurd H (by simp)
                      · rw [if_neg c206] at H
                        exact absurd H (by simp)
                    · rw [if_neg c205] at H
                      exact absurd H (by simp)
                  · rw [if_neg c204] at H
                    exact absurd H (by simp)
                rw [if_neg c203] at H
                by_cases c221 : a1 = 5
                · subst c221
                  have H1 : (if t202 = 0 then (if x9_2 = (wrap64 (4 * t209)) then (if t206 = 0 then (if t214 = t209 then (if t215 = t210 then (if t216 = t211 then ((windhoverlaw16_awake.f k2).bind fun t223 => (some t223)) else (none)) else (none)) else (none)) else (none)) else (none)) else (none)) = some r := by rw [if_pos rfl] at H; exact H
                  clear H
                  have H := H1
                  clear H1
                  by_cases c222 : t202 = 0
                  · rw [if_pos c222] at H
                    have c222b0 : (t202 == 0) = true := beq_iff_eq.mpr c222
                    have c222b1 : (t202 != 0) = false := bne_eq_false_iff_eq.mpr c222
                    clear c222
                    by_cases c223 : x9_2 = (wrap64 (4 * t209))
                    · rw [if_pos c223] at H
                      have c223b0 : (x9_2 == (wrap64 (4 * t209))) = true := beq_iff_eq.mpr c223
                      have c223b1 : (x9_2 != (wrap64 (4 * t209))) = false := bne_eq_false_iff_eq.mpr c223
                      clear c223
                      by_cases c224 : t206 = 0
                      · rw [if_pos c224] at H
                        have c224b0 : (t206 == 0) = true := beq_iff_eq.mpr c224
                        have c224b1 : (t206 != 0) = false := bne_eq_false_iff_eq.mpr c224
                        clear c224
                        by_cases c225 : t214 = t209
                        · rw [if_pos c225] at H
                          have c225b0 : (t214 == t209) = true := beq_iff_eq.mpr c225
                          have c225b1 : (t214 != t209) = false := bne_eq_false_iff_eq.mpr c225
                          clear c225
                          by_cases c226 : t215 = t210
                          · rw [if_pos c226] at H
                            have c226b0 : (t215 == t210) = true := beq_iff_eq.mpr c226
                            have c226b1 : (t215 != t210) = false := bne_eq_false_iff_eq.mpr c226
                            clear c226
                            by_cases c227 : t216 = t211
                            · rw [if_pos c227] at H
                              have c227b0 : (t216 == t211) = true := beq_iff_eq.mpr c227
                              have c227b1 : (t216 != t211) = false := bne_eq_false_iff_eq.mpr c227
                              clear c227
                              replace H := Option.bind_eq_some_iff.mp H
                              obtain ⟨t223, A2280, H⟩ := H
                              replace H : (some t223) = some r := H
                              have A228 := Aside0.mk A2280
                              clear A2280
                              obtain rfl := Option.some.inj H
                              have hnb229 := NB207_197.out
                              have hnc229 := NB197_207.out
                              have hnb230 := NB207_213.out
                              have hnc230 := NB213_207.out
                              have hnb231 := NB207_218.out
                              have hnc231 := NB218_207.out
                              have hcz232_0 := blk_cells8 (w := wr) (g := gb207) BK207.out
                              have hfz232_0 := blk_frozen BK207.out
                              have hnb233 := NB213_197.out
                              have hnc233 := NB197_213.out
                              have hnb234 := NB213_218.out
                              have hnc234 := NB218_213.out
                              have hcz235_0 := blk_cells4 (w := wr) (g := gb213) BK213.out
                              have hfz235_0 := blk_frozen BK213.out
                              have hnb236 := NB218_197.out
                              have hnc236 := NB197_218.out
                              have hcz237_0 := blk_cells4 (w := wr) (g := gb218) BK218.out
                              have hfz237_0 := blk_frozen BK218.out
                              go_wp2_with (first | (go_at_call 13; (with_reducible refine (windhoverlaw16_awake.calls k2  t223 _ A228.out).mono ?_); rintro e w238 ⟨rfl, hb⟩; have n0_ := Aside0.mk (blk_below (g := gb197) (o := .cells #[.int .i64 a0_0, .int .i64 a0_1, .int .i64 a0_2, .int .i64 a0_3] 23 (0, 0)) (by (with_reducible repeat (first | refine blk_drewN ?_ _ | refine blk_drew ?_ | refine blk_alloc ?_ _)); exact BK197.out) hb); have n1_ := Aside0.mk (blk_below (g := gb207) (o := .cells #[.int .i64 t198, .int .i64 t199, .int .i64 t200, .int .i64 t201, .int .i64 t202, .int .i64 t203, .int .i64 t204, .int .i64 t205] 24 (0, 0)) (by (with_reducible repeat (first | refine blk_drewN ?_ _ | refine blk_drew ?_ | refine blk_alloc ?_ _)); exact BK207.out) hb); have n2_ := Aside0.mk (blk_below (g := gb213) (o := .cells #[.int .i64 t209, .int .i64 t210, .int .i64 t211, .int .i64 t212] 23 (0, 0)) (by (with_reducible repeat (first | refine blk_drewN ?_ _ | refine blk_drew ?_ | refine blk_alloc ?_ _)); exact BK213.out) hb); have n3_ := Aside0.mk (blk_below (g := gb218) (o := .cells #[.int .i64 t214, .int .i64 t215, .int .i64 t216, .int .i64 t217] 23 (0, 0)) (by (with_reducible repeat (first | refine blk_drewN ?_ _ | refine blk_drew ?_ | refine blk_alloc ?_ _)); exact BK218.out) hb); have n4_ := Aside0.mk (below_step (by repeat (first | (with_reducible first | exact HB.out | apply below_alloc | apply pw_below_drewN | apply below_drew1 | refine below_set ?_ GE197.out | refine below_set ?_ GE207.out | refine below_set ?_ GE213.out | refine below_set ?_ GE218.out) | exact HB.out)) hb); clear BK197; clear BK207; clear BK213; clear BK218; clear HB; have BK197 := n0_; have BK207 := n1_; have BK213 := n2_; have BK218 := n3_; have HB := n4_; clear n0_ n1_ n2_ n3_ n4_; (try clear hb); (try clear hb2); (try clear hk); (try clear hi)))
                              go_ret
                              exact ⟨by first | rfl | (simp [errW_none, errW_some] <;> rfl) | (simp [*, errW_none, errW_some] <;> rfl), by repeat (first | (with_reducible first | exact HB.out | apply below_alloc | apply pw_below_drewN | apply below_drew1 | refine below_set ?_ GE197.out | refine below_set ?_ GE207.out | refine below_set ?_ GE213.out | refine below_set ?_ GE218.out) | exact HB.out)⟩
                            · rw [if_neg c227] at H
                              exact absurd H (by simp)
                          · rw [if_neg c226] at H
                            exact absurd H (by simp)
                        · rw [if_neg c225] at H
                          exact absurd H (by simp)
                      · rw [if_neg c224] at H
                        exact absurd H (by simp)
                    · rw [if_neg c223] at H
                      exact absurd H (by simp)
                  · rw [if_neg c222] at H
                    exact absurd H (by simp)
                rw [if_neg c221] at H
                by_cases c239 : a1 = 6
                · subst c239
                  have H1 : (if t203 = 0 then (if x9_2 = (wrap64 (4 * t209)) then (if t206 = 0 then (if t214 = t209 then (if t215 = t210 then (if t216 = t211 then ((windhoverlaw16_awake.f k2).bind fun t224 => (some t224)) else (none)) else (none)) else (none)) else (none)) else (none)) else (none)) = some r := by rw [if_pos rfl] at H; exact H
                  clear H
                  have H := H1
                  clear H1
                  by_cases c240 : t203 = 0
                  · rw [if_pos c240] at H
                    have c240b0 : (t203 == 0) = true := beq_iff_eq.mpr c240
                    have c240b1 : (t203 != 0) = false := bne_eq_false_iff_eq.mpr c240
                    clear c240
                    by_cases c241 : x9_2 = (wrap64 (4 * t209))
                    · rw [if_pos c241] at H
                      have c241b0 : (x9_2 == (wrap64 (4 * t209))) = true := beq_iff_eq.mpr c241
                      have c241b1 : (x9_2 != (wrap64 (4 * t209))) = false := bne_eq_false_iff_eq.mpr c241
                      clear c241
                      by_cases c242 : t206 = 0
                      · rw [if_pos c242] at H
                        have c242b0 : (t206 == 0) = true := beq_iff_eq.mpr c242
                        have c242b1 : (t206 != 0) = false := bne_eq_false_iff_eq.mpr c242
                        clear c242
                        by_cases c243 : t214 = t209
                        · rw [if_pos c243] at H
                          have c243b0 : (t214 == t209) = true := beq_iff_eq.mpr c243
                          have c243b1 : (t214 != t209) = false := bne_eq_false_iff_eq.mpr c243
                          clear c243
                          by_cases c244 : t215 = t210
                          · rw [if_pos c244] at H
                            have c244b0 : (t215 == t210) = true := beq_iff_eq.mpr c244
                            have c244b1 : (t215 != t210) = false := bne_eq_false_iff_eq.mpr c244
                            clear c244
                            by_cases c245 : t216 = t211
                            · rw [if_pos c245] at H
                              have c245b0 : (t216 == t211) = true := beq_iff_eq.mpr c245
                              have c245b1 : (t216 != t211) = false := bne_eq_false_iff_eq.mpr c245
                              clear c245
                              replace H := Option.bind_eq_some_iff.mp H
                              obtain ⟨t224, A2460, H⟩ := H
                              replace H : (some t224) = some r := H
                              have A246 := Aside0.mk A2460
                              clear A2460
                              obtain rfl := Option.some.inj H
                              have hnb247 := NB207_197.out
                              have hnc247 := NB197_207.out
                              have hnb248 := NB207_213.out
                              have hnc248 := NB213_207.out
                              have hnb249 := NB207_218.out
                              have hnc249 := NB218_207.out
                              have hcz250_0 := blk_cells8 (w := wr) (g := gb207) BK207.out
                              have hfz250_0 := blk_frozen BK207.out
                              have hnb251 := NB213_197.out
                              have hnc251 := NB197_213.out
                              have hnb252 := NB213_218.out
                              have hnc252 := NB218_213.out
                              have hcz253_0 := blk_cells4 (w := wr) (g := gb213) BK213.out
                              have hfz253_0 := blk_frozen BK213.out
                              have hnb254 := NB218_197.out
                              have hnc254 := NB197_218.out
                              have hcz255_0 := blk_cells4 (w := wr) (g := gb218) BK218.out
                              have hfz255_0 := blk_frozen BK218.out
                              go_wp2_with (first | (go_at_call 13; (with_reducible refine (windhoverlaw16_awake.calls k2  t224 _ A246.out).mono ?_); rintro e w256 ⟨rfl, hb⟩; have n0_ := Aside0.mk (blk_below (g := gb197) (o := .cells #[.int .i64 a0_0, .int .i64 a0_1, .int .i64 a0_2, .int .i64 a0_3] 23 (0, 0)) (by (with_reducible repeat (first | refine blk_drewN ?_ _ | refine blk_drew ?_ | refine blk_alloc ?_ _)); exact BK197.out) hb); have n1_ := Aside0.mk (blk_below (g := gb207) (o := .cells #[.int .i64 t198, .int .i64 t199, .int .i64 t200, .int .i64 t201, .int .i64 t202, .int .i64 t203, .int .i64 t204, .int .i64 t205] 24 (0, 0)) (by (with_reducible repeat (first | refine blk_drewN ?_ _ | refine blk_drew ?_ | refine blk_alloc ?_ _)); exact BK207.out) hb); have n2_ := Aside0.mk (blk_below (g := gb213) (o := .cells #[.int .i64 t209, .int .i64 t210, .int .i64 t211, .int .i64 t212] 23 (0, 0)) (by (with_reducible repeat (first | refine blk_drewN ?_ _ | refine blk_drew ?_ | refine blk_alloc ?_ _)); exact BK213.out) hb); have n3_ := Aside0.mk (blk_below (g := gb218) (o := .cells #[.int .i64 t214, .int .i64 t215, .int .i64 t216, .int .i64 t217] 23 (0, 0)) (by (with_reducible repeat (first | refine blk_drewN ?_ _ | refine blk_drew ?_ | refine blk_alloc ?_ _)); exact BK218.out) hb); have n4_ := Aside0.mk (below_step (by repeat (first | (with_reducible first | exact HB.out | apply below_alloc | apply pw_below_drewN | apply below_drew1 | refine below_set ?_ GE197.out | refine below_set ?_ GE207.out | refine below_set ?_ GE213.out | refine below_set ?_ GE218.out) | exact HB.out)) hb); clear BK197; clear BK207; clear BK213; clear BK218; clear HB; have BK197 := n0_; have BK207 := n1_; have BK213 := n2_; have BK218 := n3_; have HB := n4_; clear n0_ n1_ n2_ n3_ n4_; (try clear hb); (try clear hb2); (try clear hk); (try clear hi)))
                              go_ret
                              exact ⟨by first | rfl | (simp [errW_none, errW_some] <;> rfl) | (simp [*, errW_none, errW_some] <;> rfl), by repeat (first | (with_reducible first | exact HB.out | apply below_alloc | apply pw_below_drewN | apply below_drew1 | refine below_set ?_ GE197.out | refine below_set ?_ GE207.out | refine below_set ?_ GE213.out | refine below_set ?_ GE218.out) | exact HB.out)⟩
                            · rw [if_neg c245] at H
                              exact absurd H (by simp)
                          · rw [if_neg c244] at H
                            exact absurd H (by simp)
                        · rw [if_neg c243] at H
                          exact absurd H (by simp)
                      · rw [if_neg c242] at H
                        exact absurd H (by simp)
                    · rw [if_neg c241] at H
                      exact absurd H (by simp)
                  · rw [if_neg c240] at H
                    exact absurd H (by simp)
                rw [if_neg c239] at H
                by_cases c257 : a1 = 7
                · subst c257
                  have H1 : (if t204 = 0 then (if x9_2 = (wrap64 (4 * t209)) then (if t206 = 0 then (if t214 = t209 then (if t215 = t210 then (if t216 = t211 then ((windhoverlaw16_awake.f k2).bind fun t225 => (some t225)) else (none)) else (none)) else (none)) else (none)) else (none)) else (none)) = some r := by rw [if_pos rfl] at H; exact H
                  clear H
                  have H := H1
                  clear H1
                  by_cases c258 : t204 = 0
                  · rw [if_pos c258] at H
                    have c258b0 : (t204 == 0) = true := beq_iff_eq.mpr c258
                    have c258b1 : (t204 != 0) = false := bne_eq_false_iff_eq.mpr c258
                    clear c258
                    by_cases c259 : x9_2 = (wrap64 (4 * t209))
                    · rw [if_pos c259] at H
                      have c259b0 : (x9_2 == (wrap64 (4 * t209))) = true := beq_iff_eq.mpr c259
                      have c259b1 : (x9_2 != (wrap64 (4 * t209))) = false := bne_eq_false_iff_eq.mpr c259
                      clear c259
                      by_cases c260 : t206 = 0
                      · rw [if_pos c260] at H
                        have c260b0 : (t206 == 0) = true := beq_iff_eq.mpr c260
                        have c260b1 : (t206 != 0) = false := bne_eq_false_iff_eq.mpr c260
                        clear c260
                        by_cases c261 : t214 = t209
                        · rw [if_pos c261] at H
                          have c261b0 : (t214 == t209) = true := beq_iff_eq.mpr c261
                          have c261b1 : (t214 != t209) = false := bne_eq_false_iff_eq.mpr c261
                          clear c261
                          by_cases c262 : t215 = t210
                          · rw [if_pos c262] at H
                            have c262b0 : (t215 == t210) = true := beq_iff_eq.mpr c262
                            have c262b1 : (t215 != t210) = false := bne_eq_false_iff_eq.mpr c262
                            clear c262
                            by_cases c263 : t216 = t211
                            · rw [if_pos c263] at H
                              have c263b0 : (t216 == t211) = true := beq_iff_eq.mpr c263
                              have c263b1 : (t216 != t211) = false := bne_eq_false_iff_eq.mpr c263
                              clear c263
                              replace H := Option.bind_eq_some_iff.mp H
                              obtain ⟨t225, A2640, H⟩ := H
                              replace H : (some t225) = some r := H
                              have A264 := Aside0.mk A2640
                              clear A2640
                              obtain rfl := Option.some.inj H
                              have hnb265 := NB207_197.out
                              have hnc265 := NB197_207.out
                              have hnb266 := NB207_213.out
                              have hnc266 := NB213_207.out
                              have hnb267 := NB207_218.out
                              have hnc267 := NB218_207.out
                              have hcz268_0 := blk_cells8 (w := wr) (g := gb207) BK207.out
                              have hfz268_0 := blk_frozen BK207.out
                              have hnb269 := NB213_197.out
                              have hnc269 := NB197_213.out
                              have hnb270 := NB213_218.out
                              have hnc270 := NB218_213.out
                              have hcz271_0 := blk_cells4 (w := wr) (g := gb213) BK213.out
                              have hfz271_0 := blk_frozen BK213.out
                              have hnb272 := NB218_197.out
                              have hnc272 := NB197_218.out
                              have hcz273_0 := blk_cells4 (w := wr) (g := gb218) BK218.out
                              have hfz273_0 := blk_frozen BK218.out
                              go_wp2_with (first | (go_at_call 13; (with_reducible refine (windhoverlaw16_awake.calls k2  t225 _ A264.out).mono ?_); rintro e w274 ⟨rfl, hb⟩; have n0_ := Aside0.mk (blk_below (g := gb197) (o := .cells #[.int .i64 a0_0, .int .i64 a0_1, .int .i64 a0_2, .int .i64 a0_3] 23 (0, 0)) (by (with_reducible repeat (first | refine blk_drewN ?_ _ | refine blk_drew ?_ | refine blk_alloc ?_ _)); exact BK197.out) hb); have n1_ := Aside0.mk (blk_below (g := gb207) (o := .cells #[.int .i64 t198, .int .i64 t199, .int .i64 t200, .int .i64 t201, .int .i64 t202, .int .i64 t203, .int .i64 t204, .int .i64 t205] 24 (0, 0)) (by (with_reducible repeat (first | refine blk_drewN ?_ _ | refine blk_drew ?_ | refine blk_alloc ?_ _)); exact BK207.out) hb); have n2_ := Aside0.mk (blk_below (g := gb213) (o := .cells #[.int .i64 t209, .int .i64 t210, .int .i64 t211, .int .i64 t212] 23 (0, 0)) (by (with_reducible repeat (first | refine blk_drewN ?_ _ | refine blk_drew ?_ | refine blk_alloc ?_ _)); exact BK213.out) hb); have n3_ := Aside0.mk (blk_below (g := gb218) (o := .cells #[.int .i64 t214, .int .i64 t215, .int .i64 t216, .int .i64 t217] 23 (0, 0)) (by (with_reducible repeat (first | refine blk_drewN ?_ _ | refine blk_drew ?_ | refine blk_alloc ?_ _)); exact BK218.out) hb); have n4_ := Aside0.mk (below_step (by repeat (first | (with_reducible first | exact HB.out | apply below_alloc | apply pw_below_drewN | apply below_drew1 | refine below_set ?_ GE197.out | refine below_set ?_ GE207.out | refine below_set ?_ GE213.out | refine below_set ?_ GE218.out) | exact HB.out)) hb); clear BK197; clear BK207; clear BK213; clear BK218; clear HB; have BK197 := n0_; have BK207 := n1_; have BK213 := n2_; have BK218 := n3_; have HB := n4_; clear n0_ n1_ n2_ n3_ n4_; (try clear hb); (try clear hb2); (try clear hk); (try clear hi)))
                              go_ret
                              exact ⟨by first | rfl | (simp [errW_none, errW_some] <;> rfl) | (simp [*, errW_none, errW_some] <;> rfl), by repeat (first | (with_reducible first | exact HB.out | apply below_alloc | apply pw_below_drewN | apply below_drew1 | refine below_set ?_ GE197.out | refine below_set ?_ GE207.out | refine below_set ?_ GE213.out | refine below_set ?_ GE218.out) | exact HB.out)⟩
                            · rw [if_neg c263] at H
                              exact absurd H (by simp)
                          · rw [if_neg c262] at H
                            exact absurd H (by simp)
                        · rw [if_neg c261] at H
                          exact absurd H (by simp)
                      · rw [if_neg c260] at H
                        exact absurd H (by simp)
                    · rw [if_neg c259] at H
                      exact absurd H (by simp)
                  · rw [if_neg c258] at H
                    exact absurd H (by simp)
                rw [if_neg c257] at H
                by_cases c275 : a1 = 8
                · subst c275
                  have H1 : (if t205 = 0 then (if x9_2 = (wrap64 (4 * t209)) then (if t206 = 0 then (if t214 = t209 then (if t215 = t210 then (if t216 = t211 then ((windhoverlaw16_awake.f k2).bind fun t226 => (some t226)) else (none)) else (none)) else (none)) else (none)) else (none)) else (none)) = some r := by rw [if_pos rfl] at H; exact H
                  clear H
                  have H := H1
                  clear H1
                  by_cases c276 : t205 = 0
                  · rw [if_pos c276] at H
                    have c276b0 : (t205 == 0) = true := beq_iff_eq.mpr c276
                    have c276b1 : (t205 != 0) = false := bne_eq_false_iff_eq.mpr c276
                    clear c276
                    by_cases c277 : x9_2 = (wrap64 (4 * t209))
                    · rw [if_pos c277] at H
                      have c277b0 : (x9_2 == (wrap64 (4 * t209))) = true := beq_iff_eq.mpr c277
                      have c277b1 : (x9_2 != (wrap64 (4 * t209))) = false := bne_eq_false_iff_eq.mpr c277
                      clear c277
                      by_cases c278 : t206 = 0
                      · rw [if_pos c278] at H
                        have c278b0 : (t206 == 0) = true := beq_iff_eq.mpr c278
                        have c278b1 : (t206 != 0) = false := bne_eq_false_iff_eq.mpr c278
                        clear c278
                        by_cases c279 : t214 = t209
                        · rw [if_pos c279] at H
                          have c279b0 : (t214 == t209) = true := beq_iff_eq.mpr c279
                          have c279b1 : (t214 != t209) = false := bne_eq_false_iff_eq.mpr c279
                          clear c279
                          by_cases c280 : t215 = t210
                          · rw [if_pos c280] at H
                            have c280b0 : (t215 == t210) = true := beq_iff_eq.mpr c280
                            have c280b1 : (t215 != t210) = false := bne_eq_false_iff_eq.mpr c280
                            clear c280
                            by_cases c281 : t216 = t211
                            · rw [if_pos c281] at H
                              have c281b0 : (t216 == t211) = true := beq_iff_eq.mpr c281
                              have c281b1 : (t216 != t211) = false := bne_eq_false_iff_eq.mpr c281
                              clear c281
                              replace H := Option.bind_eq_some_iff.mp H
                              obtain ⟨t226, A2820, H⟩ := H
                              replace H : (some t226) = some r := H
                              have A282 := Aside0.mk A2820
                              clear A2820
                              obtain rfl := Option.some.inj H
                              have hnb283 := NB207_197.out
                              have hnc283 := NB197_207.out
                              have hnb284 := NB207_213.out
                              have hnc284 := NB213_207.out
                              have hnb285 := NB207_218.out
                              have hnc285 := NB218_207.out
                              have hcz286_0 := blk_cells8 (w := wr) (g := gb207) BK207.out
                              have hfz286_0 := blk_frozen BK207.out
                              have hnb287 := NB213_197.out
                              have hnc287 := NB197_213.out
                              have hnb288 := NB213_218.out
                              have hnc288 := NB218_213.out
                              have hcz289_0 := blk_cells4 (w := wr) (g := gb213) BK213.out
                              have hfz289_0 := blk_frozen BK213.out
                              have hnb290 := NB218_197.out
                              have hnc290 := NB197_218.out
                              have hcz291_0 := blk_cells4 (w := wr) (g := gb218) BK218.out
                              have hfz291_0 := blk_frozen BK218.out
                              go_wp2_with (first | (go_at_call 13; (with_reducible refine (windhoverlaw16_awake.calls k2  t226 _ A282.out).mono ?_); rintro e w292 ⟨rfl, hb⟩; have n0_ := Aside0.mk (blk_below (g := gb197) (o := .cells #[.int .i64 a0_0, .int .i64 a0_1, .int .i64 a0_2, .int .i64 a0_3] 23 (0, 0)) (by (with_reducible repeat (first | refine blk_drewN ?_ _ | refine blk_drew ?_ | refine blk_alloc ?_ _)); exact BK197.out) hb); have n1_ := Aside0.mk (blk_below (g := gb207) (o := .cells #[.int .i64 t198, .int .i64 t199, .int .i64 t200, .int .i64 t201, .int .i64 t202, .int .i64 t203, .int .i64 t204, .int .i64 t205] 24 (0, 0)) (by (with_reducible repeat (first | refine blk_drewN ?_ _ | refine blk_drew ?_ | refine blk_alloc ?_ _)); exact BK207.out) hb); have n2_ := Aside0.mk (blk_below (g := gb213) (o := .cells #[.int .i64 t209, .int .i64 t210, .int .i64 t211, .int .i64 t212] 23 (0, 0)) (by (with_reducible repeat (first | refine blk_drewN ?_ _ | refine blk_drew ?_ | refine blk_alloc ?_ _)); exact BK213.out) hb); have n3_ := Aside0.mk (blk_below (g := gb218) (o := .cells #[.int .i64 t214, .int .i64 t215, .int .i64 t216, .int .i64 t217] 23 (0, 0)) (by (with_reducible repeat (first | refine blk_drewN ?_ _ | refine blk_drew ?_ | refine blk_alloc ?_ _)); exact BK218.out) hb); have n4_ := Aside0.mk (below_step (by repeat (first | (with_reducible first | exact HB.out | apply below_alloc | apply pw_below_drewN | apply below_drew1 | refine below_set ?_ GE197.out | refine below_set ?_ GE207.out | refine below_set ?_ GE213.out | refine below_set ?_ GE218.out) | exact HB.out)) hb); clear BK197; clear BK207; clear BK213; clear BK218; clear HB; have BK197 := n0_; have BK207 := n1_; have BK213 := n2_; have BK218 := n3_; have HB := n4_; clear n0_ n1_ n2_ n3_ n4_; (try clear hb); (try clear hb2); (try clear hk); (try clear hi)))
                              go_ret
                              exact ⟨by first | rfl | (simp [errW_none, errW_some] <;> rfl) | (simp [*, errW_none, errW_some] <;> rfl), by repeat (first | (with_reducible first | exact HB.out | apply below_alloc | apply pw_below_drewN | apply below_drew1 | refine below_set ?_ GE197.out | refine below_set ?_ GE207.out | refine below_set ?_ GE213.out | refine below_set ?_ GE218.out) | exact HB.out)⟩
                            · rw [if_neg c281] at H
                              exact absurd H (by simp)
                          · rw [if_neg c280] at H
                            exact absurd H (by simp)
                        · rw [if_neg c279] at H
                          exact absurd H (by simp)
                      · rw [if_neg c278] at H
                        exact absurd H (by simp)
                    · rw [if_neg c277] at H
                      exact absurd H (by simp)
                  · rw [if_neg c276] at H
                    exact absurd H (by simp)
                rw [if_neg c275] at H
                exact absurd H (by simp)
              · rw [if_neg c148] at H
                have c148b0 : decide (0 < a1) = false := decide_eq_false c148
                clear c148
                by_cases c293 : x9_2 = (wrap64 (4 * t209))
                · rw [if_pos c293] at H
                  have c293b0 : (x9_2 == (wrap64 (4 * t209))) = true := beq_iff_eq.mpr c293
                  have c293b1 : (x9_2 != (wrap64 (4 * t209))) = false := bne_eq_false_iff_eq.mpr c293
                  clear c293
                  by_cases c294 : t217 = t212
                  · rw [if_pos c294] at H
                    have c294b0 : (t217 == t212) = true := beq_iff_eq.mpr c294
                    have c294b1 : (t217 != t212) = false := bne_eq_false_iff_eq.mpr c294
                    clear c294
                    by_cases c295 : t206 = 0
                    · rw [if_pos c295] at H
                      have c295b0 : (t206 == 0) = true := beq_iff_eq.mpr c295
                      have c295b1 : (t206 != 0) = false := bne_eq_false_iff_eq.mpr c295
                      clear c295
                      by_cases c296 : t214 = t209
                      · rw [if_pos c296] at H
                        have c296b0 : (t214 == t209) = true := beq_iff_eq.mpr c296
                        have c296b1 : (t214 != t209) = false := bne_eq_false_iff_eq.mpr c296
                        clear c296
                        by_cases c297 : t215 = t210
                        · rw [if_pos c297] at H
                          have c297b0 : (t215 == t210) = true := beq_iff_eq.mpr c297
                          have c297b1 : (t215 != t210) = false := bne_eq_false_iff_eq.mpr c297
                          clear c297
                          by_cases c298 : t216 = t211
                          · rw [if_pos c298] at H
                            have c298b0 : (t216 == t211) = true := beq_iff_eq.mpr c298
                            have c298b1 : (t216 != t211) = false := bne_eq_false_iff_eq.mpr c298
                            clear c298
                            replace H := Option.bind_eq_some_iff.mp H
                            obtain ⟨t227, A2990, H⟩ := H
                            replace H : (some t227) = some r := H
                            have A299 := Aside0.mk A2990
                            clear A2990
                            obtain rfl := Option.some.inj H
                            have hnb300 := NB213_197.out
                            have hnc300 := NB197_213.out
                            have hnb301 := NB213_207.out
                            have hnc301 := NB207_213.out
                            have hnb302 := NB213_218.out
                            have hnc302 := NB218_213.out
                            have hcz303_0 := blk_cells4 (w := wr) (g := gb213) BK213.out
                            have hfz303_0 := blk_frozen BK213.out
                            have hnb304 := NB218_197.out
                            have hnc304 := NB197_218.out
                            have hnb305 := NB218_207.out
                            have hnc305 := NB207_218.out
                            have hcz306_0 := blk_cells4 (w := wr) (g := gb218) BK218.out
                            have hfz306_0 := blk_frozen BK218.out
                            go_wp2_with (first | (go_at_call 13; (with_reducible refine (windhoverlaw16_awake.calls k2  t227 _ A299.out).mono ?_); rintro e w307 ⟨rfl, hb⟩; have n0_ := Aside0.mk (blk_below (g := gb197) (o := .cells #[.int .i64 a0_0, .int .i64 a0_1, .int .i64 a0_2, .int .i64 a0_3] 23 (0, 0)) (by (with_reducible repeat (first | refine blk_drewN ?_ _ | refine blk_drew ?_ | refine blk_alloc ?_ _)); exact BK197.out) hb); have n1_ := Aside0.mk (blk_below (g := gb207) (o := .cells #[.int .i64 t198, .int .i64 t199, .int .i64 t200, .int .i64 t201, .int .i64 t202, .int .i64 t203, .int .i64 t204, .int .i64 t205] 24 (0, 0)) (by (with_reducible repeat (first | refine blk_drewN ?_ _ | refine blk_drew ?_ | refine blk_alloc ?_ _)); exact BK207.out) hb); have n2_ := Aside0.mk (blk_below (g := gb213) (o := .cells #[.int .i64 t209, .int .i64 t210, .int .i64 t211, .int .i64 t212] 23 (0, 0)) (by (with_reducible repeat (first | refine blk_drewN ?_ _ | refine blk_drew ?_ | refine blk_alloc ?_ _)); exact BK213.out) hb); have n3_ := Aside0.mk (blk_below (g := gb218) (o := .cells #[.int .i64 t214, .int .i64 t215, .int .i64 t216, .int .i64 t217] 23 (0, 0)) (by (with_reducible repeat (first | refine blk_drewN ?_ _ | refine blk_drew ?_ | refine blk_alloc ?_ _)); exact BK218.out) hb); have n4_ := Aside0.mk (below_step (by repeat (first | (with_reducible first | exact HB.out | apply below_alloc | apply pw_below_drewN | apply below_drew1 | refine below_set ?_ GE197.out | refine below_set ?_ GE207.out | refine below_set ?_ GE213.out | refine below_set ?_ GE218.out) | exact HB.out)) hb); clear BK197; clear BK207; clear BK213; clear BK218; clear HB; have BK197 := n0_; have BK207 := n1_; have BK213 := n2_; have BK218 := n3_; have HB := n4_; clear n0_ n1_ n2_ n3_ n4_; (try clear hb); (try clear hb2); (try clear hk); (try clear hi)))
                            go_ret
                            exact ⟨by first | rfl | (simp [errW_none, errW_some] <;> rfl) | (simp [*, errW_none, errW_some] <;> rfl), by repeat (first | (with_reducible first | exact HB.out | apply below_alloc | apply pw_below_drewN | apply below_drew1 | refine below_set ?_ GE197.out | refine below_set ?_ GE207.out | refine below_set ?_ GE213.out | refine below_set ?_ GE218.out) | exact HB.out)⟩
                          · rw [if_neg c298] at H
                            exact absurd H (by simp)
                        · rw [if_neg c297] at H
                          exact absurd H (by simp)
                      · rw [if_neg c296] at H
                        exact absurd H (by simp)
                    · rw [if_neg c295] at H
                      exact absurd H (by simp)
                  · rw [if_neg c294] at H
                    have c294b0 : (t217 == t212) = false := beq_eq_false_iff_ne.mpr c294
                    have c294b1 : (t217 != t212) = true := bne_iff_ne.mpr c294
                    by_cases c308 : t206 = 0
                    · rw [if_pos c308] at H
                      have c308b0 : (t206 == 0) = true := beq_iff_eq.mpr c308
                      have c308b1 : (t206 != 0) = false := bne_eq_false_iff_eq.mpr c308
                      clear c308
                      by_cases c309 : t214 = t209
                      · rw [if_pos c309] at H
                        have c309b0 : (t214 == t209) = true := beq_iff_eq.mpr c309
                        have c309b1 : (t214 != t209) = false := bne_eq_false_iff_eq.mpr c309
                        clear c309
                        by_cases c310 : t215 = t210
                        · rw [if_pos c310] at H
                          have c310b0 : (t215 == t210) = true := beq_iff_eq.mpr c310
                          have c310b1 : (t215 != t210) = false := bne_eq_false_iff_eq.mpr c310
                          clear c310
                          by_cases c311 : t216 = t211
                          · rw [if_pos c311] at H
                            have c311b0 : (t216 == t211) = true := beq_iff_eq.mpr c311
                            have c311b1 : (t216 != t211) = false := bne_eq_false_iff_eq.mpr c311
                            clear c311
                            by_cases c312 : t217 = (wrap64 (t212 - 1))
                            · rw [if_pos c312] at H
                              have c312b0 : (t217 == (wrap64 (t212 - 1))) = true := beq_iff_eq.mpr c312
                              have c312b1 : (t217 != (wrap64 (t212 - 1))) = false := bne_eq_false_iff_eq.mpr c312
                              clear c312
                              replace H := Option.bind_eq_some_iff.mp H
                              obtain ⟨t228, A3130, H⟩ := H
                              replace H : (some t228) = some r := H
                              have A313 := Aside0.mk A3130
                              clear A3130
                              obtain rfl := Option.some.inj H
                              have hnb314 := NB213_197.out
                              have hnc314 := NB197_213.out
                              have hnb315 := NB213_207.out
                              have hnc315 := NB207_213.out
                              have hnb316 := NB213_218.out
                              have hnc316 := NB218_213.out
                              have hcz317_0 := blk_cells4 (w := wr) (g := gb213) BK213.out
                              have hfz317_0 := blk_frozen BK213.out
                              have hnb318 := NB218_197.out
                              have hnc318 := NB197_218.out
                              have hnb319 := NB218_207.out
                              have hnc319 := NB207_218.out
                              have hcz320_0 := blk_cells4 (w := wr) (g := gb218) BK218.out
                              have hfz320_0 := blk_frozen BK218.out
                              go_wp2_with (first | (go_at_call 13; (with_reducible refine (windhoverlaw16_awake.calls k2  t228 _ A313.out).mono ?_); rintro e w321 ⟨rfl, hb⟩; have n0_ := Aside0.mk (blk_below (g := gb197) (o := .cells #[.int .i64 a0_0, .int .i64 a0_1, .int .i64 a0_2, .int .i64 a0_3] 23 (0, 0)) (by (with_reducible repeat (first | refine blk_drewN ?_ _ | refine blk_drew ?_ | refine blk_alloc ?_ _)); exact BK197.out) hb); have n1_ := Aside0.mk (blk_below (g := gb207) (o := .cells #[.int .i64 t198, .int .i64 t199, .int .i64 t200, .int .i64 t201, .int .i64 t202, .int .i64 t203, .int .i64 t204, .int .i64 t205] 24 (0, 0)) (by (with_reducible repeat (first | refine blk_drewN ?_ _ | refine blk_drew ?_ | refine blk_alloc ?_ _)); exact BK207.out) hb); have n2_ := Aside0.mk (blk_below (g := gb213) (o := .cells #[.int .i64 t209, .int .i64 t210, .int .i64 t211, .int .i64 t212] 23 (0, 0)) (by (with_reducible repeat (first | refine blk_drewN ?_ _ | refine blk_drew ?_ | refine blk_alloc ?_ _)); exact BK213.out) hb); have n3_ := Aside0.mk (blk_below (g := gb218) (o := .cells #[.int .i64 t214, .int .i64 t215, .int .i64 t216, .int .i64 t217] 23 (0, 0)) (by (with_reducible repeat (first | refine blk_drewN ?_ _ | refine blk_drew ?_ | refine blk_alloc ?_ _)); exact BK218.out) hb); have n4_ := Aside0.mk (below_step (by repeat (first | (with_reducible first | exact HB.out | apply below_alloc | apply pw_below_drewN | apply below_drew1 | refine below_set ?_ GE197.out | refine below_set ?_ GE207.out | refine below_set ?_ GE213.out | refine below_set ?_ GE218.out) | exact HB.out)) hb); clear BK197; clear BK207; clear BK213; clear BK218; clear HB; have BK197 := n0_; have BK207 := n1_; have BK213 := n2_; have BK218 := n3_; have HB := n4_; clear n0_ n1_ n2_ n3_ n4_; (try clear hb); (try clear hb2); (try clear hk); (try clear hi)))
                              go_ret
                              exact ⟨by first | rfl | (simp [errW_none, errW_some] <;> rfl) | (simp [*, errW_none, errW_some] <;> rfl), by repeat (first | (with_reducible first | exact HB.out | apply below_alloc | apply pw_below_drewN | apply below_drew1 | refine below_set ?_ GE197.out | refine below_set ?_ GE207.out | refine below_set ?_ GE213.out | refine below_set ?_ GE218.out) | exact HB.out)⟩
                            · rw [if_neg c312] at H
                              exact absurd H (by simp)
                          · rw [if_neg c311] at H
                            exact absurd H (by simp)
                        · rw [if_neg c310] at H
                          exact absurd H (by simp)
                      · rw [if_neg c309] at H
                        exact absurd H (by simp)
                    · rw [if_neg c308] at H
                      exact absurd H (by simp)
                · rw [if_neg c293] at H
                  exact absurd H (by simp)

/-- THE ONE PURE STATEMENT of windhoverlaw16_MixerExact: yours. -/
def windhoverlaw16_MixerExact.Pure : Prop := ∀ (a0_0 : Int) (a0_1 : Int) (a0_2 : Int) (a0_3 : Int) (a1 : Int), (Lit.int .i64 a0_0).wf = true → (Lit.int .i64 a0_1).wf = true → (Lit.int .i64 a0_2).wf = true → (Lit.int .i64 a0_3).wf = true → (Lit.int .i64 a1).wf = true → ∃ k, windhoverlaw16_MixerExact.f k a0_0 a0_1 a0_2 a0_3 a1 = some true
theorem windhoverlaw16_MixerExact.walk (P : windhoverlaw16_MixerExact.Pure) (a0_0 : Int) (a0_1 : Int) (a0_2 : Int) (a0_3 : Int) (a1 : Int) (w : World) (w0_0 : (Lit.int .i64 a0_0).wf = true) (w0_1 : (Lit.int .i64 a0_1).wf = true) (w0_2 : (Lit.int .i64 a0_2).wf = true) (w0_3 : (Lit.int .i64 a0_3).wf = true) (w1 : (Lit.int .i64 a1).wf = true) :
    Calls Try.prog 4 #[.agg #[.int .i64 a0_0, .int .i64 a0_1, .int .i64 a0_2, .int .i64 a0_3], .int .i64 a1] w fun e w' => e = .returned (.bool true) ∧ Below w.heap.size w w' := by
  obtain ⟨k, h⟩ := P a0_0 a0_1 a0_2 a0_3 a1 w0_0 w0_1 w0_2 w0_3 w1
  refine (windhoverlaw16_MixerExact.calls k a0_0 a0_1 a0_2 a0_3 a1 true w h).mono ?_
  rintro e w' ⟨rfl, hd⟩
  exact ⟨rfl, hd⟩

end Go.Proofs.Ytoafgpkjgfdclaa.PMixerExact
