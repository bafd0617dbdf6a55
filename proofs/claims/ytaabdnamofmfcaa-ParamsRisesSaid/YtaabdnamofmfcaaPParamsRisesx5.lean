-- WRITTEN BY wip/tools/aprint.py of this claim's repository over the kit's words: not typed by hand
import Derived.Test.YtaabdnamofmfcaaPParamsRisesx0
import Derived.Test.YtaabdnamofmfcaaPParamsRisesx3
import Derived.Test.YtaabdnamofmfcaaPParamsRisesx4
namespace Go.Proofs.Ytaabdnamofmfcaa.PParamsRises
open Go.RowKit Go.Proofs.YtaabdnamofmfcaaW.PrintWords Go.Proofs.YtaabdnamofmfcaaW.PrintLast Go.Proofs.YtaabdnamofmfcaaW.PrintMore
attribute [local go_sem] max2_int min2_int max_two min_two max_three min_three max_four min_four   -- for this text's walks alone
set_option linter.unusedVariables false
set_option linter.unusedSimpArgs false

/-! ### windhoverlaw08_ParamsRises: function 8 -/
def windhoverlaw08_ParamsRises.j0 : Nat → Int → Int → Int → Int → Int → Int → Int → Int → Int → Int → Int → Int → Bool → Option (Bool)
  | 0, _, _, _, _, _, _, _, _, _, _, _, _, _ => none
  | k + 1, x7, x8, x9, x10, x11, x12, x13, x14, x15, x16, x17, x18, x79 => if x79 = true then ((windhoverlaw08_awake.f k).bind fun t343 => (some t343)) else (if x8 = 0 then (if x10 = 0 then (if x7 ≤ x9 then (if x12 = 0 then (if x14 = 0 then (if x11 ≤ x13 then (if x16 = 0 then (if x18 = 0 then (if x15 ≤ x17 then (if x7 > 0 then (if x11 > 0 then (if x15 > 0 then ((windhoverlaw08_awake.f k).bind fun t344 => (some t344)) else (none)) else (none)) else (none)) else (if x7 > 0 then (if x11 > 0 then (none) else (none)) else (none))) else (if x7 > 0 then (if x11 > 0 then ((windhoverlaw08_awake.f k).bind fun t345 => (some t345)) else (none)) else (none))) else (if x7 > 0 then (if x11 > 0 then ((windhoverlaw08_awake.f k).bind fun t346 => (some t346)) else (none)) else (none))) else (if x16 = 0 then (if x18 = 0 then (if x15 ≤ x17 then (if x7 > 0 then (none) else (none)) else (if x7 > 0 then (none) else (none))) else (if x7 > 0 then (none) else (none))) else (if x7 > 0 then (none) else (none)))) else (if x16 = 0 then (if x18 = 0 then (if x15 ≤ x17 then (if x7 > 0 then (if x15 > 0 then ((windhoverlaw08_awake.f k).bind fun t347 => (some t347)) else (none)) else (none)) else (if x7 > 0 then (none) else (none))) else (if x7 > 0 then ((windhoverlaw08_awake.f k).bind fun t348 => (some t348)) else (none))) else (if x7 > 0 then ((windhoverlaw08_awake.f k).bind fun t349 => (some t349)) else (none)))) else (if x16 = 0 then (if x18 = 0 then (if x15 ≤ x17 then (if x7 > 0 then (if x15 > 0 then ((windhoverlaw08_awake.f k).bind fun t350 => (some t350)) else (none)) else (none)) else (if x7 > 0 then (none) else (none))) else (if x7 > 0 then ((windhoverlaw08_awake.f k).bind fun t351 => (some t351)) else (none))) else (if x7 > 0 then ((windhoverlaw08_awake.f k).bind fun t352 => (some t352)) else (none)))) else (if x12 = 0 then (if x14 = 0 then (if x11 ≤ x13 then (if x16 = 0 then (if x18 = 0 then (if x15 ≤ x17 then (none) else (none)) else (none)) else (none)) else (if x16 = 0 then (if x18 = 0 then (if x15 ≤ x17 then (none) else (none)) else (none)) else (none))) else (if x16 = 0 then (if x18 = 0 then (if x15 ≤ x17 then (none) else (none)) else (none)) else (none))) else (if x16 = 0 then (if x18 = 0 then (if x15 ≤ x17 then (none) else (none)) else (none)) else (none)))) else (if x12 = 0 then (if x14 = 0 then (if x11 ≤ x13 then (if x16 = 0 then (if x18 = 0 then (if x15 ≤ x17 then (if x11 > 0 then (if x15 > 0 then ((windhoverlaw08_awake.f k).bind fun t353 => (some t353)) else (none)) else (none)) else (if x11 > 0 then (none) else (none))) else (if x11 > 0 then ((windhoverlaw08_awake.f k).bind fun t354 => (some t354)) else (none))) else (if x11 > 0 then ((windhoverlaw08_awake.f k).bind fun t355 => (some t355)) else (none))) else (if x16 = 0 then (if x18 = 0 then (if x15 ≤ x17 then (none) else (none)) else (none)) else (none))) else (if x16 = 0 then (if x18 = 0 then (if x15 ≤ x17 then (if x15 > 0 then ((windhoverlaw08_awake.f k).bind fun t356 => (some t356)) else (none)) else (none)) else ((windhoverlaw08_awake.f k).bind fun t357 => (some t357))) else ((windhoverlaw08_awake.f k).bind fun t358 => (some t358)))) else (if x16 = 0 then (if x18 = 0 then (if x15 ≤ x17 then (if x15 > 0 then ((windhoverlaw08_awake.f k).bind fun t359 => (some t359)) else (none)) else (none)) else ((windhoverlaw08_awake.f k).bind fun t360 => (some t360))) else ((windhoverlaw08_awake.f k).bind fun t361 => (some t361))))) else (if x12 = 0 then (if x14 = 0 then (if x11 ≤ x13 then (if x16 = 0 then (if x18 = 0 then (if x15 ≤ x17 then (if x11 > 0 then (if x15 > 0 then ((windhoverlaw08_awake.f k).bind fun t362 => (some t362)) else (none)) else (none)) else (if x11 > 0 then (none) else (none))) else (if x11 > 0 then ((windhoverlaw08_awake.f k).bind fun t363 => (some t363)) else (none))) else (if x11 > 0 then ((windhoverlaw08_awake.f k).bind fun t364 => (some t364)) else (none))) else (if x16 = 0 then (if x18 = 0 then (if x15 ≤ x17 then (none) else (none)) else (none)) else (none))) else (if x16 = 0 then (if x18 = 0 then (if x15 ≤ x17 then (if x15 > 0 then ((windhoverlaw08_awake.f k).bind fun t365 => (some t365)) else (none)) else (none)) else ((windhoverlaw08_awake.f k).bind fun t366 => (some t366))) else ((windhoverlaw08_awake.f k).bind fun t367 => (some t367)))) else (if x16 = 0 then (if x18 = 0 then (if x15 ≤ x17 then (if x15 > 0 then ((windhoverlaw08_awake.f k).bind fun t368 => (some t368)) else (none)) else (none)) else ((windhoverlaw08_awake.f k).bind fun t369 => (some t369))) else ((windhoverlaw08_awake.f k).bind fun t370 => (some t370)))))
def windhoverlaw08_ParamsRises.f (k : Nat) (l0 : List Int) (a1_0 : Int) (a1_1 : Int) (a2_0 : Int) (a2_1 : Int) : Option (Bool) := (params_LandTicks.f k l0 a1_0).bind fun bt331 => ((params_LandTicks.f k l0 a2_0).bind fun bt333 => ((params_ReturnTicks.f k l0 a1_0 a1_1).bind fun bt335 => ((params_ReturnTicks.f k l0 a2_0 a2_1).bind fun bt337 => ((params_Slack.f k l0 a1_0).bind fun bt339 => ((params_Slack.f k l0 a2_0).bind fun bt341 => (if a1_0 > a2_0 then (windhoverlaw08_ParamsRises.j0 k bt331.1 bt331.2 bt333.1 bt333.2 bt335.1 bt335.2 bt337.1 bt337.2 bt339.1 bt339.2 bt341.1 bt341.2 true) else (windhoverlaw08_ParamsRises.j0 k bt331.1 bt331.2 bt333.1 bt333.2 bt335.1 bt335.2 bt337.1 bt337.2 bt339.1 bt339.2 bt341.1 bt341.2 (decide (a1_1 > a2_1)))))))))
theorem windhoverlaw08_ParamsRises.mono_l : ∀ k, (∀ y0 y1 y2 y3 y4 y5 y6 y7 y8 y9 y10 y11 y12, LeO (windhoverlaw08_ParamsRises.j0 k y0 y1 y2 y3 y4 y5 y6 y7 y8 y9 y10 y11 y12) (windhoverlaw08_ParamsRises.j0 (k + 1) y0 y1 y2 y3 y4 y5 y6 y7 y8 y9 y10 y11 y12))
  | 0 => fun _ _ _ _ _ _ _ _ _ _ _ _ _ r h => by simp [windhoverlaw08_ParamsRises.j0] at h
  | k + 1 => by
    have ih0 := windhoverlaw08_ParamsRises.mono_l k
    · intro y0 y1 y2 y3 y4 y5 y6 y7 y8 y9 y10 y11 y12
      unfold windhoverlaw08_ParamsRises.j0
      repeat' first
      | (with_reducible exact ih0 _ _ _ _ _ _ _ _ _ _ _ _ _)
      | (with_reducible exact params_LandTicks.mono _ _ _)
      | (with_reducible exact params_ReturnTicks.mono _ _ _ _)
      | (with_reducible exact params_Slack.mono _ _ _)
      | (with_reducible exact windhoverlaw08_awake.mono _)
      | (with_reducible exact LeO.refl _)
      | (with_reducible exact LeO.none _)
      | (with_reducible refine LeO.ite ?_ ?_)
      | (with_reducible refine LeO.bind ?_ (fun _ => ?_))
      | exact ih0 _ _ _ _ _ _ _ _ _ _ _ _ _
      | exact params_LandTicks.mono _ _ _
      | exact params_ReturnTicks.mono _ _ _ _
      | exact params_Slack.mono _ _ _
      | exact windhoverlaw08_awake.mono _
      | exact LeO.none _
      | refine LeO.ite ?_ ?_
      | refine LeO.bind ?_ (fun _ => ?_)
theorem windhoverlaw08_ParamsRises.mono : ∀ a0 a1 a2 a3 a4 k, LeO (windhoverlaw08_ParamsRises.f k a0 a1 a2 a3 a4) (windhoverlaw08_ParamsRises.f (k + 1) a0 a1 a2 a3 a4) := by
  intro a0 a1 a2 a3 a4 k
  have ih0 := windhoverlaw08_ParamsRises.mono_l k
  unfold windhoverlaw08_ParamsRises.f
  repeat' first
      | (with_reducible exact ih0 _ _ _ _ _ _ _ _ _ _ _ _ _)
      | (with_reducible exact params_LandTicks.mono _ _ _)
      | (with_reducible exact params_ReturnTicks.mono _ _ _ _)
      | (with_reducible exact params_Slack.mono _ _ _)
      | (with_reducible exact windhoverlaw08_awake.mono _)
      | (with_reducible exact LeO.refl _)
      | (with_reducible exact LeO.none _)
      | (with_reducible refine LeO.ite ?_ ?_)
      | (with_reducible refine LeO.bind ?_ (fun _ => ?_))
      | exact ih0 _ _ _ _ _ _ _ _ _ _ _ _ _
      | exact params_LandTicks.mono _ _ _
      | exact params_ReturnTicks.mono _ _ _ _
      | exact params_Slack.mono _ _ _
      | exact windhoverlaw08_awake.mono _
      | exact LeO.none _
      | refine LeO.ite ?_ ?_
      | refine LeO.bind ?_ (fun _ => ?_)
set_option maxHeartbeats 8000000 in
set_option maxRecDepth 100000 in
theorem windhoverlaw08_ParamsRises.calls (k : Nat) (A0 : Option Addr) (c0 : Nat) (l0 : List Int) (a1_0 : Int) (a1_1 : Int) (a2_0 : Int) (a2_1 : Int) (r : Bool) (w : World) (hr0 : Kd.C (Kd.int .i64) w A0 l0.length l0) (hc0 : l0.length ≤ c0) (h : windhoverlaw08_ParamsRises.f k l0 a1_0 a1_1 a2_0 a2_1 = some r) :
    Calls Try.prog 8 #[.slice A0 l0.length c0, .agg #[.int .i64 a1_0, .int .i64 a1_1], .agg #[.int .i64 a2_0, .int .i64 a2_1]] w fun e w' => e = .returned (.bool r) ∧ Below w.heap.size w w' := by
  have hu48 := Try.underlying48
  have HR0 := Aside0.mk hr0
  have HC0 := Aside0.mk hc0
  clear hr0 hc0
  have HB := Aside0.mk (Below.refl w.heap.size w)
  have H : ((params_LandTicks.f k l0 a1_0).bind fun bt331 => ((params_LandTicks.f k l0 a2_0).bind fun bt333 => ((params_ReturnTicks.f k l0 a1_0 a1_1).bind fun bt335 => ((params_ReturnTicks.f k l0 a2_0 a2_1).bind fun bt337 => ((params_Slack.f k l0 a1_0).bind fun bt339 => ((params_Slack.f k l0 a2_0).bind fun bt341 => (if a1_0 > a2_0 then (windhoverlaw08_ParamsRises.j0 k bt331.1 bt331.2 bt333.1 bt333.2 bt335.1 bt335.2 bt337.1 bt337.2 bt339.1 bt339.2 bt341.1 bt341.2 true) else (windhoverlaw08_ParamsRises.j0 k bt331.1 bt331.2 bt333.1 bt333.2 bt335.1 bt335.2 bt337.1 bt337.2 bt339.1 bt339.2 bt341.1 bt341.2 (decide (a1_1 > a2_1)))))))))) = some r := h
  clear h
  replace H := Option.bind_eq_some_iff.mp H
  obtain ⟨⟨t331, t332⟩, A40, H⟩ := H
  replace H : ((params_LandTicks.f k l0 a2_0).bind fun bt333 => ((params_ReturnTicks.f k l0 a1_0 a1_1).bind fun bt335 => ((params_ReturnTicks.f k l0 a2_0 a2_1).bind fun bt337 => ((params_Slack.f k l0 a1_0).bind fun bt339 => ((params_Slack.f k l0 a2_0).bind fun bt341 => (if a1_0 > a2_0 then (windhoverlaw08_ParamsRises.j0 k t331 t332 bt333.1 bt333.2 bt335.1 bt335.2 bt337.1 bt337.2 bt339.1 bt339.2 bt341.1 bt341.2 true) else (windhoverlaw08_ParamsRises.j0 k t331 t332 bt333.1 bt333.2 bt335.1 bt335.2 bt337.1 bt337.2 bt339.1 bt339.2 bt341.1 bt341.2 (decide (a1_1 > a2_1))))))))) = some r := H
  have A4 := Aside0.mk A40
  clear A40
  replace H := Option.bind_eq_some_iff.mp H
  obtain ⟨⟨t333, t334⟩, A50, H⟩ := H
  replace H : ((params_ReturnTicks.f k l0 a1_0 a1_1).bind fun bt335 => ((params_ReturnTicks.f k l0 a2_0 a2_1).bind fun bt337 => ((params_Slack.f k l0 a1_0).bind fun bt339 => ((params_Slack.f k l0 a2_0).bind fun bt341 => (if a1_0 > a2_0 then (windhoverlaw08_ParamsRises.j0 k t331 t332 t333 t334 bt335.1 bt335.2 bt337.1 bt337.2 bt339.1 bt339.2 bt341.1 bt341.2 true) else (windhoverlaw08_ParamsRises.j0 k t331 t332 t333 t334 bt335.1 bt335.2 bt337.1 bt337.2 bt339.1 bt339.2 bt341.1 bt341.2 (decide (a1_1 > a2_1)))))))) = some r := H
  have A5 := Aside0.mk A50
  clear A50
  replace H := Option.bind_eq_some_iff.mp H
  obtain ⟨⟨t335, t336⟩, A60, H⟩ := H
  replace H : ((params_ReturnTicks.f k l0 a2_0 a2_1).bind fun bt337 => ((params_Slack.f k l0 a1_0).bind fun bt339 => ((params_Slack.f k l0 a2_0).bind fun bt341 => (if a1_0 > a2_0 then (windhoverlaw08_ParamsRises.j0 k t331 t332 t333 t334 t335 t336 bt337.1 bt337.2 bt339.1 bt339.2 bt341.1 bt341.2 true) else (windhoverlaw08_ParamsRises.j0 k t331 t332 t333 t334 t335 t336 bt337.1 bt337.2 bt339.1 bt339.2 bt341.1 bt341.2 (decide (a1_1 > a2_1))))))) = some r := H
  have A6 := Aside0.mk A60
  clear A60
  replace H := Option.bind_eq_some_iff.mp H
  obtain ⟨⟨t337, t338⟩, A70, H⟩ := H
  replace H : ((params_Slack.f k l0 a1_0).bind fun bt339 => ((params_Slack.f k l0 a2_0).bind fun bt341 => (if a1_0 > a2_0 then (windhoverlaw08_ParamsRises.j0 k t331 t332 t333 t334 t335 t336 t337 t338 bt339.1 bt339.2 bt341.1 bt341.2 true) else (windhoverlaw08_ParamsRises.j0 k t331 t332 t333 t334 t335 t336 t337 t338 bt339.1 bt339.2 bt341.1 bt341.2 (decide (a1_1 > a2_1)))))) = some r := H
  have A7 := Aside0.mk A70
  clear A70
  replace H := Option.bind_eq_some_iff.mp H
  obtain ⟨⟨t339, t340⟩, A80, H⟩ := H
  replace H : ((params_Slack.f k l0 a2_0).bind fun bt341 => (if a1_0 > a2_0 then (windhoverlaw08_ParamsRises.j0 k t331 t332 t333 t334 t335 t336 t337 t338 t339 t340 bt341.1 bt341.2 true) else (windhoverlaw08_ParamsRises.j0 k t331 t332 t333 t334 t335 t336 t337 t338 t339 t340 bt341.1 bt341.2 (decide (a1_1 > a2_1))))) = some r := H
  have A8 := Aside0.mk A80
  clear A80
  replace H := Option.bind_eq_some_iff.mp H
  obtain ⟨⟨t341, t342⟩, A90, H⟩ := H
  replace H : (if a1_0 > a2_0 then (windhoverlaw08_ParamsRises.j0 k t331 t332 t333 t334 t335 t336 t337 t338 t339 t340 t341 t342 true) else (windhoverlaw08_ParamsRises.j0 k t331 t332 t333 t334 t335 t336 t337 t338 t339 t340 t341 t342 (decide (a1_1 > a2_1)))) = some r := H
  have A9 := Aside0.mk A90
  clear A90
  have HC10 := Aside0.mk H
  clear H
  go_enter Try.func8, Try.ntmps8
  go_upto_region 7 with (first | ((with_reducible refine gate_dst (N := 4) rfl ?_); refine box_event ?hg (N := 4) ?hd (cs := #[.int .i64 a1_0, .int .i64 a1_1]) (t := 48) ?hr ?_; (case hd => rfl); (case hg => rfl); (case hr => first | (go_simp; done) | (go_simp; rfl)); intro gb329 hg w11 hbox hb; have n0_ := Aside0.mk (below_step (by repeat (first | (with_reducible first | exact HB.out | apply below_alloc | apply pw_below_drewN | apply below_drew1) | exact HB.out)) hb); have n1_ := Aside0.mk (hbox); have n2_ := Aside0.mk ((by rw [hg]; exact (below_size (by repeat (first | (with_reducible first | exact HB.out | apply below_alloc | apply pw_below_drewN | apply below_drew1) | exact HB.out))) : w.heap.size ≤ gb329)); have n3_ := Aside0.mk ((by rw [hg]; exact (below_size (by repeat (first | (with_reducible first | exact HB.out | apply below_alloc | apply pw_below_drewN | apply below_drew1) | exact HB.out))) : w.heap.size ≤ gb329)); clear HB; have HB := n0_; have BK329 := n1_; have GW329 := n2_; have GE329 := n3_; clear n0_ n1_ n2_ n3_; clear hb hbox hg) | ((with_reducible refine gate_dst (N := 5) rfl ?_); refine box_event ?hg (N := 5) ?hd (cs := #[.int .i64 a2_0, .int .i64 a2_1]) (t := 48) ?hr ?_; (case hd => rfl); (case hg => rfl); (case hr => first | (go_simp; done) | (go_simp; rfl)); intro gb330 hg w12 hbox hb; have n0_ := Aside0.mk (blk_below (g := gb329) (o := .cells #[.int .i64 a1_0, .int .i64 a1_1] 48 (0, 0)) (by (with_reducible repeat (first | refine blk_drewN ?_ _ | refine blk_drew ?_ | refine blk_alloc ?_ _)); exact BK329.out) hb); have n1_ := Aside0.mk (below_step (by repeat (first | (with_reducible first | exact HB.out | apply below_alloc | apply pw_below_drewN | apply below_drew1 | refine below_set ?_ GE329.out) | exact HB.out)) hb); have n2_ := Aside0.mk (hbox); have n3_ := Aside0.mk ((by rw [hg]; exact (below_size (by repeat (first | (with_reducible first | exact HB.out | apply below_alloc | apply pw_below_drewN | apply below_drew1 | refine below_set ?_ GE329.out) | exact HB.out))) : w.heap.size ≤ gb330)); have n4_ := Aside0.mk ((by rw [hg]; exact (below_size (by repeat (first | (with_reducible first | exact HB.out | apply below_alloc | apply pw_below_drewN | apply below_drew1 | refine below_set ?_ GE329.out) | exact HB.out))) : w.heap.size ≤ gb330)); have n5_ := Aside0.mk ((by rw [hg]; exact Nat.ne_of_lt (blk_lt (g := gb329) (o := .cells #[.int .i64 a1_0, .int .i64 a1_1] 48 (0, 0)) (by (with_reducible repeat (first | refine blk_drewN ?_ _ | refine blk_drew ?_ | refine blk_alloc ?_ _)); exact BK329.out)) : gb329 ≠ gb330)); have n6_ := Aside0.mk ((by rw [hg]; exact Nat.ne_of_gt (blk_lt (g := gb329) (o := .cells #[.int .i64 a1_0, .int .i64 a1_1] 48 (0, 0)) (by (with_reducible repeat (first | refine blk_drewN ?_ _ | refine blk_drew ?_ | refine blk_alloc ?_ _)); exact BK329.out)) : gb330 ≠ gb329)); clear BK329; clear HB; have BK329 := n0_; have HB := n1_; have BK330 := n2_; have GW330 := n3_; have GE330 := n4_; have NB329_330 := n5_; have NB330_329 := n6_; clear n0_ n1_ n2_ n3_ n4_ n5_ n6_; clear hb hbox hg; have hnb13 := NB329_330.out; have hnc13 := NB330_329.out; have hcz14_0 := blk_cells2 (w := w12) (g := gb329) BK329.out; have hfz14_0 := blk_frozen BK329.out) | ((with_reducible refine gate_callee (f := 26) rfl ?_); refine goesL_ (some 26) rfl rfl Try.func26 (by kernel_rfl) rfl #[.slice A0 l0.length c0, .int .i64 a1_0] rfl (by (try simp only [List.map_toArray, List.map_cons, List.map_nil]); first | done | rfl | (simp only [List.length_drop, List.length_take]; rfl)) ?_; (with_reducible refine (params_LandTicks.calls k _ _ l0 a1_0 t331 t332 _ ?side1 ?side2 A4.out).mono ?_); (case side1 => repeat (first | exact (Kd.C_below HR0.out HB.out) | (with_reducible refine Kd.C_alloc ?_ _) | (with_reducible refine Kd.C_drewN ?_ _) | (with_reducible refine Kd.C_drew ?_))); (case side2 => exact HC0.out); rintro e w15 ⟨rfl, hb⟩; refine ⟨_, rfl, ?_⟩; have n0_ := Aside0.mk (blk_below (g := gb329) (o := .cells #[.int .i64 a1_0, .int .i64 a1_1] 48 (0, 0)) (by (with_reducible repeat (first | refine blk_drewN ?_ _ | refine blk_drew ?_ | refine blk_alloc ?_ _)); exact BK329.out) hb); have n1_ := Aside0.mk (blk_below (g := gb330) (o := .cells #[.int .i64 a2_0, .int .i64 a2_1] 48 (0, 0)) (by (with_reducible repeat (first | refine blk_drewN ?_ _ | refine blk_drew ?_ | refine blk_alloc ?_ _)); exact BK330.out) hb); have n2_ := Aside0.mk (below_step (by repeat (first | (with_reducible first | exact HB.out | apply below_alloc | apply pw_below_drewN | apply below_drew1 | refine below_set ?_ GE329.out | refine below_set ?_ GE330.out) | exact HB.out)) hb); clear BK329; clear BK330; clear HB; have BK329 := n0_; have BK330 := n1_; have HB := n2_; clear n0_ n1_ n2_; (try clear hb); (try clear hb2); (try clear hk); (try clear hi); have hcz16_0 := blk_cells2 (w := w15) (g := gb330) BK330.out; have hfz16_0 := blk_frozen BK330.out) | ((with_reducible refine gate_callee (f := 26) rfl ?_); refine goesL_ (some 33) rfl rfl Try.func26 (by kernel_rfl) rfl #[.slice A0 l0.length c0, .int .i64 a2_0] rfl (by (try simp only [List.map_toArray, List.map_cons, List.map_nil]); first | done | rfl | (simp only [List.length_drop, List.length_take]; rfl)) ?_; (with_reducible refine (params_LandTicks.calls k _ _ l0 a2_0 t333 t334 _ ?side1 ?side2 A5.out).mono ?_); (case side1 => repeat (first | exact (Kd.C_below HR0.out HB.out) | (with_reducible refine Kd.C_alloc ?_ _) | (with_reducible refine Kd.C_drewN ?_ _) | (with_reducible refine Kd.C_drew ?_))); (case side2 => exact HC0.out); rintro e w17 ⟨rfl, hb⟩; refine ⟨_, rfl, ?_⟩; have n0_ := Aside0.mk (blk_below (g := gb329) (o := .cells #[.int .i64 a1_0, .int .i64 a1_1] 48 (0, 0)) (by (with_reducible repeat (first | refine blk_drewN ?_ _ | refine blk_drew ?_ | refine blk_alloc ?_ _)); exact BK329.out) hb); have n1_ := Aside0.mk (blk_below (g := gb330) (o := .cells #[.int .i64 a2_0, .int .i64 a2_1] 48 (0, 0)) (by (with_reducible repeat (first | refine blk_drewN ?_ _ | refine blk_drew ?_ | refine blk_alloc ?_ _)); exact BK330.out) hb); have n2_ := Aside0.mk (below_step (by repeat (first | (with_reducible first | exact HB.out | apply below_alloc | apply pw_below_drewN | apply below_drew1 | refine below_set ?_ GE329.out | refine below_set ?_ GE330.out) | exact HB.out)) hb); clear BK329; clear BK330; clear HB; have BK329 := n0_; have BK330 := n1_; have HB := n2_; clear n0_ n1_ n2_; (try clear hb); (try clear hb2); (try clear hk); (try clear hi); have hcz18_0 := blk_cells2 (w := w17) (g := gb329) BK329.out; have hfz18_0 := blk_frozen BK329.out) | ((with_reducible refine gate_callee (f := 28) rfl ?_); refine goesL_ (some 42) rfl rfl Try.func28 (by kernel_rfl) rfl #[.slice A0 l0.length c0, .int .i64 a1_0, .int .i64 a1_1] rfl (by (try simp only [List.map_toArray, List.map_cons, List.map_nil]); first | done | rfl | (simp only [List.length_drop, List.length_take]; rfl)) ?_; (with_reducible refine (params_ReturnTicks.calls k _ _ l0 a1_0 a1_1 t335 t336 _ ?side1 ?side2 A6.out).mono ?_); (case side1 => repeat (first | exact (Kd.C_below HR0.out HB.out) | (with_reducible refine Kd.C_alloc ?_ _) | (with_reducible refine Kd.C_drewN ?_ _) | (with_reducible refine Kd.C_drew ?_))); (case side2 => exact HC0.out); rintro e w19 ⟨rfl, hb⟩; refine ⟨_, rfl, ?_⟩; have n0_ := Aside0.mk (blk_below (g := gb329) (o := .cells #[.int .i64 a1_0, .int .i64 a1_1] 48 (0, 0)) (by (with_reducible repeat (first | refine blk_drewN ?_ _ | refine blk_drew ?_ | refine blk_alloc ?_ _)); exact BK329.out) hb); have n1_ := Aside0.mk (blk_below (g := gb330) (o := .cells #[.int .i64 a2_0, .int .i64 a2_1] 48 (0, 0)) (by (with_reducible repeat (first | refine blk_drewN ?_ _ | refine blk_drew ?_ | refine blk_alloc ?_ _)); exact BK330.out) hb); have n2_ := Aside0.mk (below_step (by repeat (first | (with_reducible first | exact HB.out | apply below_alloc | apply pw_below_drewN | apply below_drew1 | refine below_set ?_ GE329.out | refine below_set ?_ GE330.out) | exact HB.out)) hb); clear BK329; clear BK330; clear HB; have BK329 := n0_; have BK330 := n1_; have HB := n2_; clear n0_ n1_ n2_; (try clear hb); (try clear hb2); (try clear hk); (try clear hi); have hcz20_0 := blk_cells2 (w := w19) (g := gb330) BK330.out; have hfz20_0 := blk_frozen BK330.out) | ((with_reducible refine gate_callee (f := 28) rfl ?_); refine goesL_ (some 51) rfl rfl Try.func28 (by kernel_rfl) rfl #[.slice A0 l0.length c0, .int .i64 a2_0, .int .i64 a2_1] rfl (by (try simp only [List.map_toArray, List.map_cons, List.map_nil]); first | done | rfl | (simp only [List.length_drop, List.length_take]; rfl)) ?_; (with_reducible refine (params_ReturnTicks.calls k _ _ l0 a2_0 a2_1 t337 t338 _ ?side1 ?side2 A7.out).mono ?_); (case side1 => repeat (first | exact (Kd.C_below HR0.out HB.out) | (with_reducible refine Kd.C_alloc ?_ _) | (with_reducible refine Kd.C_drewN ?_ _) | (with_reducible refine Kd.C_drew ?_))); (case side2 => exact HC0.out); rintro e w21 ⟨rfl, hb⟩; refine ⟨_, rfl, ?_⟩; have n0_ := Aside0.mk (blk_below (g := gb329) (o := .cells #[.int .i64 a1_0, .int .i64 a1_1] 48 (0, 0)) (by (with_reducible repeat (first | refine blk_drewN ?_ _ | refine blk_drew ?_ | refine blk_alloc ?_ _)); exact BK329.out) hb); have n1_ := Aside0.mk (blk_below (g := gb330) (o := .cells #[.int .i64 a2_0, .int .i64 a2_1] 48 (0, 0)) (by (with_reducible repeat (first | refine blk_drewN ?_ _ | refine blk_drew ?_ | refine blk_alloc ?_ _)); exact BK330.out) hb); have n2_ := Aside0.mk (below_step (by repeat (first | (with_reducible first | exact HB.out | apply below_alloc | apply pw_below_drewN | apply below_drew1 | refine below_set ?_ GE329.out | refine below_set ?_ GE330.out) | exact HB.out)) hb); clear BK329; clear BK330; clear HB; have BK329 := n0_; have BK330 := n1_; have HB := n2_; clear n0_ n1_ n2_; (try clear hb); (try clear hb2); (try clear hk); (try clear hi); have hcz22_0 := blk_cells2 (w := w21) (g := gb329) BK329.out; have hfz22_0 := blk_frozen BK329.out) | ((with_reducible refine gate_callee (f := 30) rfl ?_); refine goesL_ (some 58) rfl rfl Try.func30 (by kernel_rfl) rfl #[.slice A0 l0.length c0, .int .i64 a1_0] rfl (by (try simp only [List.map_toArray, List.map_cons, List.map_nil]); first | done | rfl | (simp only [List.length_drop, List.length_take]; rfl)) ?_; (with_reducible refine (params_Slack.calls k _ _ l0 a1_0 t339 t340 _ ?side1 ?side2 A8.out).mono ?_); (case side1 => repeat (first | exact (Kd.C_below HR0.out HB.out) | (with_reducible refine Kd.C_alloc ?_ _) | (with_reducible refine Kd.C_drewN ?_ _) | (with_reducible refine Kd.C_drew ?_))); (case side2 => exact HC0.out); rintro e w23 ⟨rfl, hb⟩; refine ⟨_, rfl, ?_⟩; have n0_ := Aside0.mk (blk_below (g := gb329) (o := .cells #[.int .i64 a1_0, .int .i64 a1_1] 48 (0, 0)) (by (with_reducible repeat (first | refine blk_drewN ?_ _ | refine blk_drew ?_ | refine blk_alloc ?_ _)); exact BK329.out) hb); have n1_ := Aside0.mk (blk_below (g := gb330) (o := .cells #[.int .i64 a2_0, .int .i64 a2_1] 48 (0, 0)) (by (with_reducible repeat (first | refine blk_drewN ?_ _ | refine blk_drew ?_ | refine blk_alloc ?_ _)); exact BK330.out) hb); have n2_ := Aside0.mk (below_step (by repeat (first | (with_reducible first | exact HB.out | apply below_alloc | apply pw_below_drewN | apply below_drew1 | refine below_set ?_ GE329.out | refine below_set ?_ GE330.out) | exact HB.out)) hb); clear BK329; clear BK330; clear HB; have BK329 := n0_; have BK330 := n1_; have HB := n2_; clear n0_ n1_ n2_; (try clear hb); (try clear hb2); (try clear hk); (try clear hi); have hcz24_0 := blk_cells2 (w := w23) (g := gb330) BK330.out; have hfz24_0 := blk_frozen BK330.out) | ((with_reducible refine gate_callee (f := 30) rfl ?_); refine goesL_ (some 65) rfl rfl Try.func30 (by kernel_rfl) rfl #[.slice A0 l0.length c0, .int .i64 a2_0] rfl (by (try simp only [List.map_toArray, List.map_cons, List.map_nil]); first | done | rfl | (simp only [List.length_drop, List.length_take]; rfl)) ?_; (with_reducible refine (params_Slack.calls k _ _ l0 a2_0 t341 t342 _ ?side1 ?side2 A9.out).mono ?_); (case side1 => repeat (first | exact (Kd.C_below HR0.out HB.out) | (with_reducible refine Kd.C_alloc ?_ _) | (with_reducible refine Kd.C_drewN ?_ _) | (with_reducible refine Kd.C_drew ?_))); (case side2 => exact HC0.out); rintro e w25 ⟨rfl, hb⟩; refine ⟨_, rfl, ?_⟩; have n0_ := Aside0.mk (blk_below (g := gb329) (o := .cells #[.int .i64 a1_0, .int .i64 a1_1] 48 (0, 0)) (by (with_reducible repeat (first | refine blk_drewN ?_ _ | refine blk_drew ?_ | refine blk_alloc ?_ _)); exact BK329.out) hb); have n1_ := Aside0.mk (blk_below (g := gb330) (o := .cells #[.int .i64 a2_0, .int .i64 a2_1] 48 (0, 0)) (by (with_reducible repeat (first | refine blk_drewN ?_ _ | refine blk_drew ?_ | refine blk_alloc ?_ _)); exact BK330.out) hb); have n2_ := Aside0.mk (below_step (by repeat (first | (with_reducible first | exact HB.out | apply below_alloc | apply pw_below_drewN | apply below_drew1 | refine below_set ?_ GE329.out | refine below_set ?_ GE330.out) | exact HB.out)) hb); clear BK329; clear BK330; clear HB; have BK329 := n0_; have BK330 := n1_; have HB := n2_; clear n0_ n1_ n2_; (try clear hb); (try clear hb2); (try clear hk); (try clear hi)))
  (try simp only [Act.put, List.setIfInBounds_toArray, List.set_cons_zero, List.set_cons_succ])
  go_cut [79] (fun v79 wc => ∃ (kq : Nat) (x79_9 : Bool), v79 = .bool x79_9 ∧ Aside0 (windhoverlaw08_ParamsRises.j0 kq t331 t332 t333 t334 t335 t336 t337 t338 t339 t340 t341 t342 x79_9 = some r) ∧ Aside0 (kq ≤ k) ∧ Aside0 (wc.heap[gb329]? = some (.cells #[.int .i64 a1_0, .int .i64 a1_1] 48 (0, 0))) ∧ Aside0 (wc.heap[gb330]? = some (.cells #[.int .i64 a2_0, .int .i64 a2_1] 48 (0, 0))) ∧ Aside0 (Below w.heap.size w wc))
  case first =>
    have H := HC10.out
    clear HC10
    by_cases c26 : a1_0 > a2_0
    · rw [if_pos c26] at H
      have c26b0 : decide (a2_0 < a1_0) = true := decide_eq_true c26
      clear c26
      (first | rw [c26b0] | (simp only [i64_w, i32_w]; rw [c26b0]) | skip)
      have H' := Aside0.mk H
      clear H
      have hnb27 := NB329_330.out
      have hnc27 := NB330_329.out
      have hcz28_0 := blk_cells2 (w := w25) (g := gb329) BK329.out
      have hfz28_0 := blk_frozen BK329.out
      have hcz29_0 := blk_cells2 (w := w25) (g := gb330) BK330.out
      have hfz29_0 := blk_frozen BK330.out
      go_wp2
      go_meet
      case rel => exact ⟨_, (true), (by first | rfl | (simp; done) | (simp [*]; done)), H', ⟨by first | omega | exact Nat.le_refl _⟩, ⟨by (with_reducible repeat (first | refine blk_drewN ?_ _ | refine blk_drew ?_ | refine blk_alloc ?_ _)); exact BK329.out⟩, ⟨by (with_reducible repeat (first | refine blk_drewN ?_ _ | refine blk_drew ?_ | refine blk_alloc ?_ _)); exact BK330.out⟩, ⟨by repeat (first | (with_reducible first | exact HB.out | apply below_alloc | apply pw_below_drewN | apply below_drew1 | refine below_set ?_ GE329.out | refine below_set ?_ GE330.out) | exact HB.out)⟩⟩
    · rw [if_neg c26] at H
      have c26b0 : decide (a2_0 < a1_0) = false := decide_eq_false c26
      clear c26
      (first | rw [c26b0] | (simp only [i64_w, i32_w]; rw [c26b0]) | skip)
      have H' := Aside0.mk H
      clear H
      have hnb30 := NB329_330.out
      have hnc30 := NB330_329.out
      have hcz31_0 := blk_cells2 (w := w25) (g := gb329) BK329.out
      have hfz31_0 := blk_frozen BK329.out
      have hcz32_0 := blk_cells2 (w := w25) (g := gb330) BK330.out
      have hfz32_0 := blk_frozen BK330.out
      go_wp2
      go_meet
      case rel => exact ⟨_, (decide (a1_1 > a2_1)), (by first | rfl | (simp; done) | (simp [*]; done)), H', ⟨by first | omega | exact Nat.le_refl _⟩, ⟨by (with_reducible repeat (first | refine blk_drewN ?_ _ | refine blk_drew ?_ | refine blk_alloc ?_ _)); exact BK329.out⟩, ⟨by (with_reducible repeat (first | refine blk_drewN ?_ _ | refine blk_drew ?_ | refine blk_alloc ?_ _)); exact BK330.out⟩, ⟨by repeat (first | (with_reducible first | exact HB.out | apply below_alloc | apply pw_below_drewN | apply below_drew1 | refine below_set ?_ GE329.out | refine below_set ?_ GE330.out) | exact HB.out)⟩⟩
  case rest =>
    clear HC10
    try clear c1
    try clear c2
    try clear p2
    try clear c3
    try clear c8
    try clear c13
    try clear c26
    try clear c26b0
    try clear c27
    try clear c28
    try clear c30
    try clear hcz14_0
    try clear hcz16_0
    try clear hcz18_0
    try clear hcz20_0
    try clear hcz22_0
    try clear hcz24_0
    try clear hcz28_0
    try clear hcz29_0
    try clear hcz31_0
    try clear hcz32_0
    try clear hfz14_0
    try clear hfz16_0
    try clear hfz18_0
    try clear hfz20_0
    try clear hfz22_0
    try clear hfz24_0
    try clear hfz28_0
    try clear hfz29_0
    try clear hfz31_0
    try clear hfz32_0
    obtain ⟨kq, x79_9, rfl, HA, HJ9, BK329, BK330, HB⟩ := hcut
    cases kq with
    | zero => exact absurd HA.out (by simp [windhoverlaw08_ParamsRises.j0])
    | succ kj9 =>
      have H := HA.out
      clear HA
      simp only [windhoverlaw08_ParamsRises.j0] at H
      by_cases c33 : x79_9 = true
      · subst c33
        have H1 : ((windhoverlaw08_awake.f kj9).bind fun t343 => (some t343)) = some r := by rw [if_pos rfl] at H; exact H
        clear H
        have H := H1
        clear H1
        replace H := Option.bind_eq_some_iff.mp H
        obtain ⟨t343, A340, H⟩ := H
        replace H : (some t343) = some r := H
        have A34 := Aside0.mk A340
        clear A340
        obtain rfl := Option.some.inj H
        go_wp2_with (first | ((with_reducible refine gate_callee (f := 15) rfl ?_); refine goesL_ (some 80) rfl rfl Try.func15 (by kernel_rfl) rfl #[] rfl (by (try simp only [List.map_toArray, List.map_cons, List.map_nil]); first | done | rfl | (simp only [List.length_drop, List.length_take]; rfl)) ?_; (with_reducible refine (windhoverlaw08_awake.calls kj9  t343 _ A34.out).mono ?_); rintro e w35 ⟨rfl, hb⟩; refine ⟨_, rfl, ?_⟩; have n0_ := Aside0.mk (blk_below (g := gb329) (o := .cells #[.int .i64 a1_0, .int .i64 a1_1] 48 (0, 0)) (by (with_reducible repeat (first | refine blk_drewN ?_ _ | refine blk_drew ?_ | refine blk_alloc ?_ _)); exact BK329.out) hb); have n1_ := Aside0.mk (blk_below (g := gb330) (o := .cells #[.int .i64 a2_0, .int .i64 a2_1] 48 (0, 0)) (by (with_reducible repeat (first | refine blk_drewN ?_ _ | refine blk_drew ?_ | refine blk_alloc ?_ _)); exact BK330.out) hb); have n2_ := Aside0.mk (below_step (by repeat (first | (with_reducible first | exact HB.out | apply below_alloc | apply pw_below_drewN | apply below_drew1 | refine below_set ?_ GE329.out | refine below_set ?_ GE330.out) | exact HB.out)) hb); clear BK329; clear BK330; clear HB; have BK329 := n0_; have BK330 := n1_; have HB := n2_; clear n0_ n1_ n2_; (try clear hb); (try clear hb2); (try clear hk); (try clear hi)))
        go_ret
        exact ⟨by first | rfl | (simp [errW_none, errW_some] <;> rfl) | (simp [*, errW_none, errW_some] <;> rfl), by repeat (first | (with_reducible first | exact HB.out | apply below_alloc | apply pw_below_drewN | apply below_drew1 | refine below_set ?_ GE329.out | refine below_set ?_ GE330.out) | exact HB.out)⟩
      · replace c33 := Bool.eq_false_iff.mpr c33
        subst c33
        have H1 : (if t332 = 0 then (if t334 = 0 then (if t331 ≤ t333 then (if t336 = 0 then (if t338 = 0 then (if t335 ≤ t337 then (if t340 = 0 then (if t342 = 0 then (if t339 ≤ t341 then (if t331 > 0 then (if t335 > 0 then (if t339 > 0 then ((windhoverlaw08_awake.f kj9).bind fun t344 => (some t344)) else (none)) else (none)) else (none)) else (if t331 > 0 then (if t335 > 0 then (none) else (none)) else (none))) else (if t331 > 0 then (if t335 > 0 then ((windhoverlaw08_awake.f kj9).bind fun t345 => (some t345)) else (none)) else (none))) else (if t331 > 0 then (if t335 > 0 then ((windhoverlaw08_awake.f kj9).bind fun t346 => (some t346)) else (none)) else (none))) else (if t340 = 0 then (if t342 = 0 then (if t339 ≤ t341 then (if t331 > 0 then (none) else (none)) else (if t331 > 0 then (none) else (none))) else (if t331 > 0 then (none) else (none))) else (if t331 > 0 then (none) else (none)))) else (if t340 = 0 then (if t342 = 0 then (if t339 ≤ t341 then (if t331 > 0 then (if t339 > 0 then ((windhoverlaw08_awake.f kj9).bind fun t347 => (some t347)) else (none)) else (none)) else (if t331 > 0 then (none) else (none))) else (if t331 > 0 then ((windhoverlaw08_awake.f kj9).bind fun t348 => (some t348)) else (none))) else (if t331 > 0 then ((windhoverlaw08_awake.f kj9).bind fun t349 => (some t349)) else (none)))) else (if t340 = 0 then (if t342 = 0 then (if t339 ≤ t341 then (if t331 > 0 then (if t339 > 0 then ((windhoverlaw08_awake.f kj9).bind fun t350 => (some t350)) else (none)) else (none)) else (if t331 > 0 then (none) else (none))) else (if t331 > 0 then ((windhoverlaw08_awake.f kj9).bind fun t351 => (some t351)) else (none))) else (if t331 > 0 then ((windhoverlaw08_awake.f kj9).bind fun t352 => (some t352)) else (none)))) else (if t336 = 0 then (if t338 = 0 then (if t335 ≤ t337 then (if t340 = 0 then (if t342 = 0 then (if t339 ≤ t341 then (none) else (none)) else (none)) else (none)) else (if t340 = 0 then (if t342 = 0 then (if t339 ≤ t341 then (none) else (none)) else (none)) else (none))) else (if t340 = 0 then (if t342 = 0 then (if t339 ≤ t341 then (none) else (none)) else (none)) else (none))) else (if t340 = 0 then (if t342 = 0 then (if t339 ≤ t341 then (none) else (none)) else (none)) else (none)))) else (if t336 = 0 then (if t338 = 0 then (if t335 ≤ t337 then (if t340 = 0 then (if t342 = 0 then (if t339 ≤ t341 then (if t335 > 0 then (if t339 > 0 then ((windhoverlaw08_awake.f kj9).bind fun t353 => (some t353)) else (none)) else (none)) else (if t335 > 0 then (none) else (none))) else (if t335 > 0 then ((windhoverlaw08_awake.f kj9).bind fun t354 => (some t354)) else (none))) else (if t335 > 0 then ((windhoverlaw08_awake.f kj9).bind fun t355 => (some t355)) else (none))) else (if t340 = 0 then (if t342 = 0 then (if t339 ≤ t341 then (none) else (none)) else (none)) else (none))) else (if t340 = 0 then (if t342 = 0 then (if t339 ≤ t341 then (if t339 > 0 then ((windhoverlaw08_awake.f kj9).bind fun t356 => (some t356)) else (none)) else (none)) else ((windhoverlaw08_awake.f kj9).bind fun t357 => (some t357))) else ((windhoverlaw08_awake.f kj9).bind fun t358 => (some t358)))) else (if t340 = 0 then (if t342 = 0 then (if t339 ≤ t341 then (if t339 > 0 then ((windhoverlaw08_awake.f kj9).bind fun t359 => (some t359)) else (none)) else (none)) else ((windhoverlaw08_awake.f kj9).bind fun t360 => (some t360))) else ((windhoverlaw08_awake.f kj9).bind fun t361 => (some t361))))) else (if t336 = 0 then (if t338 = 0 then (if t335 ≤ t337 then (if t340 = 0 then (if t342 = 0 then (if t339 ≤ t341 then (if t335 > 0 then (if t339 > 0 then ((windhoverlaw08_awake.f kj9).bind fun t362 => (some t362)) else (none)) else (none)) else (if t335 > 0 then (none) else (none))) else (if t335 > 0 then ((windhoverlaw08_awake.f kj9).bind fun t363 => (some t363)) else (none))) else (if t335 > 0 then ((windhoverlaw08_awake.f kj9).bind fun t364 => (some t364)) else (none))) else (if t340 = 0 then (if t342 = 0 then (if t339 ≤ t341 then (none) else (none)) else (none)) else (none))) else (if t340 = 0 then (if t342 = 0 then (if t339 ≤ t341 then (if t339 > 0 then ((windhoverlaw08_awake.f kj9).bind fun t365 => (some t365)) else (none)) else (none)) else ((windhoverlaw08_awake.f kj9).bind fun t366 => (some t366))) else ((windhoverlaw08_awake.f kj9).bind fun t367 => (some t367)))) else (if t340 = 0 then (if t342 = 0 then (if t339 ≤ t341 then (if t339 > 0 then ((windhoverlaw08_awake.f kj9).bind fun t368 => (some t368)) else (none)) else (none)) else ((windhoverlaw08_awake.f kj9).bind fun t369 => (some t369))) else ((windhoverlaw08_awake.f kj9).bind fun t370 => (some t370))))) = some r := by rw [if_neg (show ¬ (false = true) by decide)] at H; exact H
        clear H
        have H := H1
        clear H1
        by_cases c36 : t332 = 0
        · rw [if_pos c36] at H
          have c36b0 : (t332 == 0) = true := beq_iff_eq.mpr c36
          have c36b1 : (t332 != 0) = false := bne_eq_false_iff_eq.mpr c36
          clear c36
          by_cases c37 : t334 = 0
          · rw [if_pos c37] at H
            have c37b0 : (t334 == 0) = true := beq_iff_eq.mpr c37
            have c37b1 : (t334 != 0) = false := bne_eq_false_iff_eq.mpr c37
            clear c37
            by_cases c38 : t331 ≤ t333
            · rw [if_pos c38] at H
              have c38b0 : decide (t331 ≤ t333) = true := decide_eq_true c38
              clear c38
              by_cases c39 : t336 = 0
              · rw [if_pos c39] at H
                have c39b0 : (t336 == 0) = true := beq_iff_eq.mpr c39
                have c39b1 : (t336 != 0) = false := bne_eq_false_iff_eq.mpr c39
                clear c39
                by_cases c40 : t338 = 0
                · rw [if_pos c40] at H
                  have c40b0 : (t338 == 0) = true := beq_iff_eq.mpr c40
                  have c40b1 : (t338 != 0) = false := bne_eq_false_iff_eq.mpr c40
                  clear c40
                  by_cases c41 : t335 ≤ t337
                  · rw [if_pos c41] at H
                    have c41b0 : decide (t335 ≤ t337) = true := decide_eq_true c41
                    clear c41
                    by_cases c42 : t340 = 0
                    · rw [if_pos c42] at H
                      have c42b0 : (t340 == 0) = true := beq_iff_eq.mpr c42
                      have c42b1 : (t340 != 0) = false := bne_eq_false_iff_eq.mpr c42
                      clear c42
                      by_cases c43 : t342 = 0
                      · rw [if_pos c43] at H
                        have c43b0 : (t342 == 0) = true := beq_iff_eq.mpr c43
                        have c43b1 : (t342 != 0) = false := bne_eq_false_iff_eq.mpr c43
                        clear c43
                        by_cases c44 : t339 ≤ t341
                        · rw [if_pos c44] at H
                          have c44b0 : decide (t339 ≤ t341) = true := decide_eq_true c44
                          clear c44
                          by_cases c45 : t331 > 0
                          · rw [if_pos c45] at H
                            have c45b0 : decide (0 < t331) = true := decide_eq_true c45
                            clear c45
                            by_cases c46 : t335 > 0
                            · rw [if_pos c46] at H
                              have c46b0 : decide (0 < t335) = true := decide_eq_true c46
                              clear c46
                              by_cases c47 : t339 > 0
                              · rw [if_pos c47] at H
                                have c47b0 : decide (0 < t339) = true := decide_eq_true c47
                                clear c47
                                replace H := Option.bind_eq_some_iff.mp H
                                obtain ⟨t344, A480, H⟩ := H
                                replace H : (some t344) = some r := H
                                have A48 := Aside0.mk A480
                                clear A480
                                obtain rfl := Option.some.inj H
                                go_wp2_with (first | (go_at_call 15; (with_reducible refine (windhoverlaw08_awake.calls kj9  t344 _ A48.out).mono ?_); rintro e w49 ⟨rfl, hb⟩; have n0_ := Aside0.mk (blk_below (g := gb329) (o := .cells #[.int .i64 a1_0, .int .i64 a1_1] 48 (0, 0)) (by (with_reducible repeat (first | refine blk_drewN ?_ _ | refine blk_drew ?_ | refine blk_alloc ?_ _)); exact BK329.out) hb); have n1_ := Aside0.mk (blk_below (g := gb330) (o := .cells #[.int .i64 a2_0, .int .i64 a2_1] 48 (0, 0)) (by (with_reducible repeat (first | refine blk_drewN ?_ _ | refine blk_drew ?_ | refine blk_alloc ?_ _)); exact BK330.out) hb); have n2_ := Aside0.mk (below_step (by repeat (first | (with_reducible first | exact HB.out | apply below_alloc | apply pw_below_drewN | apply below_drew1 | refine below_set ?_ GE329.out | refine below_set ?_ GE330.out) | exact HB.out)) hb); clear BK329; clear BK330; clear HB; have BK329 := n0_; have BK330 := n1_; have HB := n2_; clear n0_ n1_ n2_; (try clear hb); (try clear hb2); (try clear hk); (try clear hi)))
                                go_ret
                                exact ⟨by first | rfl | (simp [errW_none, errW_some] <;> rfl) | (simp [*, errW_none, errW_some] <;> rfl), by repeat (first | (with_reducible first | exact HB.out | apply below_alloc | apply pw_below_drewN | apply below_drew1 | refine below_set ?_ GE329.out | refine below_set ?_ GE330.out) | exact HB.out)⟩
                              · rw [if_neg c47] at H
                                exact absurd H (by simp)
                            · rw [if_neg c46] at H
                              exact absurd H (by simp)
                          · rw [if_neg c45] at H
                            exact absurd H (by simp)
                        · rw [if_neg c44] at H
                          have c44b0 : decide (t339 ≤ t341) = false := decide_eq_false c44
                          clear c44
                          by_cases c50 : t331 > 0
                          · rw [if_pos c50] at H
                            have c50b0 : decide (0 < t331) = true := decide_eq_true c50
                            clear c50
                            by_cases c51 : t335 > 0
                            · rw [if_pos c51] at H
                              exact absurd H (by simp)
                            · rw [if_neg c51] at H
                              exact absurd H (by simp)
                          · rw [if_neg c50] at H
                            exact absurd H (by simp)
                      · rw [if_neg c43] at H
                        have c43b0 : (t342 == 0) = false := beq_eq_false_iff_ne.mpr c43
                        have c43b1 : (t342 != 0) = true := bne_iff_ne.mpr c43
                        by_cases c52 : t331 > 0
                        · rw [if_pos c52] at H
                          have c52b0 : decide (0 < t331) = true := decide_eq_true c52
                          clear c52
                          by_cases c53 : t335 > 0
                          · rw [if_pos c53] at H
                            have c53b0 : decide (0 < t335) = true := decide_eq_true c53
                            clear c53
                            replace H := Option.bind_eq_some_iff.mp H
                            obtain ⟨t345, A540, H⟩ := H
                            replace H : (some t345) = some r := H
                            have A54 := Aside0.mk A540
                            clear A540
                            obtain rfl := Option.some.inj H
                            go_wp2_with (first | (go_at_call 15; (with_reducible refine (windhoverlaw08_awake.calls kj9  t345 _ A54.out).mono ?_); rintro e w55 ⟨rfl, hb⟩; have n0_ := Aside0.mk (blk_below (g := gb329) (o := .cells #[.int .i64 a1_0, .int .i64 a1_1] 48 (0, 0)) (by (with_reducible repeat (first | refine blk_drewN ?_ _ | refine blk_drew ?_ | refine blk_alloc ?_ _)); exact BK329.out) hb); have n1_ := Aside0.mk (blk_below (g := gb330) (o := .cells #[.int .i64 a2_0, .int .i64 a2_1] 48 (0, 0)) (by (with_reducible repeat (first | refine blk_drewN ?_ _ | refine blk_drew ?_ | refine blk_alloc ?_ _)); exact BK330.out) hb); have n2_ := Aside0.mk (below_step (by repeat (first | (with_reducible first | exact HB.out | apply below_alloc | apply pw_below_drewN | apply below_drew1 | refine below_set ?_ GE329.out | refine below_set ?_ GE330.out) | exact HB.out)) hb); clear BK329; clear BK330; clear HB; have BK329 := n0_; have BK330 := n1_; have HB := n2_; clear n0_ n1_ n2_; (try clear hb); (try clear hb2); (try clear hk); (try clear hi)))
                            go_ret
                            exact ⟨by first | rfl | (simp [errW_none, errW_some] <;> rfl) | (simp [*, errW_none, errW_some] <;> rfl), by repeat (first | (with_reducible first | exact HB.out | apply below_alloc | apply pw_below_drewN | apply below_drew1 | refine below_set ?_ GE329.out | refine below_set ?_ GE330.out) | exact HB.out)⟩
                          · rw [if_neg c53] at H
                            exact absurd H (by simp)
                        · rw [if_neg c52] at H
                          exact absurd H (by simp)
                    · rw [if_neg c42] at H
                      have c42b0 : (t340 == 0) = false := beq_eq_false_iff_ne.mpr c42
                      have c42b1 : (t340 != 0) = true := bne_iff_ne.mpr c42
                      by_cases c56 : t331 > 0
                      · rw [if_pos c56] at H
                        have c56b0 : decide (0 < t331) = true := decide_eq_true c56
                        clear c56
                        by_cases c57 : t335 > 0
                        · rw [if_pos c57] at H
                          have c57b0 : decide (0 < t335) = true := decide_eq_true c57
                          clear c57
                          replace H := Option.bind_eq_some_iff.mp H
                          obtain ⟨t346, A580, H⟩ := H
                          replace H : (some t346) = some r := H
                          have A58 := Aside0.mk A580
                          clear A580
                          obtain rfl := Option.some.inj H
                          go_wp2_with (first | (go_at_call 15; (with_reducible refine (windhoverlaw08_awake.calls kj9  t346 _ A58.out).mono ?_); rintro e w59 ⟨rfl, hb⟩; have n0_ := Aside0.mk (blk_below (g := gb329) (o := .cells #[.int .i64 a1_0, .int .i64 a1_1] 48 (0, 0)) (by (with_reducible repeat (first | refine blk_drewN ?_ _ | refine blk_drew ?_ | refine blk_alloc ?_ _)); exact BK329.out) hb); have n1_ := Aside0.mk (blk_below (g := gb330) (o := .cells #[.int .i64 a2_0, .int .i64 a2_1] 48 (0, 0)) (by (with_reducible repeat (first | refine blk_drewN ?_ _ | refine blk_drew ?_ | refine blk_alloc ?_ _)); exact BK330.out) hb); have n2_ := Aside0.mk (below_step (by repeat (first | (with_reducible first | exact HB.out | apply below_alloc | apply pw_below_drewN | apply below_drew1 | refine below_set ?_ GE329.out | refine below_set ?_ GE330.out) | exact HB.out)) hb); clear BK329; clear BK330; clear HB; have BK329 := n0_; have BK330 := n1_; have HB := n2_; clear n0_ n1_ n2_; (try clear hb); (try clear hb2); (try clear hk); (try clear hi)))
                          go_ret
                          exact ⟨by first | rfl | (simp [errW_none, errW_some] <;> rfl) | (simp [*, errW_none, errW_some] <;> rfl), by repeat (first | (with_reducible first | exact HB.out | apply below_alloc | apply pw_below_drewN | apply below_drew1 | refine below_set ?_ GE329.out | refine below_set ?_ GE330.out) | exact HB.out)⟩
                        · rw [if_neg c57] at H
                          exact absurd H (by simp)
                      · rw [if_neg c56] at H
                        exact absurd H (by simp)
                  · rw [if_neg c41] at H
                    have c41b0 : decide (t335 ≤ t337) = false := decide_eq_false c41
                    clear c41
                    by_cases c60 : t340 = 0
                    · rw [if_pos c60] at H
                      have c60b0 : (t340 == 0) = true := beq_iff_eq.mpr c60
                      have c60b1 : (t340 != 0) = false := bne_eq_false_iff_eq.mpr c60
                      clear c60
                      by_cases c61 : t342 = 0
                      · rw [if_pos c61] at H
                        have c61b0 : (t342 == 0) = true := beq_iff_eq.mpr c61
                        have c61b1 : (t342 != 0) = false := bne_eq_false_iff_eq.mpr c61
                        clear c61
                        by_cases c62 : t339 ≤ t341
                        · rw [if_pos c62] at H
                          have c62b0 : decide (t339 ≤ t341) = true := decide_eq_true c62
                          clear c62
                          by_cases c63 : t331 > 0
                          · rw [if_pos c63] at H
                            exact absurd H (by simp)
                          · rw [if_neg c63] at H
                            exact absurd H (by simp)
                        · rw [if_neg c62] at H
                          have c62b0 : decide (t339 ≤ t341) = false := decide_eq_false c62
                          clear c62
                          by_cases c64 : t331 > 0
                          · rw [if_pos c64] at H
                            exact absurd H (by simp)
                          · rw [if_neg c64] at H
                            exact absurd H (by simp)
                      · rw [if_neg c61] at H
                        have c61b0 : (t342 == 0) = false := beq_eq_false_iff_ne.mpr c61
                        have c61b1 : (t342 != 0) = true := bne_iff_ne.mpr c61
                        by_cases c65 : t331 > 0
                        · rw [if_pos c65] at H
                          exact absurd H (by simp)
                        · rw [if_neg c65] at H
                          exact absurd H (by simp)
                    · rw [if_neg c60] at H
                      have c60b0 : (t340 == 0) = false := beq_eq_false_iff_ne.mpr c60
                      have c60b1 : (t340 != 0) = true := bne_iff_ne.mpr c60
                      by_cases c66 : t331 > 0
                      · rw [if_pos c66] at H
                        exact absurd H (by simp)
                      · rw [if_neg c66] at H
                        exact absurd H (by simp)
                · rw [if_neg c40] at H
                  have c40b0 : (t338 == 0) = false := beq_eq_false_iff_ne.mpr c40
                  have c40b1 : (t338 != 0) = true := bne_iff_ne.mpr c40
                  by_cases c67 : t340 = 0
                  · rw [if_pos c67] at H
                    have c67b0 : (t340 == 0) = true := beq_iff_eq.mpr c67
                    have c67b1 : (t340 != 0) = false := bne_eq_false_iff_eq.mpr c67
                    clear c67
                    by_cases c68 : t342 = 0
                    · rw [if_pos c68] at H
                      have c68b0 : (t342 == 0) = true := beq_iff_eq.mpr c68
                      have c68b1 : (t342 != 0) = false := bne_eq_false_iff_eq.mpr c68
                      clear c68
                      by_cases c69 : t339 ≤ t341
                      · rw [if_pos c69] at H
                        have c69b0 : decide (t339 ≤ t341) = true := decide_eq_true c69
                        clear c69
                        by_cases c70 : t331 > 0
                        · rw [if_pos c70] at H
                          have c70b0 : decide (0 < t331) = true := decide_eq_true c70
                          clear c70
                          by_cases c71 : t339 > 0
                          · rw [if_pos c71] at H
                            have c71b0 : decide (0 < t339) = true := decide_eq_true c71
                            clear c71
                            replace H := Option.bind_eq_some_iff.mp H
                            obtain ⟨t347, A720, H⟩ := H
                            replace H : (some t347) = some r := H
                            have A72 := Aside0.mk A720
                            clear A720
                            obtain rfl := Option.some.inj H
                            go_wp2_with (first | (go_at_call 15; (with_reducible refine (windhoverlaw08_awake.calls kj9  t347 _ A72.out).mono ?_); rintro e w73 ⟨rfl, hb⟩; have n0_ := Aside0.mk (blk_below (g := gb329) (o := .cells #[.int .i64 a1_0, .int .i64 a1_1] 48 (0, 0)) (by (with_reducible repeat (first | refine blk_drewN ?_ _ | refine blk_drew ?_ | refine blk_alloc ?_ _)); exact BK329.out) hb); have n1_ := Aside0.mk (blk_below (g := gb330) (o := .cells #[.int .i64 a2_0, .int .i64 a2_1] 48 (0, 0)) (by (with_reducible repeat (first | refine blk_drewN ?_ _ | refine blk_drew ?_ | refine blk_alloc ?_ _)); exact BK330.out) hb); have n2_ := Aside0.mk (below_step (by repeat (first | (with_reducible first | exact HB.out | apply below_alloc | apply pw_below_drewN | apply below_drew1 | refine below_set ?_ GE329.out | refine below_set ?_ GE330.out) | exact HB.out)) hb); clear BK329; clear BK330; clear HB; have BK329 := n0_; have BK330 := n1_; have HB := n2_; clear n0_ n1_ n2_; (try clear hb); (try clear hb2); (try clear hk); (try clear hi)))
                            go_ret
                            exact ⟨by first | rfl | (simp [errW_none, errW_some] <;> rfl) | (simp [*, errW_none, errW_some] <;> rfl), by repeat (first | (with_reducible first | exact HB.out | apply below_alloc | apply pw_below_drewN | apply below_drew1 | refine below_set ?_ GE329.out | refine below_set ?_ GE330.out) | exact HB.out)⟩
                          · rw [if_neg c71] at H
                            exact absurd H (by simp)
                        · rw [if_neg c70] at H
                          exact absurd H (by simp)
                      · rw [if_neg c69] at H
                        have c69b0 : decide (t339 ≤ t341) = false := decide_eq_false c69
                        clear c69
                        by_cases c74 : t331 > 0
                        · rw [if_pos c74] at H
                          exact absurd H (by simp)
                        · rw [if_neg c74] at H
                          exact absurd H (by simp)
                    · rw [if_neg c68] at H
                      have c68b0 : (t342 == 0) = false := beq_eq_false_iff_ne.mpr c68
                      have c68b1 : (t342 != 0) = true := bne_iff_ne.mpr c68
                      by_cases c75 : t331 > 0
                      · rw [if_pos c75] at H
                        have c75b0 : decide (0 < t331) = true := decide_eq_true c75
                        clear c75
                        replace H := Option.bind_eq_some_iff.mp H
                        obtain ⟨t348, A760, H⟩ := H
                        replace H : (some t348) = some r := H
                        have A76 := Aside0.mk A760
                        clear A760
                        obtain rfl := Option.some.inj H
                        go_wp2_with (first | (go_at_call 15; (with_reducible refine (windhoverlaw08_awake.calls kj9  t348 _ A76.out).mono ?_); rintro e w77 ⟨rfl, hb⟩; have n0_ := Aside0.mk (blk_below (g := gb329) (o := .cells #[.int .i64 a1_0, .int .i64 a1_1] 48 (0, 0)) (by (with_reducible repeat (first | refine blk_drewN ?_ _ | refine blk_drew ?_ | refine blk_alloc ?_ _)); exact BK329.out) hb); have n1_ := Aside0.mk (blk_below (g := gb330) (o := .cells #[.int .i64 a2_0, .int .i64 a2_1] 48 (0, 0)) (by (with_reducible repeat (first | refine blk_drewN ?_ _ | refine blk_drew ?_ | refine blk_alloc ?_ _)); exact BK330.out) hb); have n2_ := Aside0.mk (below_step (by repeat (first | (with_reducible first | exact HB.out | apply below_alloc | apply pw_below_drewN | apply below_drew1 | refine below_set ?_ GE329.out | refine below_set ?_ GE330.out) | exact HB.out)) hb); clear BK329; clear BK330; clear HB; have BK329 := n0_; have BK330 := n1_; have HB := n2_; clear n0_ n1_ n2_; (try clear hb); (try clear hb2); (try clear hk); (try clear hi)))
                        go_ret
                        exact ⟨by first | rfl | (simp [errW_none, errW_some] <;> rfl) | (simp [*, errW_none, errW_some] <;> rfl), by repeat (first | (with_reducible first | exact HB.out | apply below_alloc | apply pw_below_drewN | apply below_drew1 | refine below_set ?_ GE329.out | refine below_set ?_ GE330.out) | exact HB.out)⟩
                      · rw [if_neg c75] at H
                        exact absurd H (by simp)
                  · rw [if_neg c67] at H
                    have c67b0 : (t340 == 0) = false := beq_eq_false_iff_ne.mpr c67
                    have c67b1 : (t340 != 0) = true := bne_iff_ne.mpr c67
                    by_cases c78 : t331 > 0
                    · rw [if_pos c78] at H
                      have c78b0 : decide (0 < t331) = true := decide_eq_true c78
                      clear c78
                      replace H := Option.bind_eq_some_iff.mp H
                      obtain ⟨t349, A790, H⟩ := H
                      replace H : (some t349) = some r := H
                      have A79 := Aside0.mk A790
                      clear A790
                      obtain rfl := Option.some.inj H
                      go_wp2_with (first | (go_at_call 15; (with_reducible refine (windhoverlaw08_awake.calls kj9  t349 _ A79.out).mono ?_); rintro e w80 ⟨rfl, hb⟩; have n0_ := Aside0.mk (blk_below (g := gb329) (o := .cells #[.int .i64 a1_0, .int .i64 a1_1] 48 (0, 0)) (by (with_reducible repeat (first | refine blk_drewN ?_ _ | refine blk_drew ?_ | refine blk_alloc ?_ _)); exact BK329.out) hb); have n1_ := Aside0.mk (blk_below (g := gb330) (o := .cells #[.int .i64 a2_0, .int .i64 a2_1] 48 (0, 0)) (by (with_reducible repeat (first | refine blk_drewN ?_ _ | refine blk_drew ?_ | refine blk_alloc ?_ _)); exact BK330.out) hb); have n2_ := Aside0.mk (below_step (by repeat (first | (with_reducible first | exact HB.out | apply below_alloc | apply pw_below_drewN | apply below_drew1 | refine below_set ?_ GE329.out | refine below_set ?_ GE330.out) | exact HB.out)) hb); clear BK329; clear BK330; clear HB; have BK329 := n0_; have BK330 := n1_; have HB := n2_; clear n0_ n1_ n2_; (try clear hb); (try clear hb2); (try clear hk); (try clear hi)))
                      go_ret
                      exact ⟨by first | rfl | (simp [errW_none, errW_some] <;> rfl) | (simp [*, errW_none, errW_some] <;> rfl), by repeat (first | (with_reducible first | exact HB.out | apply below_alloc | apply pw_below_drewN | apply below_drew1 | refine below_set ?_ GE329.out | refine below_set ?_ GE330.out) | exact HB.out)⟩
                    · rw [if_neg c78] at H
                      exact absurd H (by simp)
              · rw [if_neg c39] at H
                have c39b0 : (t336 == 0) = false := beq_eq_false_iff_ne.mpr c39
                have c39b1 : (t336 != 0) = true := bne_iff_ne.mpr c39
                by_cases c81 : t340 = 0
                · rw [if_pos c81] at H
                  have c81b0 : (t340 == 0) = true := beq_iff_eq.mpr c81
                  have c81b1 : (t340 != 0) = false := bne_eq_false_iff_eq.mpr c81
                  clear c81
                  by_cases c82 : t342 = 0
                  · rw [if_pos c82] at H
                    have c82b0 : (t342 == 0) = true := beq_iff_eq.mpr c82
                    have c82b1 : (t342 != 0) = false := bne_eq_false_iff_eq.mpr c82
                    clear c82
                    by_cases c83 : t339 ≤ t341
                    · rw [if_pos c83] at H
                      have c83b0 : decide (t339 ≤ t341) = true := decide_eq_true c83
                      clear c83
                      by_cases c84 : t331 > 0
                      · rw [if_pos c84] at H
                        have c84b0 : decide (0 < t331) = true := decide_eq_true c84
                        clear c84
                        by_cases c85 : t339 > 0
                        · rw [if_pos c85] at H
                          have c85b0 : decide (0 < t339) = true := decide_eq_true c85
                          clear c85
                          replace H := Option.bind_eq_some_iff.mp H
                          obtain ⟨t350, A860, H⟩ := H
                          replace H : (some t350) = some r := H
                          have A86 := Aside0.mk A860
                          clear A860
                          obtain rfl := Option.some.inj H
                          go_wp2_with (first | (go_at_call 15; (with_reducible refine (windhoverlaw08_awake.calls kj9  t350 _ A86.out).mono ?_); rintro e w87 ⟨rfl, hb⟩; have n0_ := Aside0.mk (blk_below (g := gb329) (o := .cells #[.int .i64 a1_0, .int .i64 a1_1] 48 (0, 0)) (by (with_reducible repeat (first | refine blk_drewN ?_ _ | refine blk_drew ?_ | refine blk_alloc ?_ _)); exact BK329.out) hb); have n1_ := Aside0.mk (blk_below (g := gb330) (o := .cells #[.int .i64 a2_0, .int .i64 a2_1] 48 (0, 0)) (by (with_reducible repeat (first | refine blk_drewN ?_ _ | refine blk_drew ?_ | refine blk_alloc ?_ _)); exact BK330.out) hb); have n2_ := Aside0.mk (below_step (by repeat (first | (with_reducible first | exact HB.out | apply below_alloc | apply pw_below_drewN | apply below_drew1 | refine below_set ?_ GE329.out | refine below_set ?_ GE330.out) | exact HB.out)) hb); clear BK329; clear BK330; clear HB; have BK329 := n0_; have BK330 := n1_; have HB := n2_; clear n0_ n1_ n2_; (try clear hb); (try clear hb2); (try clear hk); (try clear hi)))
                          go_ret
                          exact ⟨by first | rfl | (simp [errW_none, errW_some] <;> rfl) | (simp [*, errW_none, errW_some] <;> rfl), by repeat (first | (with_reducible first | exact HB.out | apply below_alloc | apply pw_below_drewN | apply below_drew1 | refine below_set ?_ GE329.out | refine below_set ?_ GE330.out) | exact HB.out)⟩
                        · rw [if_neg c85] at H
                          exact absurd H (by simp)
                      · rw [if_neg c84] at H
                        exact absurd H (by simp)
                    · rw [if_neg c83] at H
                      have c83b0 : decide (t339 ≤ t341) = false := decide_eq_false c83
                      clear c83
                      by_cases c88 : t331 > 0
                      · rw [if_pos c88] at H
                        exact absurd H (by simp)
                      · rw [if_neg c88] at H
                        exact absurd H (by simp)
                  · rw [if_neg c82] at H
                    have c82b0 : (t342 == 0) = false := beq_eq_false_iff_ne.mpr c82
                    have c82b1 : (t342 != 0) = true := bne_iff_ne.mpr c82
                    by_cases c89 : t331 > 0
                    · rw [if_pos c89] at H
                      have c89b0 : decide (0 < t331) = true := decide_eq_true c89
                      clear c89
                      replace H := Option.bind_eq_some_iff.mp H
                      obtain ⟨t351, A900, H⟩ := H
                      replace H : (some t351) = some r := H
                      have A90 := Aside0.mk A900
                      clear A900
                      obtain rfl := Option.some.inj H
                      go_wp2_with (first | (go_at_call 15; (with_reducible refine (windhoverlaw08_awake.calls kj9  t351 _ A90.out).mono ?_); rintro e w91 ⟨rfl, hb⟩; have n0_ := Aside0.mk (blk_below (g := gb329) (o := .cells #[.int .i64 a1_0, .int .i64 a1_1] 48 (0, 0)) (by (with_reducible repeat (first | refine blk_drewN ?_ _ | refine blk_drew ?_ | refine blk_alloc ?_ _)); exact BK329.out) hb); have n1_ := Aside0.mk (blk_below (g := gb330) (o := .cells #[.int .i64 a2_0, .int .i64 a2_1] 48 (0, 0)) (by (with_reducible repeat (first | refine blk_drewN ?_ _ | refine blk_drew ?_ | refine blk_alloc ?_ _)); exact BK330.out) hb); have n2_ := Aside0.mk (below_step (by repeat (first | (with_reducible first | exact HB.out | apply below_alloc | apply pw_below_drewN | apply below_drew1 | refine below_set ?_ GE329.out | refine below_set ?_ GE330.out) | exact HB.out)) hb); clear BK329; clear BK330; clear HB; have BK329 := n0_; have BK330 := n1_; have HB := n2_; clear n0_ n1_ n2_; (try clear hb); (try clear hb2); (try clear hk); (try clear hi)))
                      go_ret
                      exact ⟨by first | rfl | (simp [errW_none, errW_some] <;> rfl) | (simp [*, errW_none, errW_some] <;> rfl), by repeat (first | (with_reducible first | exact HB.out | apply below_alloc | apply pw_below_drewN | apply below_drew1 | refine below_set ?_ GE329.out | refine below_set ?_ GE330.out) | exact HB.out)⟩
                    · rw [if_neg c89] at H
                      exact absurd H (by simp)
                · rw [if_neg c81] at H
                  have c81b0 : (t340 == 0) = false := beq_eq_false_iff_ne.mpr c81
                  have c81b1 : (t340 != 0) = true := bne_iff_ne.mpr c81
                  by_cases c92 : t331 > 0
                  · rw [if_pos c92] at H
                    have c92b0 : decide (0 < t331) = true := decide_eq_true c92
                    clear c92
                    replace H := Option.bind_eq_some_iff.mp H
                    obtain ⟨t352, A930, H⟩ := H
                    replace H : (some t352) = some r := H
                    have A93 := Aside0.mk A930
                    clear A930
                    obtain rfl := Option.some.inj H
                    go_wp2_with (first | (go_at_call 15; (with_reducible refine (windhoverlaw08_awake.calls kj9  t352 _ A93.out).mono ?_); rintro e w94 ⟨rfl, hb⟩; have n0_ := Aside0.mk (blk_below (g := gb329) (o := .cells #[.int .i64 a1_0, .int .i64 a1_1] 48 (0, 0)) (by (with_reducible repeat (first | refine blk_drewN ?_ _ | refine blk_drew ?_ | refine blk_alloc ?_ _)); exact BK329.out) hb); have n1_ := Aside0.mk (blk_below (g := gb330) (o := .cells #[.int .i64 a2_0, .int .i64 a2_1] 48 (0, 0)) (by (with_reducible repeat (first | refine blk_drewN ?_ _ | refine blk_drew ?_ | refine blk_alloc ?_ _)); exact BK330.out) hb); have n2_ := Aside0.mk (below_step (by repeat (first | (with_reducible first | exact HB.out | apply below_alloc | apply pw_below_drewN | apply below_drew1 | refine below_set ?_ GE329.out | refine below_set ?_ GE330.out) | exact HB.out)) hb); clear BK329; clear BK330; clear HB; have BK329 := n0_; have BK330 := n1_; have HB := n2_; clear n0_ n1_ n2_; (try clear hb); (try clear hb2); (try clear hk); (try clear hi)))
                    go_ret
                    exact ⟨by first | rfl | (simp [errW_none, errW_some] <;> rfl) | (simp [*, errW_none, errW_some] <;> rfl), by repeat (first | (with_reducible first | exact HB.out | apply below_alloc | apply pw_below_drewN | apply below_drew1 | refine below_set ?_ GE329.out | refine below_set ?_ GE330.out) | exact HB.out)⟩
                  · rw [if_neg c92] at H
                    exact absurd H (by simp)
            · rw [if_neg c38] at H
              have c38b0 : decide (t331 ≤ t333) = false := decide_eq_false c38
              clear c38
              by_cases c95 : t336 = 0
              · rw [if_pos c95] at H
                have c95b0 : (t336 == 0) = true := beq_iff_eq.mpr c95
                have c95b1 : (t336 != 0) = false := bne_eq_false_iff_eq.mpr c95
                clear c95
                by_cases c96 : t338 = 0
                · rw [if_pos c96] at H
                  have c96b0 : (t338 == 0) = true := beq_iff_eq.mpr c96
                  have c96b1 : (t338 != 0) = false := bne_eq_false_iff_eq.mpr c96
                  clear c96
                  by_cases c97 : t335 ≤ t337
                  · rw [if_pos c97] at H
                    have c97b0 : decide (t335 ≤ t337) = true := decide_eq_true c97
                    clear c97
                    by_cases c98 : t340 = 0
                    · rw [if_pos c98] at H
                      have c98b0 : (t340 == 0) = true := beq_iff_eq.mpr c98
                      have c98b1 : (t340 != 0) = false := bne_eq_false_iff_eq.mpr c98
                      clear c98
                      by_cases c99 : t342 = 0
                      · rw [if_pos c99] at H
                        have c99b0 : (t342 == 0) = true := beq_iff_eq.mpr c99
                        have c99b1 : (t342 != 0) = false := bne_eq_false_iff_eq.mpr c99
                        clear c99
                        by_cases c100 : t339 ≤ t341
                        · rw [if_pos c100] at H
                          exact absurd H (by simp)
                        · rw [if_neg c100] at H
                          exact absurd H (by simp)
                      · rw [if_neg c99] at H
                        exact absurd H (by simp)
                    · rw [if_neg c98] at H
                      exact absurd H (by simp)
                  · rw [if_neg c97] at H
                    have c97b0 : decide (t335 ≤ t337) = false := decide_eq_false c97
                    clear c97
                    by_cases c101 : t340 = 0
                    · rw [if_pos c101] at H
                      have c101b0 : (t340 == 0) = true := beq_iff_eq.mpr c101
                      have c101b1 : (t340 != 0) = false := bne_eq_false_iff_eq.mpr c101
                      clear c101
                      by_cases c102 : t342 = 0
                      · rw [if_pos c102] at H
                        have c102b0 : (t342 == 0) = true := beq_iff_eq.mpr c102
                        have c102b1 : (t342 != 0) = false := bne_eq_false_iff_eq.mpr c102
                        clear c102
                        by_cases c103 : t339 ≤ t341
                        · rw [if_pos c103] at H
                          exact absurd H (by simp)
                        · rw [if_neg c103] at H
                          exact absurd H (by simp)
                      · rw [if_neg c102] at H
                        exact absurd H (by simp)
                    · rw [if_neg c101] at H
                      exact absurd H (by simp)
                · rw [if_neg c96] at H
                  have c96b0 : (t338 == 0) = false := beq_eq_false_iff_ne.mpr c96
                  have c96b1 : (t338 != 0) = true := bne_iff_ne.mpr c96
                  by_cases c104 : t340 = 0
                  · rw [if_pos c104] at H
                    have c104b0 : (t340 == 0) = true := beq_iff_eq.mpr c104
                    have c104b1 : (t340 != 0) = false := bne_eq_false_iff_eq.mpr c104
                    clear c104
                    by_cases c105 : t342 = 0
                    · rw [if_pos c105] at H
                      have c105b0 : (t342 == 0) = true := beq_iff_eq.mpr c105
                      have c105b1 : (t342 != 0) = false := bne_eq_false_iff_eq.mpr c105
                      clear c105
                      by_cases c106 : t339 ≤ t341
                      · rw [if_pos c106] at H
                        exact absurd H (by simp)
                      · rw [if_neg c106] at H
                        exact absurd H (by simp)
                    · rw [if_neg c105] at H
                      exact absurd H (by simp)
                  · rw [if_neg c104] at H
                    exact absurd H (by simp)
              · rw [if_neg c95] at H
                have c95b0 : (t336 == 0) = false := beq_eq_false_iff_ne.mpr c95
                have c95b1 : (t336 != 0) = true := bne_iff_ne.mpr c95
                by_cases c107 : t340 = 0
                · rw [if_pos c107] at H
                  have c107b0 : (t340 == 0) = true := beq_iff_eq.mpr c107
                  have c107b1 : (t340 != 0) = false := bne_eq_false_iff_eq.mpr c107
                  clear c107
                  by_cases c108 : t342 = 0
                  · rw [if_pos c108] at H
                    have c108b0 : (t342 == 0) = true := beq_iff_eq.mpr c108
                    have c108b1 : (t342 != 0) = false := bne_eq_false_iff_eq.mpr c108
                    clear c108
                    by_cases c109 : t339 ≤ t341
                    · rw [if_pos c109] at H
                      exact absurd H (by simp)
                    · rw [if_neg c109] at H
                      exact absurd H (by simp)
                  · rw [if_neg c108] at H
                    exact absurd H (by simp)
                · rw [if_neg c107] at H
                  exact absurd H (by simp)
          · rw [if_neg c37] at H
            have c37b0 : (t334 == 0) = false := beq_eq_false_iff_ne.mpr c37
            have c37b1 : (t334 != 0) = true := bne_iff_ne.mpr c37
            by_cases c110 : t336 = 0
            · rw [if_pos c110] at H
              have c110b0 : (t336 == 0) = true := beq_iff_eq.mpr c110
              have c110b1 : (t336 != 0) = false := bne_eq_false_iff_eq.mpr c110
              clear c110
              by_cases c111 : t338 = 0
              · rw [if_pos c111] at H
                have c111b0 : (t338 == 0) = true := beq_iff_eq.mpr c111
                have c111b1 : (t338 != 0) = false := bne_eq_false_iff_eq.mpr c111
                clear c111
                by_cases c112 : t335 ≤ t337
                · rw [if_pos c112] at H
                  have c112b0 : decide (t335 ≤ t337) = true := decide_eq_true c112
                  clear c112
                  by_cases c113 : t340 = 0
                  · rw [if_pos c113] at H
                    have c113b0 : (t340 == 0) = true := beq_iff_eq.mpr c113
                    have c113b1 : (t340 != 0) = false := bne_eq_false_iff_eq.mpr c113
                    clear c113
                    by_cases c114 : t342 = 0
                    · rw [if_pos c114] at H
                      have c114b0 : (t342 == 0) = true := beq_iff_eq.mpr c114
                      have c114b1 : (t342 != 0) = false := bne_eq_false_iff_eq.mpr c114
                      clear c114
                      by_cases c115 : t339 ≤ t341
                      · rw [if_pos c115] at H
                        have c115b0 : decide (t339 ≤ t341) = true := decide_eq_true c115
                        clear c115
                        by_cases c116 : t335 > 0
                        · rw [if_pos c116] at H
                          have c116b0 : decide (0 < t335) = true := decide_eq_true c116
                          clear c116
                          by_cases c117 : t339 > 0
                          · rw [if_pos c117] at H
                            have c117b0 : decide (0 < t339) = true := decide_eq_true c117
                            clear c117
                            replace H := Option.bind_eq_some_iff.mp H
                            obtain ⟨t353, A1180, H⟩ := H
                            replace H : (some t353) = some r := H
                            have A118 := Aside0.mk A1180
                            clear A1180
                            obtain rfl := Option.some.inj H
                            go_wp2_with (first | (go_at_call 15; (with_reducible refine (windhoverlaw08_awake.calls kj9  t353 _ A118.out).mono ?_); rintro e w119 ⟨rfl, hb⟩; have n0_ := Aside0.mk (blk_below (g := gb329) (o := .cells #[.int .i64 a1_0, .int .i64 a1_1] 48 (0, 0)) (by (with_reducible repeat (first | refine blk_drewN ?_ _ | refine blk_drew ?_ | refine blk_alloc ?_ _)); exact BK329.out) hb); have n1_ := Aside0.mk (blk_below (g := gb330) (o := .cells #[.int .i64 a2_0, .int .i64 a2_1] 48 (0, 0)) (by (with_reducible repeat (first | refine blk_drewN ?_ _ | refine blk_drew ?_ | refine blk_alloc ?_ _)); exact BK330.out) hb); have n2_ := Aside0.mk (below_step (by repeat (first | (with_reducible first | exact HB.out | apply below_alloc | apply pw_below_drewN | apply below_drew1 | refine below_set ?_ GE329.out | refine below_set ?_ GE330.out) | exact HB.out)) hb); clear BK329; clear BK330; clear HB; have BK329 := n0_; have BK330 := n1_; have HB := n2_; clear n0_ n1_ n2_; (try clear hb); (try clear hb2); (try clear hk); (try clear hi)))
                            go_ret
                            exact ⟨by first | rfl | (simp [errW_none, errW_some] <;> rfl) | (simp [*, errW_none, errW_some] <;> rfl), by repeat (first | (with_reducible first | exact HB.out | apply below_alloc | apply pw_below_drewN | apply below_drew1 | refine below_set ?_ GE329.out | refine below_set ?_ GE330.out) | exact HB.out)⟩
                          · rw [if_neg c117] at H
                            exact absurd H (by simp)
                        · rw [if_neg c116] at H
                          exact absurd H (by simp)
                      · rw [if_neg c115] at H
                        have c115b0 : decide (t339 ≤ t341) = false := decide_eq_false c115
                        clear c115
                        by_cases c120 : t335 > 0
                        · rw [if_pos c120] at H
                          exact absurd H (by simp)
                        · rw [if_neg c120] at H
                          exact absurd H (by simp)
                    · rw [if_neg c114] at H
                      have c114b0 : (t342 == 0) = false := beq_eq_false_iff_ne.mpr c114
                      have c114b1 : (t342 != 0) = true := bne_iff_ne.mpr c114
                      by_cases c121 : t335 > 0
                      · rw [if_pos c121] at H
                        have c121b0 : decide (0 < t335) = true := decide_eq_true c121
                        clear c121
                        replace H := Option.bind_eq_some_iff.mp H
                        obtain ⟨t354, A1220, H⟩ := H
                        replace H : (some t354) = some r := H
                        have A122 := Aside0.mk A1220
                        clear A1220
                        obtain rfl := Option.some.inj H
                        go_wp2_with (first | (go_at_call 15; (with_reducible refine (windhoverlaw08_awake.calls kj9  t354 _ A122.out).mono ?_); rintro e w123 ⟨rfl, hb⟩; have n0_ := Aside0.mk (blk_below (g := gb329) (o := .cells #[.int .i64 a1_0, .int .i64 a1_1] 48 (0, 0)) (by (with_reducible repeat (first | refine blk_drewN ?_ _ | refine blk_drew ?_ | refine blk_alloc ?_ _)); exact BK329.out) hb); have n1_ := Aside0.mk (blk_below (g := gb330) (o := .cells #[.int .i64 a2_0, .int .i64 a2_1] 48 (0, 0)) (by (with_reducible repeat (first | refine blk_drewN ?_ _ | refine blk_drew ?_ | refine blk_alloc ?_ _)); exact BK330.out) hb); have n2_ := Aside0.mk (below_step (by repeat (first | (with_reducible first | exact HB.out | apply below_alloc | apply pw_below_drewN | apply below_drew1 | refine below_set ?_ GE329.out | refine below_set ?_ GE330.out) | exact HB.out)) hb); clear BK329; clear BK330; clear HB; have BK329 := n0_; have BK330 := n1_; have HB := n2_; clear n0_ n1_ n2_; (try clear hb); (try clear hb2); (try clear hk); (try clear hi)))
                        go_ret
                        exact ⟨by first | rfl | (simp [errW_none, errW_some] <;> rfl) | (simp [*, errW_none, errW_some] <;> rfl), by repeat (first | (with_reducible first | exact HB.out | apply below_alloc | apply pw_below_drewN | apply below_drew1 | refine below_set ?_ GE329.out | refine below_set ?_ GE330.out) | exact HB.out)⟩
                      · rw [if_neg c121] at H
                        exact absurd H (by simp)
                  · rw [if_neg c113] at H
                    have c113b0 : (t340 == 0) = false := beq_eq_false_iff_ne.mpr c113
                    have c113b1 : (t340 != 0) = true := bne_iff_ne.mpr c113
                    by_cases c124 : t335 > 0
                    · rw [if_pos c124] at H
                      have c124b0 : decide (0 < t335) = true := decide_eq_true c124
                      clear c124
                      replace H := Option.bind_eq_some_iff.mp H
                      obtain ⟨t355, A1250, H⟩ := H
                      replace H : (some t355) = some r := H
                      have A125 := Aside0.mk A1250
                      clear A1250
                      obtain rfl := Option.some.inj H
                      go_wp2_with (first | (go_at_call 15; (with_reducible refine (windhoverlaw08_awake.calls kj9  t355 _ A125.out).mono ?_); rintro e w126 ⟨rfl, hb⟩; have n0_ := Aside0.mk (blk_below (g := gb329) (o := .cells #[.int .i64 a1_0, .int .i64 a1_1] 48 (0, 0)) (by (with_reducible repeat (first | refine blk_drewN ?_ _ | refine blk_drew ?_ | refine blk_alloc ?_ _)); exact BK329.out) hb); have n1_ := Aside0.mk (blk_below (g := gb330) (o := .cells #[.int .i64 a2_0, .int .i64 a2_1] 48 (0, 0)) (by (with_reducible repeat (first | refine blk_drewN ?_ _ | refine blk_drew ?_ | refine blk_alloc ?_ _)); exact BK330.out) hb); have n2_ := Aside0.mk (below_step (by repeat (first | (with_reducible first | exact HB.out | apply below_alloc | apply pw_below_drewN | apply below_drew1 | refine below_set ?_ GE329.out | refine below_set ?_ GE330.out) | exact HB.out)) hb); clear BK329; clear BK330; clear HB; have BK329 := n0_; have BK330 := n1_; have HB := n2_; clear n0_ n1_ n2_; (try clear hb); (try clear hb2); (try clear hk); (try clear hi)))
                      go_ret
                      exact ⟨by first | rfl | (simp [errW_none, errW_some] <;> rfl) | (simp [*, errW_none, errW_some] <;> rfl), by repeat (first | (with_reducible first | exact HB.out | apply below_alloc | apply pw_below_drewN | apply below_drew1 | refine below_set ?_ GE329.out | refine below_set ?_ GE330.out) | exact HB.out)⟩
                    · rw [if_neg c124] at H
                      exact absurd H (by simp)
                · rw [if_neg c112] at H
                  have c112b0 : decide (t335 ≤ t337) = false := decide_eq_false c112
                  clear c112
                  by_cases c127 : t340 = 0
                  · rw [if_pos c127] at H
                    have c127b0 : (t340 == 0) = true := beq_iff_eq.mpr c127
                    have c127b1 : (t340 != 0) = false := bne_eq_false_iff_eq.mpr c127
                    clear c127
                    by_cases c128 : t342 = 0
                    · rw [if_pos c128] at H
                      have c128b0 : (t342 == 0) = true := beq_iff_eq.mpr c128
                      have c128b1 : (t342 != 0) = false := bne_eq_false_iff_eq.mpr c128
                      clear c128
                      by_cases c129 : t339 ≤ t341
                      · rw [if_pos c129] at H
                        exact absurd H (by simp)
                      · rw [if_neg c129] at H
                        exact absurd H (by simp)
                    · rw [if_neg c128] at H
                      exact absurd H (by simp)
                  · rw [if_neg c127] at H
                    exact absurd H (by simp)
              · rw [if_neg c111] at H
                have c111b0 : (t338 == 0) = false := beq_eq_false_iff_ne.mpr c111
                have c111b1 : (t338 != 0) = true := bne_iff_ne.mpr c111
                by_cases c130 : t340 = 0
                · rw [if_pos c130] at H
                  have c130b0 : (t340 == 0) = true := beq_iff_eq.mpr c130
                  have c130b1 : (t340 != 0) = false := bne_eq_false_iff_eq.mpr c130
                  clear c130
                  by_cases c131 : t342 = 0
                  · rw [if_pos c131] at H
                    have c131b0 : (t342 == 0) = true := beq_iff_eq.mpr c131
                    have c131b1 : (t342 != 0) = false := bne_eq_false_iff_eq.mpr c131
                    clear c131
                    by_cases c132 : t339 ≤ t341
                    · rw [if_pos c132] at H
                      have c132b0 : decide (t339 ≤ t341) = true := decide_eq_true c132
                      clear c132
                      by_cases c133 : t339 > 0
                      · rw [if_pos c133] at H
                        have c133b0 : decide (0 < t339) = true := decide_eq_true c133
                        clear c133
                        replace H := Option.bind_eq_some_iff.mp H
                        obtain ⟨t356, A1340, H⟩ := H
                        replace H : (some t356) = some r := H
                        have A134 := Aside0.mk A1340
                        clear A1340
                        obtain rfl := Option.some.inj H
                        go_wp2_with (first | (go_at_call 15; (with_reducible refine (windhoverlaw08_awake.calls kj9  t356 _ A134.out).mono ?_); rintro e w135 ⟨rfl, hb⟩; have n0_ := Aside0.mk (blk_below (g := gb329) (o := .cells #[.int .i64 a1_0, .int .i64 a1_1] 48 (0, 0)) (by (with_reducible repeat (first | refine blk_drewN ?_ _ | refine blk_drew ?_ | refine blk_alloc ?_ _)); exact BK329.out) hb); have n1_ := Aside0.mk (blk_below (g := gb330) (o := .cells #[.int .i64 a2_0, .int .i64 a2_1] 48 (0, 0)) (by (with_reducible repeat (first | refine blk_drewN ?_ _ | refine blk_drew ?_ | refine blk_alloc ?_ _)); exact BK330.out) hb); have n2_ := Aside0.mk (below_step (by repeat (first | (with_reducible first | exact HB.out | apply below_alloc | apply pw_below_drewN | apply below_drew1 | refine below_set ?_ GE329.out | refine below_set ?_ GE330.out) | exact HB.out)) hb); clear BK329; clear BK330; clear HB; have BK329 := n0_; have BK330 := n1_; have HB := n2_; clear n0_ n1_ n2_; (try clear hb); (try clear hb2); (try clear hk); (try clear hi)))
                        go_ret
                        exact ⟨by first | rfl | (simp [errW_none, errW_some] <;> rfl) | (simp [*, errW_none, errW_some] <;> rfl), by repeat (first | (with_reducible first | exact HB.out | apply below_alloc | apply pw_below_drewN | apply below_drew1 | refine below_set ?_ GE329.out | refine below_set ?_ GE330.out) | exact HB.out)⟩
                      · rw [if_neg c133] at H
                        exact absurd H (by simp)
                    · rw [if_neg c132] at H
                      exact absurd H (by simp)
                  · rw [if_neg c131] at H
                    have c131b0 : (t342 == 0) = false := beq_eq_false_iff_ne.mpr c131
                    have c131b1 : (t342 != 0) = true := bne_iff_ne.mpr c131
                    replace H := Option.bind_eq_some_iff.mp H
                    obtain ⟨t357, A1360, H⟩ := H
                    replace H : (some t357) = some r := H
                    have A136 := Aside0.mk A1360
                    clear A1360
                    obtain rfl := Option.some.inj H
                    go_wp2_with (first | (go_at_call 15; (with_reducible refine (windhoverlaw08_awake.calls kj9  t357 _ A136.out).mono ?_); rintro e w137 ⟨rfl, hb⟩; have n0_ := Aside0.mk (blk_below (g := gb329) (o := .cells #[.int .i64 a1_0, .int .i64 a1_1] 48 (0, 0)) (by (with_reducible repeat (first | refine blk_drewN ?_ _ | refine blk_drew ?_ | refine blk_alloc ?_ _)); exact BK329.out) hb); have n1_ := Aside0.mk (blk_below (g := gb330) (o := .cells #[.int .i64 a2_0, .int .i64 a2_1] 48 (0, 0)) (by (with_reducible repeat (first | refine blk_drewN ?_ _ | refine blk_drew ?_ | refine blk_alloc ?_ _)); exact BK330.out) hb); have n2_ := Aside0.mk (below_step (by repeat (first | (with_reducible first | exact HB.out | apply below_alloc | apply pw_below_drewN | apply below_drew1 | refine below_set ?_ GE329.out | refine below_set ?_ GE330.out) | exact HB.out)) hb); clear BK329; clear BK330; clear HB; have BK329 := n0_; have BK330 := n1_; have HB := n2_; clear n0_ n1_ n2_; (try clear hb); (try clear hb2); (try clear hk); (try clear hi)))
                    go_ret
                    exact ⟨by first | rfl | (simp [errW_none, errW_some] <;> rfl) | (simp [*, errW_none, errW_some] <;> rfl), by repeat (first | (with_reducible first | exact HB.out | apply below_alloc | apply pw_below_drewN | apply below_drew1 | refine below_set ?_ GE329.out | refine below_set ?_ GE330.out) | exact HB.out)⟩
                · rw [if_neg c130] at H
                  have c130b0 : (t340 == 0) = false := beq_eq_false_iff_ne.mpr c130
                  have c130b1 : (t340 != 0) = true := bne_iff_ne.mpr c130
                  replace H := Option.bind_eq_some_iff.mp H
                  obtain ⟨t358, A1380, H⟩ := H
                  replace H : (some t358) = some r := H
                  have A138 := Aside0.mk A1380
                  clear A1380
                  obtain rfl := Option.some.inj H
                  go_wp2_with (first | (go_at_call 15; (with_reducible refine (windhoverlaw08_awake.calls kj9  t358 _ A138.out).mono ?_); rintro e w139 ⟨rfl, hb⟩; have n0_ := Aside0.mk (blk_below (g := gb329) (o := .cells #[.int .i64 a1_0, .int .i64 a1_1] 48 (0, 0)) (by (with_reducible repeat (first | refine blk_drewN ?_ _ | refine blk_drew ?_ | refine blk_alloc ?_ _)); exact BK329.out) hb); have n1_ := Aside0.mk (blk_below (g := gb330) (o := .cells #[.int .i64 a2_0, .int .i64 a2_1] 48 (0, 0)) (by (with_reducible repeat (first | refine blk_drewN ?_ _ | refine blk_drew ?_ | refine blk_alloc ?_ _)); exact BK330.out) hb); have n2_ := Aside0.mk (below_step (by repeat (first | (with_reducible first | exact HB.out | apply below_alloc | apply pw_below_drewN | apply below_drew1 | refine below_set ?_ GE329.out | refine below_set ?_ GE330.out) | exact HB.out)) hb); clear BK329; clear BK330; clear HB; have BK329 := n0_; have BK330 := n1_; have HB := n2_; clear n0_ n1_ n2_; (try clear hb); (try clear hb2); (try clear hk); (try clear hi)))
                  go_ret
                  exact ⟨by first | rfl | (simp [errW_none, errW_some] <;> rfl) | (simp [*, errW_none, errW_some] <;> rfl), by repeat (first | (with_reducible first | exact HB.out | apply below_alloc | apply pw_below_drewN | apply below_drew1 | refine below_set ?_ GE329.out | refine below_set ?_ GE330.out) | exact HB.out)⟩
            · rw [if_neg c110] at H
              have c110b0 : (t336 == 0) = false := beq_eq_false_iff_ne.mpr c110
              have c110b1 : (t336 != 0) = true := bne_iff_ne.mpr c110
              by_cases c140 : t340 = 0
              · rw [if_pos c140] at H
                have c140b0 : (t340 == 0) = true := beq_iff_eq.mpr c140
                have c140b1 : (t340 != 0) = false := bne_eq_false_iff_eq.mpr c140
                clear c140
                by_cases c141 : t342 = 0
                · rw [if_pos c141] at H
                  have c141b0 : (t342 == 0) = true := beq_iff_eq.mpr c141
                  have c141b1 : (t342 != 0) = false := bne_eq_false_iff_eq.mpr c141
                  clear c141
                  by_cases c142 : t339 ≤ t341
                  · rw [if_pos c142] at H
                    have c142b0 : decide (t339 ≤ t341) = true := decide_eq_true c142
                    clear c142
                    by_cases c143 : t339 > 0
                    · rw [if_pos c143] at H
                      have c143b0 : decide (0 < t339) = true := decide_eq_true c143
                      clear c143
                      replace H := Option.bind_eq_some_iff.mp H
                      obtain ⟨t359, A1440, H⟩ := H
                      replace H : (some t359) = some r := H
                      have A144 := Aside0.mk A1440
                      clear A1440
                      obtain rfl := Option.some.inj H
                      go_wp2_with (first | (go_at_call 15; (with_reducible refine (windhoverlaw08_awake.calls kj9  t359 _ A144.out).mono ?_); rintro e w145 ⟨rfl, hb⟩; have n0_ := Aside0.mk (blk_below (g := gb329) (o := .cells #[.int .i64 a1_0, .int .i64 a1_1] 48 (0, 0)) (by (with_reducible repeat (first | refine blk_drewN ?_ _ | refine blk_drew ?_ | refine blk_alloc ?_ _)); exact BK329.out) hb); have n1_ := Aside0.mk (blk_below (g := gb330) (o := .cells #[.int .i64 a2_0, .int .i64 a2_1] 48 (0, 0)) (by (with_reducible repeat (first | refine blk_drewN ?_ _ | refine blk_drew ?_ | refine blk_alloc ?_ _)); exact BK330.out) hb); have n2_ := Aside0.mk (below_step (by repeat (first | (with_reducible first | exact HB.out | apply below_alloc | apply pw_below_drewN | apply below_drew1 | refine below_set ?_ GE329.out | refine below_set ?_ GE330.out) | exact HB.out)) hb); clear BK329; clear BK330; clear HB; have BK329 := n0_; have BK330 := n1_; have HB := n2_; clear n0_ n1_ n2_; (try clear hb); (try clear hb2); (try clear hk); (try clear hi)))
                      go_ret
                      exact ⟨by first | rfl | (simp [errW_none, errW_some] <;> rfl) | (simp [*, errW_none, errW_some] <;> rfl), by repeat (first | (with_reducible first | exact HB.out | apply below_alloc | apply pw_below_drewN | apply below_drew1 | refine below_set ?_ GE329.out | refine below_set ?_ GE330.out) | exact HB.out)⟩
                    · rw [if_neg c143] at H
                      exact absurd H (by simp)
                  · rw [if_neg c142] at H
                    exact absurd H (by simp)
                · rw [if_neg c141] at H
                  have c141b0 : (t342 == 0) = false := beq_eq_false_iff_ne.mpr c141
                  have c141b1 : (t342 != 0) = true := bne_iff_ne.mpr c141
                  replace H := Option.bind_eq_some_iff.mp H
                  obtain ⟨t360, A1460, H⟩ := H
                  replace H : (some t360) = some r := H
                  have A146 := Aside0.mk A1460
                  clear A1460
                  obtain rfl := Option.some.inj H
                  go_wp2_with (first | (go_at_call 15; (with_reducible refine (windhoverlaw08_awake.calls kj9  t360 _ A146.out).mono ?_); rintro e w147 ⟨rfl, hb⟩; have n0_ := Aside0.mk (blk_below (g := gb329) (o := .cells #[.int .i64 a1_0, .int .i64 a1_1] 48 (0, 0)) (by (with_reducible repeat (first | refine blk_drewN ?_ _ | refine blk_drew ?_ | refine blk_alloc ?_ _)); exact BK329.out) hb); have n1_ := Aside0.mk (blk_below (g := gb330) (o := .cells #[.int .i64 a2_0, .int .i64 a2_1] 48 (0, 0)) (by (with_reducible repeat (first | refine blk_drewN ?_ _ | refine blk_drew ?_ | refine blk_alloc ?_ _)); exact BK330.out) hb); have n2_ := Aside0.mk (below_step (by repeat (first | (with_reducible first | exact HB.out | apply below_alloc | apply pw_below_drewN | apply below_drew1 | refine below_set ?_ GE329.out | refine below_set ?_ GE330.out) | exact HB.out)) hb); clear BK329; clear BK330; clear HB; have BK329 := n0_; have BK330 := n1_; have HB := n2_; clear n0_ n1_ n2_; (try clear hb); (try clear hb2); (try clear hk); (try clear hi)))
                  go_ret
                  exact ⟨by first | rfl | (simp [errW_none, errW_some] <;> rfl) | (simp [*, errW_none, errW_some] <;> rfl), by repeat (first | (with_reducible first | exact HB.out | apply below_alloc | apply pw_below_drewN | apply below_drew1 | refine below_set ?_ GE329.out | refine below_set ?_ GE330.out) | exact HB.out)⟩
              · rw [if_neg c140] at H
                have c140b0 : (t340 == 0) = false := beq_eq_false_iff_ne.mpr c140
                have c140b1 : (t340 != 0) = true := bne_iff_ne.mpr c140
                replace H := Option.bind_eq_some_iff.mp H
                obtain ⟨t361, A1480, H⟩ := H
                replace H : (some t361) = some r := H
                have A148 := Aside0.mk A1480
                clear A1480
                obtain rfl := Option.some.inj H
                go_wp2_with (first | (go_at_call 15; (with_reducible refine (windhoverlaw08_awake.calls kj9  t361 _ A148.out).mono ?_); rintro e w149 ⟨rfl, hb⟩; have n0_ := Aside0.mk (blk_below (g := gb329) (o := .cells #[.int .i64 a1_0, .int .i64 a1_1] 48 (0, 0)) (by (with_reducible repeat (first | refine blk_drewN ?_ _ | refine blk_drew ?_ | refine blk_alloc ?_ _)); exact BK329.out) hb); have n1_ := Aside0.mk (blk_below (g := gb330) (o := .cells #[.int .i64 a2_0, .int .i64 a2_1] 48 (0, 0)) (by (with_reducible repeat (first | refine blk_drewN ?_ _ | refine blk_drew ?_ | refine blk_alloc ?_ _)); exact BK330.out) hb); have n2_ := Aside0.mk (below_step (by repeat (first | (with_reducible first | exact HB.out | apply below_alloc | apply pw_below_drewN | apply below_drew1 | refine below_set ?_ GE329.out | refine below_set ?_ GE330.out) | exact HB.out)) hb); clear BK329; clear BK330; clear HB; have BK329 := n0_; have BK330 := n1_; have HB := n2_; clear n0_ n1_ n2_; (try clear hb); (try clear hb2); (try clear hk); (try clear hi)))
                go_ret
                exact ⟨by first | rfl | (simp [errW_none, errW_some] <;> rfl) | (simp [*, errW_none, errW_some] <;> rfl), by repeat (first | (with_reducible first | exact HB.out | apply below_alloc | apply pw_below_drewN | apply below_drew1 | refine below_set ?_ GE329.out | refine below_set ?_ GE330.out) | exact HB.out)⟩
        · rw [if_neg c36] at H
          have c36b0 : (t332 == 0) = false := beq_eq_false_iff_ne.mpr c36
          have c36b1 : (t332 != 0) = true := bne_iff_ne.mpr c36
          by_cases c150 : t336 = 0
          · rw [if_pos c150] at H
            have c150b0 : (t336 == 0) = true := beq_iff_eq.mpr c150
            have c150b1 : (t336 != 0) = false := bne_eq_false_iff_eq.mpr c150
            clear c150
            by_cases c151 : t338 = 0
            · rw [if_pos c151] at H
              have c151b0 : (t338 == 0) = true := beq_iff_eq.mpr c151
              have c151b1 : (t338 != 0) = false := bne_eq_false_iff_eq.mpr c151
              clear c151
              by_cases c152 : t335 ≤ t337
              · rw [if_pos c152] at H
                have c152b0 : decide (t335 ≤ t337) = true := decide_eq_true c152
                clear c152
                by_cases c153 : t340 = 0
                · rw [if_pos c153] at H
                  have c153b0 : (t340 == 0) = true := beq_iff_eq.mpr c153
                  have c153b1 : (t340 != 0) = false := bne_eq_false_iff_eq.mpr c153
                  clear c153
                  by_cases c154 : t342 = 0
                  · rw [if_pos c154] at H
                    have c154b0 : (t342 == 0) = true := beq_iff_eq.mpr c154
                    have c154b1 : (t342 != 0) = false := bne_eq_false_iff_eq.mpr c154
                    clear c154
                    by_cases c155 : t339 ≤ t341
                    · rw [if_pos c155] at H
                      have c155b0 : decide (t339 ≤ t341) = true := decide_eq_true c155
                      clear c155
                      by_cases c156 : t335 > 0
                      · rw [if_pos c156] at H
                        have c156b0 : decide (0 < t335) = true := decide_eq_true c156
                        clear c156
                        by_cases c157 : t339 > 0
                        · rw [if_pos c157] at H
                          have c157b0 : decide (0 < t339) = true := decide_eq_true c157
                          clear c157
                          replace H := Option.bind_eq_some_iff.mp H
                          obtain ⟨t362, A1580, H⟩ := H
                          replace H : (some t362) = some r := H
                          have A158 := Aside0.mk A1580
                          clear A1580
                          obtain rfl := Option.some.inj H
                          go_wp2_with (first | (go_at_call 15; (with_reducible refine (windhoverlaw08_awake.calls kj9  t362 _ A158.out).mono ?_); rintro e w159 ⟨rfl, hb⟩; have n0_ := Aside0.mk (blk_below (g := gb329) (o := .cells #[.int .i64 a1_0, .int .i64 a1_1] 48 (0, 0)) (by (with_reducible repeat (first | refine blk_drewN ?_ _ | refine blk_drew ?_ | refine blk_alloc ?_ _)); exact BK329.out) hb); have n1_ := Aside0.mk (blk_below (g := gb330) (o := .cells #[.int .i64 a2_0, .int .i64 a2_1] 48 (0, 0)) (by (with_reducible repeat (first | refine blk_drewN ?_ _ | refine blk_drew ?_ | refine blk_alloc ?_ _)); exact BK330.out) hb); have n2_ := Aside0.mk (below_step (by repeat (first | (with_reducible first | exact HB.out | apply below_alloc | apply pw_below_drewN | apply below_drew1 | refine below_set ?_ GE329.out | refine below_set ?_ GE330.out) | exact HB.out)) hb); clear BK329; clear BK330; clear HB; have BK329 := n0_; have BK330 := n1_; have HB := n2_; clear n0_ n1_ n2_; (try clear hb); (try clear hb2); (try clear hk); (try clear hi)))
                          go_ret
                          exact ⟨by first | rfl | (simp [errW_none, errW_some] <;> rfl) | (simp [*, errW_none, errW_some] <;> rfl), by repeat (first | (with_reducible first | exact HB.out | apply below_alloc | apply pw_below_drewN | apply below_drew1 | refine below_set ?_ GE329.out | refine below_set ?_ GE330.out) | exact HB.out)⟩
                        · rw [if_neg c157] at H
                          exact absurd H (by simp)
                      · rw [if_neg c156] at H
                        exact absurd H (by simp)
                    · rw [if_neg c155] at H
                      have c155b0 : decide (t339 ≤ t341) = false := decide_eq_false c155
                      clear c155
                      by_cases c160 : t335 > 0
                      · rw [if_pos c160] at H
                        exact absurd H (by simp)
                      · rw [if_neg c160] at H
                        exact absurd H (by simp)
                  · rw [if_neg c154] at H
                    have c154b0 : (t342 == 0) = false := beq_eq_false_iff_ne.mpr c154
                    have c154b1 : (t342 != 0) = true := bne_iff_ne.mpr c154
                    by_cases c161 : t335 > 0
                    · rw [if_pos c161] at H
                      have c161b0 : decide (0 < t335) = true := decide_eq_true c161
                      clear c161
                      replace H := Option.bind_eq_some_iff.mp H
                      obtain ⟨t363, A1620, H⟩ := H
                      replace H : (some t363) = some r := H
                      have A162 := Aside0.mk A1620
                      clear A1620
                      obtain rfl := Option.some.inj H
                      go_wp2_with (first | (go_at_call 15; (with_reducible refine (windhoverlaw08_awake.calls kj9  t363 _ A162.out).mono ?_); rintro e w163 ⟨rfl, hb⟩; have n0_ := Aside0.mk (blk_below (g := gb329) (o := .cells #[.int .i64 a1_0, .int .i64 a1_1] 48 (0, 0)) (by (with_reducible repeat (first | refine blk_drewN ?_ _ | refine blk_drew ?_ | refine blk_alloc ?_ _)); exact BK329.out) hb); have n1_ := Aside0.mk (blk_below (g := gb330) (o := .cells #[.int .i64 a2_0, .int .i64 a2_1] 48 (0, 0)) (by (with_reducible repeat (first | refine blk_drewN ?_ _ | refine blk_drew ?_ | refine blk_alloc ?_ _)); exact BK330.out) hb); have n2_ := Aside0.mk (below_step (by repeat (first | (with_reducible first | exact HB.out | apply below_alloc | apply pw_below_drewN | apply below_drew1 | refine below_set ?_ GE329.out | refine below_set ?_ GE330.out) | exact HB.out)) hb); clear BK329; clear BK330; clear HB; have BK329 := n0_; have BK330 := n1_; have HB := n2_; clear n0_ n1_ n2_; (try clear hb); (try clear hb2); (try clear hk); (try clear hi)))
                      go_ret
                      exact ⟨by first | rfl | (simp [errW_none, errW_some] <;> rfl) | (simp [*, errW_none, errW_some] <;> rfl), by repeat (first | (with_reducible first | exact HB.out | apply below_alloc | apply pw_below_drewN | apply below_drew1 | refine below_set ?_ GE329.out | refine below_set ?_ GE330.out) | exact HB.out)⟩
                    · rw [if_neg c161] at H
                      exact absurd H (by simp)
                · rw [if_neg c153] at H
                  have c153b0 : (t340 == 0) = false := beq_eq_false_iff_ne.mpr c153
                  have c153b1 : (t340 != 0) = true := bne_iff_ne.mpr c153
                  by_cases c164 : t335 > 0
                  · rw [if_pos c164] at H
                    have c164b0 : decide (0 < t335) = true := decide_eq_true c164
                    clear c164
                    replace H := Option.bind_eq_some_iff.mp H
                    obtain ⟨t364, A1650, H⟩ := H
                    replace H : (some t364) = some r := H
                    have A165 := Aside0.mk A1650
                    clear A1650
                    obtain rfl := Option.some.inj H
                    go_wp2_with (first | (go_at_call 15; (with_reducible refine (windhoverlaw08_awake.calls kj9  t364 _ A165.out).mono ?_); rintro e w166 ⟨rfl, hb⟩; have n0_ := Aside0.mk (blk_below (g := gb329) (o := .cells #[.int .i64 a1_0, .int .i64 a1_1] 48 (0, 0)) (by (with_reducible repeat (first | refine blk_drewN ?_ _ | refine blk_drew ?_ | refine blk_alloc ?_ _)); exact BK329.out) hb); have n1_ := Aside0.mk (blk_below (g := gb330) (o := .cells #[.int .i64 a2_0, .int .i64 a2_1] 48 (0, 0)) (by (with_reducible repeat (first | refine blk_drewN ?_ _ | refine blk_drew ?_ | refine blk_alloc ?_ _)); exact BK330.out) hb); have n2_ := Aside0.mk (below_step (by repeat (first | (with_reducible first | exact HB.out | apply below_alloc | apply pw_below_drewN | apply below_drew1 | refine below_set ?_ GE329.out | refine below_set ?_ GE330.out) | exact HB.out)) hb); clear BK329; clear BK330; clear HB; have BK329 := n0_; have BK330 := n1_; have HB := n2_; clear n0_ n1_ n2_; (try clear hb); (try clear hb2); (try clear hk); (try clear hi)))
                    go_ret
                    exact ⟨by first | rfl | (simp [errW_none, errW_some] <;> rfl) | (simp [*, errW_none, errW_some] <;> rfl), by repeat (first | (with_reducible first | exact HB.out | apply below_alloc | apply pw_below_drewN | apply below_drew1 | refine below_set ?_ GE329.out | refine below_set ?_ GE330.out) | exact HB.out)⟩
                  · rw [if_neg c164] at H
                    exact absurd H (by simp)
              · rw [if_neg c152] at H
                have c152b0 : decide (t335 ≤ t337) = false := decide_eq_false c152
                clear c152
                by_cases c167 : t340 = 0
                · rw [if_pos c167] at H
                  have c167b0 : (t340 == 0) = true := beq_iff_eq.mpr c167
                  have c167b1 : (t340 != 0) = false := bne_eq_false_iff_eq.mpr c167
                  clear c167
                  by_cases c168 : t342 = 0
                  · rw [if_pos c168] at H
                    have c168b0 : (t342 == 0) = true := beq_iff_eq.mpr c168
                    have c168b1 : (t342 != 0) = false := bne_eq_false_iff_eq.mpr c168
                    clear c168
                    by_cases c169 : t339 ≤ t341
                    · rw [if_pos c169] at H
                      exact absurd H (by simp)
                    · rw [if_neg c169] at H
                      exact absurd H (by simp)
                  · rw [if_neg c168] at H
                    exact absurd H (by simp)
                · rw [if_neg c167] at H
                  exact absurd H (by simp)
            · rw [if_neg c151] at H
              have c151b0 : (t338 == 0) = false := beq_eq_false_iff_ne.mpr c151
              have c151b1 : (t338 != 0) = true := bne_iff_ne.mpr c151
              by_cases c170 : t340 = 0
              · rw [if_pos c170] at H
                have c170b0 : (t340 == 0) = true := beq_iff_eq.mpr c170
                have c170b1 : (t340 != 0) = false := bne_eq_false_iff_eq.mpr c170
                clear c170
                by_cases c171 : t342 = 0
                · rw [if_pos c171] at H
                  have c171b0 : (t342 == 0) = true := beq_iff_eq.mpr c171
                  have c171b1 : (t342 != 0) = false := bne_eq_false_iff_eq.mpr c171
                  clear c171
                  by_cases c172 : t339 ≤ t341
                  · rw [if_pos c172] at H
                    have c172b0 : decide (t339 ≤ t341) = true := decide_eq_true c172
                    clear c172
                    by_cases c173 : t339 > 0
                    · rw [if_pos c173] at H
                      have c173b0 : decide (0 < t339) = true := decide_eq_true c173
                      clear c173
                      replace H := Option.bind_eq_some_iff.mp H
                      obtain ⟨t365, A1740, H⟩ := H
                      replace H : (some t365) = some r := H
                      have A174 := Aside0.mk A1740
                      clear A1740
                      obtain rfl := Option.some.inj H
                      go_wp2_with (first | (go_at_call 15; (with_reducible refine (windhoverlaw08_awake.calls kj9  t365 _ A174.out).mono ?_); rintro e w175 ⟨rfl, hb⟩; have n0_ := Aside0.mk (blk_below (g := gb329) (o := .cells #[.int .i64 a1_0, .int .i64 a1_1] 48 (0, 0)) (by (with_reducible repeat (first | refine blk_drewN ?_ _ | refine blk_drew ?_ | refine blk_alloc ?_ _)); exact BK329.out) hb); have n1_ := Aside0.mk (blk_below (g := gb330) (o := .cells #[.int .i64 a2_0, .int .i64 a2_1] 48 (0, 0)) (by (with_reducible repeat (first | refine blk_drewN ?_ _ | refine blk_drew ?_ | refine blk_alloc ?_ _)); exact BK330.out) hb); have n2_ := Aside0.mk (below_step (by repeat (first | (with_reducible first | exact HB.out | apply below_alloc | apply pw_below_drewN | apply below_drew1 | refine below_set ?_ GE329.out | refine below_set ?_ GE330.out) | exact HB.out)) hb); clear BK329; clear BK330; clear HB; have BK329 := n0_; have BK330 := n1_; have HB := n2_; clear n0_ n1_ n2_; (try clear hb); (try clear hb2); (try clear hk); (try clear hi)))
                      go_ret
                      exact ⟨by first | rfl | (simp [errW_none, errW_some] <;> rfl) | (simp [*, errW_none, errW_some] <;> rfl), by repeat (first | (with_reducible first | exact HB.out | apply below_alloc | apply pw_below_drewN | apply below_drew1 | refine below_set ?_ GE329.out | refine below_set ?_ GE330.out) | exact HB.out)⟩
                    · rw [if_neg c173] at H
                      exact absurd H (by simp)
                  · rw [if_neg c172] at H
                    exact absurd H (by simp)
                · rw [if_neg c171] at H
                  have c171b0 : (t342 == 0) = false := beq_eq_false_iff_ne.mpr c171
                  have c171b1 : (t342 != 0) = true := bne_iff_ne.mpr c171
                  replace H := Option.bind_eq_some_iff.mp H
                  obtain ⟨t366, A1760, H⟩ := H
                  replace H : (some t366) = some r := H
                  have A176 := Aside0.mk A1760
                  clear A1760
                  obtain rfl := Option.some.inj H
                  go_wp2_with (first | (go_at_call 15; (with_reducible refine (windhoverlaw08_awake.calls kj9  t366 _ A176.out).mono ?_); rintro e w177 ⟨rfl, hb⟩; have n0_ := Aside0.mk (blk_below (g := gb329) (o := .cells #[.int .i64 a1_0, .int .i64 a1_1] 48 (0, 0)) (by (with_reducible repeat (first | refine blk_drewN ?_ _ | refine blk_drew ?_ | refine blk_alloc ?_ _)); exact BK329.out) hb); have n1_ := Aside0.mk (blk_below (g := gb330) (o := .cells #[.int .i64 a2_0, .int .i64 a2_1] 48 (0, 0)) (by (with_reducible repeat (first | refine blk_drewN ?_ _ | refine blk_drew ?_ | refine blk_alloc ?_ _)); exact BK330.out) hb); have n2_ := Aside0.mk (below_step (by repeat (first | (with_reducible first | exact HB.out | apply below_alloc | apply pw_below_drewN | apply below_drew1 | refine below_set ?_ GE329.out | refine below_set ?_ GE330.out) | exact HB.out)) hb); clear BK329; clear BK330; clear HB; have BK329 := n0_; have BK330 := n1_; have HB := n2_; clear n0_ n1_ n2_; (try clear hb); (try clear hb2); (try clear hk); (try clear hi)))
                  go_ret
                  exact ⟨by first | rfl | (simp [errW_none, errW_some] <;> rfl) | (simp [*, errW_none, errW_some] <;> rfl), by repeat (first | (with_reducible first | exact HB.out | apply below_alloc | apply pw_below_drewN | apply below_drew1 | refine below_set ?_ GE329.out | refine below_set ?_ GE330.out) | exact HB.out)⟩
              · rw [if_neg c170] at H
                have c170b0 : (t340 == 0) = false := beq_eq_false_iff_ne.mpr c170
                have c170b1 : (t340 != 0) = true := bne_iff_ne.mpr c170
                replace H := Option.bind_eq_some_iff.mp H
                obtain ⟨t367, A1780, H⟩ := H
                replace H : (some t367) = some r := H
                have A178 := Aside0.mk A1780
                clear A1780
                obtain rfl := Option.some.inj H
                go_wp2_with (first | (go_at_call 15; (with_reducible refine (windhoverlaw08_awake.calls kj9  t367 _ A178.out).mono ?_); rintro e w179 ⟨rfl, hb⟩; have n0_ := Aside0.mk (blk_below (g := gb329) (o := .cells #[.int .i64 a1_0, .int .i64 a1_1] 48 (0, 0)) (by (with_reducible repeat (first | refine blk_drewN ?_ _ | refine blk_drew ?_ | refine blk_alloc ?_ _)); exact BK329.out) hb); have n1_ := Aside0.mk (blk_below (g := gb330) (o := .cells #[.int .i64 a2_0, .int .i64 a2_1] 48 (0, 0)) (by (with_reducible repeat (first | refine blk_drewN ?_ _ | refine blk_drew ?_ | refine blk_alloc ?_ _)); exact BK330.out) hb); have n2_ := Aside0.mk (below_step (by repeat (first | (with_reducible first | exact HB.out | apply below_alloc | apply pw_below_drewN | apply below_drew1 | refine below_set ?_ GE329.out | refine below_set ?_ GE330.out) | exact HB.out)) hb); clear BK329; clear BK330; clear HB; have BK329 := n0_; have BK330 := n1_; have HB := n2_; clear n0_ n1_ n2_; (try clear hb); (try clear hb2); (try clear hk); (try clear hi)))
                go_ret
                exact ⟨by first | rfl | (simp [errW_none, errW_some] <;> rfl) | (simp [*, errW_none, errW_some] <;> rfl), by repeat (first | (with_reducible first | exact HB.out | apply below_alloc | apply pw_below_drewN | apply below_drew1 | refine below_set ?_ GE329.out | refine below_set ?_ GE330.out) | exact HB.out)⟩
          · rw [if_neg c150] at H
            have c150b0 : (t336 == 0) = false := beq_eq_false_iff_ne.mpr c150
            have c150b1 : (t336 != 0) = true := bne_iff_ne.mpr c150
            by_cases c180 : t340 = 0
            · rw [if_pos c180] at H
              have c180b0 : (t340 == 0) = true := beq_iff_eq.mpr c180
              have c180b1 : (t340 != 0) = false := bne_eq_false_iff_eq.mpr c180
              clear c180
              by_cases c181 : t342 = 0
              · rw [if_pos c181] at H
                have c181b0 : (t342 == 0) = true := beq_iff_eq.mpr c181
                have c181b1 : (t342 != 0) = false := bne_eq_false_iff_eq.mpr c181
                clear c181
                by_cases c182 : t339 ≤ t341
                · rw [if_pos c182] at H
                  have c182b0 : decide (t339 ≤ t341) = true := decide_eq_true c182
                  clear c182
                  by_cases c183 : t339 > 0
                  · rw [if_pos c183] at H
                    have c183b0 : decide (0 < t339) = true := decide_eq_true c183
                    clear c183
                    replace H := Option.bind_eq_some_iff.mp H
                    obtain ⟨t368, A1840, H⟩ := H
                    replace H : (some t368) = some r := H
                    have A184 := Aside0.mk A1840
                    clear A1840
                    obtain rfl := Option.some.inj H
                    go_wp2_with (first | (go_at_call 15; (with_reducible refine (windhoverlaw08_awake.calls kj9  t368 _ A184.out).mono ?_); rintro e w185 ⟨rfl, hb⟩; have n0_ := Aside0.mk (blk_below (g := gb329) (o := .cells #[.int .i64 a1_0, .int .i64 a1_1] 48 (0, 0)) (by (with_reducible repeat (first | refine blk_drewN ?_ _ | refine blk_drew ?_ | refine blk_alloc ?_ _)); exact BK329.out) hb); have n1_ := Aside0.mk (blk_below (g := gb330) (o := .cells #[.int .i64 a2_0, .int .i64 a2_1] 48 (0, 0)) (by (with_reducible repeat (first | refine blk_drewN ?_ _ | refine blk_drew ?_ | refine blk_alloc ?_ _)); exact BK330.out) hb); have n2_ := Aside0.mk (below_step (by repeat (first | (with_reducible first | exact HB.out | apply below_alloc | apply pw_below_drewN | apply below_drew1 | refine below_set ?_ GE329.out | refine below_set ?_ GE330.out) | exact HB.out)) hb); clear BK329; clear BK330; clear HB; have BK329 := n0_; have BK330 := n1_; have HB := n2_; clear n0_ n1_ n2_; (try clear hb); (try clear hb2); (try clear hk); (try clear hi)))
                    go_ret
                    exact ⟨by first | rfl | (simp [errW_none, errW_some] <;> rfl) | (simp [*, errW_none, errW_some] <;> rfl), by repeat (first | (with_reducible first | exact HB.out | apply below_alloc | apply pw_below_drewN | apply below_drew1 | refine below_set ?_ GE329.out | refine below_set ?_ GE330.out) | exact HB.out)⟩
                  · rw [if_neg c183] at H
                    exact absurd H (by simp)
                · rw [if_neg c182] at H
                  exact absurd H (by simp)
              · rw [if_neg c181] at H
                have c181b0 : (t342 == 0) = false := beq_eq_false_iff_ne.mpr c181
                have c181b1 : (t342 != 0) = true := bne_iff_ne.mpr c181
                replace H := Option.bind_eq_some_iff.mp H
                obtain ⟨t369, A1860, H⟩ := H
                replace H : (some t369) = some r := H
                have A186 := Aside0.mk A1860
                clear A1860
                obtain rfl := Option.some.inj H
                go_wp2_with (first | (go_at_call 15; (with_reducible refine (windhoverlaw08_awake.calls kj9  t369 _ A186.out).mono ?_); rintro e w187 ⟨rfl, hb⟩; have n0_ := Aside0.mk (blk_below (g := gb329) (o := .cells #[.int .i64 a1_0, .int .i64 a1_1] 48 (0, 0)) (by (with_reducible repeat (first | refine blk_drewN ?_ _ | refine blk_drew ?_ | refine blk_alloc ?_ _)); exact BK329.out) hb); have n1_ := Aside0.mk (blk_below (g := gb330) (o := .cells #[.int .i64 a2_0, .int .i64 a2_1] 48 (0, 0)) (by (with_reducible repeat (first | refine blk_drewN ?_ _ | refine blk_drew ?_ | refine blk_alloc ?_ _)); exact BK330.out) hb); have n2_ := Aside0.mk (below_step (by repeat (first | (with_reducible first | exact HB.out | apply below_alloc | apply pw_below_drewN | apply below_drew1 | refine below_set ?_ GE329.out | refine below_set ?_ GE330.out) | exact HB.out)) hb); clear BK329; clear BK330; clear HB; have BK329 := n0_; have BK330 := n1_; have HB := n2_; clear n0_ n1_ n2_; (try clear hb); (try clear hb2); (try clear hk); (try clear hi)))
                go_ret
                exact ⟨by first | rfl | (simp [errW_none, errW_some] <;> rfl) | (simp [*, errW_none, errW_some] <;> rfl), by repeat (first | (with_reducible first | exact HB.out | apply below_alloc | apply pw_below_drewN | apply below_drew1 | refine below_set ?_ GE329.out | refine below_set ?_ GE330.out) | exact HB.out)⟩
            · rw [if_neg c180] at H
              have c180b0 : (t340 == 0) = false := beq_eq_false_iff_ne.mpr c180
              have c180b1 : (t340 != 0) = true := bne_iff_ne.mpr c180
              replace H := Option.bind_eq_some_iff.mp H
              obtain ⟨t370, A1880, H⟩ := H
              replace H : (some t370) = some r := H
              have A188 := Aside0.mk A1880
              clear A1880
              obtain rfl := Option.some.inj H
              go_wp2_with (first | (go_at_call 15; (with_reducible refine (windhoverlaw08_awake.calls kj9  t370 _ A188.out).mono ?_); rintro e w189 ⟨rfl, hb⟩; have n0_ := Aside0.mk (blk_below (g := gb329) (o := .cells #[.int .i64 a1_0, .int .i64 a1_1] 48 (0, 0)) (by (with_reducible repeat (first | refine blk_drewN ?_ _ | refine blk_drew ?_ | refine blk_alloc ?_ _)); exact BK329.out) hb); have n1_ := Aside0.mk (blk_below (g := gb330) (o := .cells #[.int .i64 a2_0, .int .i64 a2_1] 48 (0, 0)) (by (with_reducible repeat (first | refine blk_drewN ?_ _ | refine blk_drew ?_ | refine blk_alloc ?_ _)); exact BK330.out) hb); have n2_ := Aside0.mk (below_step (by repeat (first | (with_reducible first | exact HB.out | apply below_alloc | apply pw_below_drewN | apply below_drew1 | refine below_set ?_ GE329.out | refine below_set ?_ GE330.out) | exact HB.out)) hb); clear BK329; clear BK330; clear HB; have BK329 := n0_; have BK330 := n1_; have HB := n2_; clear n0_ n1_ n2_; (try clear hb); (try clear hb2); (try clear hk); (try clear hi)))
              go_ret
              exact ⟨by first | rfl | (simp [errW_none, errW_some] <;> rfl) | (simp [*, errW_none, errW_some] <;> rfl), by repeat (first | (with_reducible first | exact HB.out | apply below_alloc | apply pw_below_drewN | apply below_drew1 | refine below_set ?_ GE329.out | refine below_set ?_ GE330.out) | exact HB.out)⟩

/-- THE ONE PURE STATEMENT of windhoverlaw08_ParamsRises: yours. -/
def windhoverlaw08_ParamsRises.Pure : Prop := ∀ (l0 : List Int) (a1_0 : Int) (a1_1 : Int) (a2_0 : Int) (a2_1 : Int), l0.length ≤ maxLen → l0.length * 8 ≤ 140737488351232 → (∀ x ∈ l0, (Lit.int .i64 x).wf = true) → (Lit.int .i64 a1_0).wf = true → (Lit.int .i64 a1_1).wf = true → (Lit.int .i64 a2_0).wf = true → (Lit.int .i64 a2_1).wf = true → ∃ k, windhoverlaw08_ParamsRises.f k l0 a1_0 a1_1 a2_0 a2_1 = some true
theorem windhoverlaw08_ParamsRises.walk (P : windhoverlaw08_ParamsRises.Pure) (a0 : Option Addr) (len0 cap0 : Nat) (z0 : List Int) (a1_0 : Int) (a1_1 : Int) (a2_0 : Int) (a2_1 : Int) (w : World) (w0 : (a0 = none ∧ len0 = 0 ∧ cap0 = 0 ∧ z0 = []) ∨ ∃ x, a0 = some x ∧ len0 ≤ cap0 ∧ cap0 ≤ maxLen ∧ z0.length = cap0 ∧ (∀ i, i < z0.length → w.cell? (x.add i) = some (.int .i64 (z0.getD i 0))) ∧ ∀ n ∈ z0, (Lit.int .i64 n).wf = true) (y0 : len0 * 8 ≤ 140737488351232) (w1_0 : (Lit.int .i64 a1_0).wf = true) (w1_1 : (Lit.int .i64 a1_1).wf = true) (w2_0 : (Lit.int .i64 a2_0).wf = true) (w2_1 : (Lit.int .i64 a2_1).wf = true) :
    Calls Try.prog 8 #[.slice a0 len0 cap0, .agg #[.int .i64 a1_0, .int .i64 a1_1], .agg #[.int .i64 a2_0, .int .i64 a2_1]] w fun e w' => e = .returned (.bool true) ∧ Below w.heap.size w w' := by
  obtain ⟨l0, rfl, hr0, hm0, hw0, hc0⟩ := ReadsInt.ofRowC w0
  obtain ⟨k, h⟩ := P l0 a1_0 a1_1 a2_0 a2_1 hm0 y0 hw0 w1_0 w1_1 w2_0 w2_1
  refine (windhoverlaw08_ParamsRises.calls k _ _ l0 a1_0 a1_1 a2_0 a2_1 true w (Kd.C_of_reads (d := (0 : Int)) (h1 := fun _ => rfl) hr0) hc0 h).mono ?_
  rintro e w' ⟨rfl, hd⟩
  exact ⟨rfl, hd⟩

end Go.Proofs.Ytaabdnamofmfcaa.PParamsRises
