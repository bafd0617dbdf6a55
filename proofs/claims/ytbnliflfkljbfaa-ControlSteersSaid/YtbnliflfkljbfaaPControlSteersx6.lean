-- WRITTEN BY wip/tools/aprint.py of this claim's repository over the kit's words: not typed by hand
import Derived.Test.YtbnliflfkljbfaaPControlSteersx0
import Derived.Test.YtbnliflfkljbfaaPControlSteersx1
import Derived.Test.YtbnliflfkljbfaaPControlSteersx3
import Derived.Test.YtbnliflfkljbfaaPControlSteersx4
import Derived.Test.YtbnliflfkljbfaaPControlSteersx5
namespace Go.Proofs.Ytbnliflfkljbfaa.PControlSteers
open Go.RowKit Go.Proofs.YtbnliflfkljbfaaW.PrintWords Go.Proofs.YtbnliflfkljbfaaW.PrintLast Go.Proofs.YtbnliflfkljbfaaW.PrintMore
attribute [local go_sem] max2_int min2_int max_two min_two max_three min_three max_four min_four   -- for this text's walks alone
set_option linter.unusedVariables false
set_option linter.unusedSimpArgs false

attribute [local go_sem high] eqA37
/-! ### windhoverlaw17_awake: function 13 -/
def windhoverlaw17_awake.j0 : Nat → Bool → Int → Int → Int → Int → Option (Bool)
 | 0, _, _, _, _, _ => none
 | k + 1, x24, x351000, x351001, x351002, x351003 => if x24 = true then (none) else ((control_Steer_Step.f k x351000 x351001 x351002 x351003 false 0 30 true 6400000 16000 false 0 0 0 0 0 0 0 0).bind fun bt360 => (if (bt360.1 == 12 && (bt360.2.1 == 12 && (bt360.2.2.1 == 0))) = true then ((control_Steer_Refs.f bt360.2.2.2.1 bt360.2.2.2.2.1 bt360.2.2.2.2.2.1 bt360.2.2.2.2.2.2).bind fun bt368 => (if (bt368.1 == 12 && (bt368.2.1 == 12 && (bt368.2.2.1 == 0))) = true then ((control_Law.f k (-64000) 10000 12).bind fun t375 => (if t375 = (-876) then ((control_Twist.f k 640 0 800).bind fun t376 => (some (t376 == (-2)))) else (none))) else (none))) else (none)))
def windhoverlaw17_awake.f (k : Nat)  : Option (Bool) := (params_Defaults.f k).bind fun t343 => ((control_New.f k t343).bind fun bt346 => (if bt346.2.2.2.2 = 0 then ((control_New.f k ([] : List Int)).bind fun bt353 => (if bt353.2.2.2.2 = 0 then (none) else (if bt353.2.2.2.2 = 3 then (windhoverlaw17_awake.j0 k false bt346.1 bt346.2.1 bt346.2.2.1 bt346.2.2.2.1) else (windhoverlaw17_awake.j0 k true bt346.1 bt346.2.1 bt346.2.2.1 bt346.2.2.2.1)))) else ((control_New.f k ([] : List Int)).bind fun bt377 => (if bt377.2.2.2.2 = 0 then (none) else (none)))))
theorem windhoverlaw17_awake.mono_l : ∀ k, (∀ y0 y1 y2 y3 y4, LeO (windhoverlaw17_awake.j0 k y0 y1 y2 y3 y4) (windhoverlaw17_awake.j0 (k + 1) y0 y1 y2 y3 y4))
 | 0 => fun _ _ _ _ _ r h => by simp [windhoverlaw17_awake.j0] at h
 | k + 1 => by
  have ih0 := windhoverlaw17_awake.mono_l k
  ·intro y0 y1 y2 y3 y4
   unfold windhoverlaw17_awake.j0
   repeat' first
   | (with_reducible exact ih0 _ _ _ _ _)
   | (with_reducible exact control_Law.mono _ _ _ _)
   | (with_reducible exact control_New.mono _ _)
   | (with_reducible exact control_Steer_Step.mono _ _ _ _ _ _ _ _ _ _ _ _ _ _ _ _ _ _ _ _)
   | (with_reducible exact control_Twist.mono _ _ _ _)
   | (with_reducible exact params_Defaults.mono _)
   | (with_reducible exact LeO.refl _)
   | (with_reducible exact LeO.none _)
   | (with_reducible refine LeO.ite ?_ ?_)
   | (with_reducible refine LeO.bind ?_ (fun _ => ?_))
   | exact ih0 _ _ _ _ _
   | exact control_Law.mono _ _ _ _
   | exact control_New.mono _ _
   | exact control_Steer_Step.mono _ _ _ _ _ _ _ _ _ _ _ _ _ _ _ _ _ _ _ _
   | exact control_Twist.mono _ _ _ _
   | exact params_Defaults.mono _
   | exact LeO.none _
   | refine LeO.ite ?_ ?_
   | refine LeO.bind ?_ (fun _ => ?_)
theorem windhoverlaw17_awake.mono : ∀ k, LeO (windhoverlaw17_awake.f k ) (windhoverlaw17_awake.f (k + 1) ) := by
 intro  k; have ih0 := windhoverlaw17_awake.mono_l k; unfold windhoverlaw17_awake.f
 repeat' first
   | (with_reducible exact ih0 _ _ _ _ _)
   | (with_reducible exact control_Law.mono _ _ _ _)
   | (with_reducible exact control_New.mono _ _)
   | (with_reducible exact control_Steer_Step.mono _ _ _ _ _ _ _ _ _ _ _ _ _ _ _ _ _ _ _ _)
   | (with_reducible exact control_Twist.mono _ _ _ _)
   | (with_reducible exact params_Defaults.mono _)
   | (with_reducible exact LeO.refl _)
   | (with_reducible exact LeO.none _)
   | (with_reducible refine LeO.ite ?_ ?_)
   | (with_reducible refine LeO.bind ?_ (fun _ => ?_))
   | exact ih0 _ _ _ _ _
   | exact control_Law.mono _ _ _ _
   | exact control_New.mono _ _
   | exact control_Steer_Step.mono _ _ _ _ _ _ _ _ _ _ _ _ _ _ _ _ _ _ _ _
   | exact control_Twist.mono _ _ _ _
   | exact params_Defaults.mono _
   | exact LeO.none _
   | refine LeO.ite ?_ ?_
   | refine LeO.bind ?_ (fun _ => ?_)
set_option maxHeartbeats 8000000 in
set_option maxRecDepth 100000 in
theorem windhoverlaw17_awake.calls (k : Nat)  (r : Bool) (w : World) (h : windhoverlaw17_awake.f k  = some r) :
  Calls Try.prog 13 #[] w fun e w' => e = .returned (.bool r) ∧ Below w.heap.size w w' := by
 have hu41 := Try.underlying41; have hu42 := Try.underlying42; have hu37 := Try.underlying37; have HB := Aside0.mk (Below.refl w.heap.size w); have H : ((params_Defaults.f k).bind fun t343 => ((control_New.f k t343).bind fun bt346 => (if bt346.2.2.2.2 = 0 then ((control_New.f k ([] : List Int)).bind fun bt353 => (if bt353.2.2.2.2 = 0 then (none) else (if bt353.2.2.2.2 = 3 then (windhoverlaw17_awake.j0 k false bt346.1 bt346.2.1 bt346.2.2.1 bt346.2.2.2.1) else (windhoverlaw17_awake.j0 k true bt346.1 bt346.2.1 bt346.2.2.1 bt346.2.2.2.1)))) else ((control_New.f k ([] : List Int)).bind fun bt377 => (if bt377.2.2.2.2 = 0 then (none) else (none)))))) = some r := h; clear h; replace H := Option.bind_eq_some_iff.mp H; obtain ⟨t343, A10, H⟩ := H; replace H : ((control_New.f k t343).bind fun bt346 => (if bt346.2.2.2.2 = 0 then ((control_New.f k ([] : List Int)).bind fun bt353 => (if bt353.2.2.2.2 = 0 then (none) else (if bt353.2.2.2.2 = 3 then (windhoverlaw17_awake.j0 k false bt346.1 bt346.2.1 bt346.2.2.1 bt346.2.2.2.1) else (windhoverlaw17_awake.j0 k true bt346.1 bt346.2.1 bt346.2.2.1 bt346.2.2.2.1)))) else ((control_New.f k ([] : List Int)).bind fun bt377 => (if bt377.2.2.2.2 = 0 then (none) else (none))))) = some r := H; have A1 := Aside0.mk A10; clear A10; replace H := Option.bind_eq_some_iff.mp H; obtain ⟨⟨t346, t347, t348, t349, t351⟩, A20, H⟩ := H; replace H : (if t351 = 0 then ((control_New.f k ([] : List Int)).bind fun bt353 => (if bt353.2.2.2.2 = 0 then (none) else (if bt353.2.2.2.2 = 3 then (windhoverlaw17_awake.j0 k false t346 t347 t348 t349) else (windhoverlaw17_awake.j0 k true t346 t347 t348 t349)))) else ((control_New.f k ([] : List Int)).bind fun bt377 => (if bt377.2.2.2.2 = 0 then (none) else (none)))) = some r := H; have A2 := Aside0.mk A20; clear A20
 by_cases c3 : t351 = 0
 ·rw [if_pos c3] at H
  have c3b0 : (t351 == 0) = true := beq_iff_eq.mpr c3; have c3b1 : (t351 != 0) = false := bne_eq_false_iff_eq.mpr c3; clear c3; replace H := Option.bind_eq_some_iff.mp H; obtain ⟨⟨t353, t354, t355, t356, t358⟩, A40, H⟩ := H; replace H : (if t358 = 0 then (none) else (if t358 = 3 then (windhoverlaw17_awake.j0 k false t346 t347 t348 t349) else (windhoverlaw17_awake.j0 k true t346 t347 t348 t349))) = some r := H; have A4 := Aside0.mk A40; clear A40
  by_cases c5 : t358 = 0
  ·rw [if_pos c5] at H
   exact absurd H (by simp)
  ·rw [if_neg c5] at H
   have c5b0 : (t358 == 0) = false := beq_eq_false_iff_ne.mpr c5; have c5b1 : (t358 != 0) = true := bne_iff_ne.mpr c5; have HC6 := Aside0.mk H; clear H; go_enter Try.func13, Try.ntmps13
   go_upto_region 3 with (first | ((with_reducible refine gate_callee (f := 17) rfl ?_); refine goesL_ (some 7) rfl rfl Try.func17 (by kernel_rfl) rfl #[] rfl (by (try simp only [List.map_toArray, List.map_cons, List.map_nil]); first | done | rfl | (simp only [List.length_drop, List.length_take]; rfl)) ?_; (with_reducible refine (params_Defaults.calls k  t343 _ A1.out).mono ?_); rintro e w7 ⟨v344, rfl, ho0, hb⟩; refine ⟨_, rfl, ?_⟩; have n0_ := Aside0.mk (Kd.R_lower ho0 (below_size (by repeat (first | (with_reducible first | exact HB.out | apply below_alloc | apply pw_below_drewN | apply below_drew1) | exact HB.out)))); have n1_ := Aside0.mk (below_step (by repeat (first | (with_reducible first | exact HB.out | apply below_alloc | apply pw_below_drewN | apply below_drew1) | exact HB.out)) hb); clear HB; have HO345 := n0_; have HB := n1_; clear n0_ n1_; (try clear hb); (try clear hb2); (try clear hk); (try clear hi); (try clear ho0); obtain ⟨Ao8, co8, eo8⟩ := Kd.R_slice HO345.out; subst eo8) | ((with_reducible refine gate_callee (f := 16) rfl ?_); refine goesL_ (some 8) rfl rfl Try.func16 (by kernel_rfl) rfl #[.slice Ao8 t343.length co8] rfl (by (try simp only [List.map_toArray, List.map_cons, List.map_nil]); first | done | rfl | (simp only [List.length_drop, List.length_take]; rfl)) ?_; (with_reducible refine (control_New.callsNew k _ _ t343 t346 t347 t348 t349 t351 w _ ?side1 ?side2 ?side3 A2.out (by assumption)).mono ?_); (case side1 => repeat (first | (with_reducible first | exact HB.out | apply below_alloc | apply pw_below_drewN | apply below_drew1) | exact HB.out)); (case side2 => repeat (first | exact (Kd.R_reads' HO345.out).2.2 | (with_reducible refine Kd.C_alloc ?_ _) | (with_reducible refine Kd.C_drewN ?_ _) | (with_reducible refine Kd.C_drew ?_))); (case side3 => exact (Kd.R_reads' HO345.out).2.1); rintro e w9 ⟨g350, rfl, hi, hb, hb2⟩; refine ⟨_, rfl, ?_⟩; have n0_ := Aside0.mk (Kd.R_below (by (with_reducible repeat (first | apply Kd.R_alloc | apply Kd.R_drewN | apply Kd.R_drew)); exact HO345.out) hb2); have n1_ := Aside0.mk (hb); have n2_ := Aside0.mk (hi); clear HO345; clear HB; have HO345 := n0_; have HB := n1_; have HI350 := n2_; clear n0_ n1_ n2_; (try clear hb); (try clear hb2); (try clear hk); (try clear hi)) | ((with_reducible refine gate_callee (f := 16) rfl ?_); refine goesL_ (some 12) rfl rfl Try.func16 (by kernel_rfl) rfl #[.slice none 0 0] rfl (by (try simp only [List.map_toArray, List.map_cons, List.map_nil]); first | done | rfl | (simp only [List.length_drop, List.length_take]; rfl)) ?_; (refine (control_New.callsNil k _ _ ([] : List Int) t353 t354 t355 t356 t358 _ ?side1 ?side2 A4.out (by assumption)).mono ?_); (case side1 => exact Kd.C_nil _ _); (case side2 => exact Nat.le_refl _); rintro e w10 ⟨rfl, hb⟩; refine ⟨_, rfl, ?_⟩; have n0_ := Aside0.mk (Kd.R_below (by (with_reducible repeat (first | apply Kd.R_alloc | apply Kd.R_drewN | apply Kd.R_drew)); exact HO345.out) hb); have n1_ := Aside0.mk (IsS65.below (by repeat (first | (with_reducible first | exact HI350.out | apply IsS65.alloc | apply IsS65.drewN | apply IsS65.drew | apply IsS65.set_0 | apply IsS65.set_1 | apply IsS65.set_2 | apply IsS65.set_3) | exact HI350.out)) hb); have n2_ := Aside0.mk (below_step (by repeat (first | (with_reducible first | exact HB.out | apply below_alloc | apply pw_below_drewN | apply below_drew1 | refine below_set ?_ (IsS65.ge HI350.out)) | exact HB.out)) hb); clear HO345; clear HI350; clear HB; have HO345 := n0_; have HI350 := n1_; have HB := n2_; clear n0_ n1_ n2_; (try clear hb); (try clear hb2); (try clear hk); (try clear hi)))
   (try simp only [Act.put, List.setIfInBounds_toArray, List.set_cons_zero, List.set_cons_succ])
   go_cut [24] (fun v24 wc => ∃ (kq : Nat) (x24_5 : Bool), v24 = .bool x24_5 ∧ Aside0 (windhoverlaw17_awake.j0 kq x24_5 t346 t347 t348 t349 = some r) ∧ Aside0 (kq ≤ k) ∧ Aside0 (IsS65 w wc g350 t346 t347 t348 t349) ∧ Aside0 (Below w.heap.size w wc))
   case first =>
    have H := HC6.out; clear HC6
    by_cases c11 : t358 = 3
    ·rw [if_pos c11] at H
     have c11b0 : (t358 == 3) = true := beq_iff_eq.mpr c11; have c11b1 : (t358 != 3) = false := bne_eq_false_iff_eq.mpr c11; clear c11; (first | rw [c11b0] | (simp only [i64_w, i32_w]; rw [c11b0]) | skip); have H' := Aside0.mk H; clear H
     go_wp2
     go_meet
     case rel => exact ⟨_, (false), (by first | rfl | (simp; done) | (simp [*]; done)), H', ⟨by first | omega | exact Nat.le_refl _⟩, ⟨by repeat (first | (with_reducible first | exact HI350.out | apply IsS65.alloc | apply IsS65.drewN | apply IsS65.drew | apply IsS65.set_0 | apply IsS65.set_1 | apply IsS65.set_2 | apply IsS65.set_3) | exact HI350.out)⟩, ⟨by repeat (first | (with_reducible first | exact HB.out | apply below_alloc | apply pw_below_drewN | apply below_drew1 | refine below_set ?_ (IsS65.ge HI350.out)) | exact HB.out)⟩⟩
    ·rw [if_neg c11] at H
     have c11b0 : (t358 == 3) = false := beq_eq_false_iff_ne.mpr c11; have c11b1 : (t358 != 3) = true := bne_iff_ne.mpr c11; (first | rw [c11b0] | (simp only [i64_w, i32_w]; rw [c11b0]) | skip); have H' := Aside0.mk H; clear H
     go_wp2
     go_meet
     case rel => exact ⟨_, (true), (by first | rfl | (simp; done) | (simp [*]; done)), H', ⟨by first | omega | exact Nat.le_refl _⟩, ⟨by repeat (first | (with_reducible first | exact HI350.out | apply IsS65.alloc | apply IsS65.drewN | apply IsS65.drew | apply IsS65.set_0 | apply IsS65.set_1 | apply IsS65.set_2 | apply IsS65.set_3) | exact HI350.out)⟩, ⟨by repeat (first | (with_reducible first | exact HB.out | apply below_alloc | apply pw_below_drewN | apply below_drew1 | refine below_set ?_ (IsS65.ge HI350.out)) | exact HB.out)⟩⟩
   case rest =>
    clear HC6; (try clear c1); (try clear p2); (try clear c3); (try clear c3b0); (try clear c3b1); (try clear c5); (try clear c5b0); (try clear c5b1); (try clear c11); (try clear c11b0); (try clear c11b1); obtain ⟨kq, x24_5, rfl, HA, HJ5, HI350, HB⟩ := hcut
    cases kq with
    | zero => exact absurd HA.out (by simp [windhoverlaw17_awake.j0])
    | succ kj5 =>
     have H := HA.out; clear HA; simp only [windhoverlaw17_awake.j0] at H
     by_cases c12 : x24_5 = true
     ·subst c12
      have H1 : (none) = some r := by rw [if_pos rfl] at H; exact H
      clear H; have H := H1; clear H1
      exact absurd H (by simp)
     ·replace c12 := Bool.eq_false_iff.mpr c12
      subst c12; have H1 : ((control_Steer_Step.f kj5 t346 t347 t348 t349 false 0 30 true 6400000 16000 false 0 0 0 0 0 0 0 0).bind fun bt360 => (if (bt360.1 == 12 && (bt360.2.1 == 12 && (bt360.2.2.1 == 0))) = true then ((control_Steer_Refs.f bt360.2.2.2.1 bt360.2.2.2.2.1 bt360.2.2.2.2.2.1 bt360.2.2.2.2.2.2).bind fun bt368 => (if (bt368.1 == 12 && (bt368.2.1 == 12 && (bt368.2.2.1 == 0))) = true then ((control_Law.f kj5 (-64000) 10000 12).bind fun t375 => (if t375 = (-876) then ((control_Twist.f kj5 640 0 800).bind fun t376 => (some (t376 == (-2)))) else (none))) else (none))) else (none))) = some r := by rw [if_neg (show ¬ (false = true) by decide)] at H; exact H
      clear H; have H := H1; clear H1; replace H := Option.bind_eq_some_iff.mp H; obtain ⟨⟨t360, t361, t362, t363, t364, t365, t366⟩, A130, H⟩ := H; replace H : (if (t360 == 12 && (t361 == 12 && (t362 == 0))) = true then ((control_Steer_Refs.f t363 t364 t365 t366).bind fun bt368 => (if (bt368.1 == 12 && (bt368.2.1 == 12 && (bt368.2.2.1 == 0))) = true then ((control_Law.f kj5 (-64000) 10000 12).bind fun t375 => (if t375 = (-876) then ((control_Twist.f kj5 640 0 800).bind fun t376 => (some (t376 == (-2)))) else (none))) else (none))) else (none)) = some r := H; have A13 := Aside0.mk A130; clear A130
      by_cases c14 : (t360 == 12 && (t361 == 12 && (t362 == 0))) = true
      ·rw [if_pos c14] at H
       have c14b0 : (t360 == 12 && (t361 == 12 && (t362 == 0))) = true := c14; (try (have c14b1 : decide (t360 = 12 && (t361 == 12 && (t362 == 0))) = true := by simpa using c14)); (try (have c14b2 : (t360 == 12 && (t361 == 12 && (t362 == 0))) = true := by simpa using c14)); clear c14; replace H := Option.bind_eq_some_iff.mp H; obtain ⟨⟨t368, t369, t370, t371, t372, t373, t374⟩, A150, H⟩ := H; replace H : (if (t368 == 12 && (t369 == 12 && (t370 == 0))) = true then ((control_Law.f kj5 (-64000) 10000 12).bind fun t375 => (if t375 = (-876) then ((control_Twist.f kj5 640 0 800).bind fun t376 => (some (t376 == (-2)))) else (none))) else (none)) = some r := H; have A15 := Aside0.mk A150; clear A150; obtain ⟨E0_, E1_, E2_, E3_⟩ := control_Steer_Refs.same A15.out; subst E0_; subst E1_; subst E2_; subst E3_
       by_cases c16 : (t368 == 12 && (t369 == 12 && (t370 == 0))) = true
       ·rw [if_pos c16] at H
        have c16b0 : (t368 == 12 && (t369 == 12 && (t370 == 0))) = true := c16; (try (have c16b1 : decide (t368 = 12 && (t369 == 12 && (t370 == 0))) = true := by simpa using c16)); (try (have c16b2 : (t368 == 12 && (t369 == 12 && (t370 == 0))) = true := by simpa using c16)); clear c16; replace H := Option.bind_eq_some_iff.mp H; obtain ⟨t375, A170, H⟩ := H; replace H : (if t375 = (-876) then ((control_Twist.f kj5 640 0 800).bind fun t376 => (some (t376 == (-2)))) else (none)) = some r := H; have A17 := Aside0.mk A170; clear A170
        by_cases c18 : t375 = (-876)
        ·rw [if_pos c18] at H
         have c18b0 : (t375 == (-876)) = true := beq_iff_eq.mpr c18; have c18b1 : (t375 != (-876)) = false := bne_eq_false_iff_eq.mpr c18; clear c18; replace H := Option.bind_eq_some_iff.mp H; obtain ⟨t376, A190, H⟩ := H; replace H : (some (t376 == (-2))) = some r := H; have A19 := Aside0.mk A190; clear A190; obtain rfl := Option.some.inj H
         go_wp2_with (first | ((with_reducible refine gate_callee (f := 20) rfl ?_); refine goesL_ (some 32) rfl rfl Try.func20 (by kernel_rfl) rfl #[.pointer (some ⟨g350, 0, none⟩), .agg #[.bool false, .int .i64 0, .int .i64 30, .bool true, .int .i64 6400000, .int .i64 16000, .bool false, .int .i64 0, .int .i64 0], .agg #[.int .i64 0, .int .i64 0, .int .i64 0], .agg #[.int .i64 0, .int .i64 0, .int .i64 0]] rfl (by (try simp only [List.map_toArray, List.map_cons, List.map_nil]); first | done | rfl | (simp only [List.length_drop, List.length_take]; rfl)) ?_; (with_reducible refine (control_Steer_Step.calls kj5 g350 t346 t347 t348 t349 false 0 30 true 6400000 16000 false 0 0 0 0 0 0 0 0 t360 t361 t362 t363 t364 t365 t366 w _ ?side1 ?side2 A13.out).mono ?_); (case side1 => repeat (first | (with_reducible first | exact HI350.out | apply IsS65.alloc | apply IsS65.drewN | apply IsS65.drew | apply IsS65.set_0 | apply IsS65.set_1 | apply IsS65.set_2 | apply IsS65.set_3) | exact HI350.out)); (case side2 => repeat (first | (with_reducible first | exact HB.out | apply below_alloc | apply pw_below_drewN | apply below_drew1 | refine below_set ?_ (IsS65.ge HI350.out)) | exact HB.out)); rintro e w20 ⟨rfl, hi, hb, hk⟩; refine ⟨_, rfl, ?_⟩; have n0_ := Aside0.mk (hb); have n1_ := Aside0.mk (hi); clear HB; clear HI350; have HB := n0_; have HI350 := n1_; clear n0_ n1_; (try clear hb); (try clear hb2); (try clear hk); (try clear hi)) | ((with_reducible refine gate_dst (N := 5) rfl ?_); refine box_event ?hg (N := 5) ?hd (cs := #[.int .i64 0, .int .i64 0, .int .i64 0]) (t := 37) ?hr ?_; (case hd => rfl); (case hg => rfl); (case hr => first | (go_simp; done) | (go_simp; rfl)); intro gb367 hg w21 hbox hb; have n0_ := Aside0.mk (IsS65.below (by repeat (first | (with_reducible first | exact HI350.out | apply IsS65.alloc | apply IsS65.drewN | apply IsS65.drew | apply IsS65.set_0 | apply IsS65.set_1 | apply IsS65.set_2 | apply IsS65.set_3) | exact HI350.out)) hb); have n1_ := Aside0.mk (below_step (by repeat (first | (with_reducible first | exact HB.out | apply below_alloc | apply pw_below_drewN | apply below_drew1 | refine below_set ?_ (IsS65.ge HI350.out)) | exact HB.out)) hb); have n2_ := Aside0.mk (hbox); have n3_ := Aside0.mk ((by rw [hg]; exact (below_size (by repeat (first | (with_reducible first | exact HB.out | apply below_alloc | apply pw_below_drewN | apply below_drew1 | refine below_set ?_ (IsS65.ge HI350.out)) | exact HB.out))) : w.heap.size ≤ gb367)); have n4_ := Aside0.mk ((by rw [hg]; exact (below_size (by repeat (first | (with_reducible first | exact HB.out | apply below_alloc | apply pw_below_drewN | apply below_drew1 | refine below_set ?_ (IsS65.ge HI350.out)) | exact HB.out))) : w.heap.size ≤ gb367)); have n5_ := Aside0.mk ((by rw [hg]; exact Nat.ne_of_lt (IsS65.lt (show IsS65 w _ g350 t363 t364 t365 t366 from by repeat (first | (with_reducible first | exact HI350.out | apply IsS65.alloc | apply IsS65.drewN | apply IsS65.drew | apply IsS65.set_0 | apply IsS65.set_1 | apply IsS65.set_2 | apply IsS65.set_3) | exact HI350.out))) : g350 ≠ gb367)); have n6_ := Aside0.mk ((by rw [hg]; exact Nat.ne_of_gt (IsS65.lt (show IsS65 w _ g350 t363 t364 t365 t366 from by repeat (first | (with_reducible first | exact HI350.out | apply IsS65.alloc | apply IsS65.drewN | apply IsS65.drew | apply IsS65.set_0 | apply IsS65.set_1 | apply IsS65.set_2 | apply IsS65.set_3) | exact HI350.out))) : gb367 ≠ g350)); clear HI350; clear HB; have HI350 := n0_; have HB := n1_; have BK367 := n2_; have GW367 := n3_; have GE367 := n4_; have NB350_367 := n5_; have NB367_350 := n6_; clear n0_ n1_ n2_ n3_ n4_ n5_ n6_; clear hb hbox hg; have hnb22 := NB367_350.out; have hnc22 := NB350_367.out; have hcz23_0 := blk_cells3 (w := w21) (g := gb367) BK367.out; have hfz23_0 := blk_frozen BK367.out) | (go_at_call 19; (with_reducible refine (control_Steer_Refs.calls g350 t363 t364 t365 t366 t368 t369 t370 t363 t364 t365 t366 w _ ?side1 ?side2 A15.out).mono ?_); (case side1 => repeat (first | (with_reducible first | exact HI350.out | apply IsS65.alloc | apply IsS65.drewN | apply IsS65.drew | apply IsS65.set_0 | apply IsS65.set_1 | apply IsS65.set_2 | apply IsS65.set_3 | apply IsS65.farb NB350_367.out) | exact HI350.out)); (case side2 => repeat (first | (with_reducible first | exact HB.out | apply below_alloc | apply pw_below_drewN | apply below_drew1 | refine below_set ?_ (IsS65.ge HI350.out) | refine below_set ?_ GE367.out) | exact HB.out)); rintro e w24 ⟨rfl, hi, hb, hk⟩; have n0_ := Aside0.mk (KeepBut.blk hk (g' := gb367) (o := .cells #[.int .i64 t360, .int .i64 t361, .int .i64 t362] 37 (0, 0)) (by (with_reducible repeat (first | refine blk_drewN ?_ _ | refine blk_drew ?_ | refine blk_alloc ?_ _)); refine blk_put (cs := #[.int .i64 t360, .int .i64 t361, .int .i64 0]) ?_ 2 _ rfl; (with_reducible repeat (first | refine blk_drewN ?_ _ | refine blk_drew ?_ | refine blk_alloc ?_ _)); refine blk_put (cs := #[.int .i64 t360, .int .i64 0, .int .i64 0]) ?_ 1 _ rfl; (with_reducible repeat (first | refine blk_drewN ?_ _ | refine blk_drew ?_ | refine blk_alloc ?_ _)); refine blk_put (cs := #[.int .i64 0, .int .i64 0, .int .i64 0]) ?_ 0 _ rfl; (with_reducible repeat (first | refine blk_drewN ?_ _ | refine blk_drew ?_ | refine blk_alloc ?_ _)); exact BK367.out) NB367_350.out (by simp)); have n1_ := Aside0.mk (hb); have n2_ := Aside0.mk (hi); clear BK367; clear HB; clear HI350; have BK367 := n0_; have HB := n1_; have HI350 := n2_; clear n0_ n1_ n2_; (try clear hb); (try clear hb2); (try clear hk); (try clear hi)) | (go_at_call 9; (with_reducible refine (control_Law.calls kj5 (-64000) 10000 12 t375 _ A17.out).mono ?_); rintro e w25 ⟨rfl, hb⟩; have n0_ := Aside0.mk (IsS65.below (by repeat (first | (with_reducible first | exact HI350.out | apply IsS65.alloc | apply IsS65.drewN | apply IsS65.drew | apply IsS65.set_0 | apply IsS65.set_1 | apply IsS65.set_2 | apply IsS65.set_3 | apply IsS65.farb NB350_367.out) | exact HI350.out)) hb); have n1_ := Aside0.mk (blk_below (g := gb367) (o := .cells #[.int .i64 t360, .int .i64 t361, .int .i64 t362] 37 (0, 0)) (by (with_reducible repeat (first | refine blk_drewN ?_ _ | refine blk_drew ?_ | refine blk_alloc ?_ _)); exact BK367.out) hb); have n2_ := Aside0.mk (below_step (by repeat (first | (with_reducible first | exact HB.out | apply below_alloc | apply pw_below_drewN | apply below_drew1 | refine below_set ?_ (IsS65.ge HI350.out) | refine below_set ?_ GE367.out) | exact HB.out)) hb); clear HI350; clear BK367; clear HB; have HI350 := n0_; have BK367 := n1_; have HB := n2_; clear n0_ n1_ n2_; (try clear hb); (try clear hb2); (try clear hk); (try clear hi)) | (go_at_call 11; (with_reducible refine (control_Twist.calls kj5 640 0 800 t376 _ A19.out).mono ?_); rintro e w26 ⟨rfl, hb⟩; have n0_ := Aside0.mk (IsS65.below (by repeat (first | (with_reducible first | exact HI350.out | apply IsS65.alloc | apply IsS65.drewN | apply IsS65.drew | apply IsS65.set_0 | apply IsS65.set_1 | apply IsS65.set_2 | apply IsS65.set_3 | apply IsS65.farb NB350_367.out) | exact HI350.out)) hb); have n1_ := Aside0.mk (blk_below (g := gb367) (o := .cells #[.int .i64 t360, .int .i64 t361, .int .i64 t362] 37 (0, 0)) (by (with_reducible repeat (first | refine blk_drewN ?_ _ | refine blk_drew ?_ | refine blk_alloc ?_ _)); exact BK367.out) hb); have n2_ := Aside0.mk (below_step (by repeat (first | (with_reducible first | exact HB.out | apply below_alloc | apply pw_below_drewN | apply below_drew1 | refine below_set ?_ (IsS65.ge HI350.out) | refine below_set ?_ GE367.out) | exact HB.out)) hb); clear HI350; clear BK367; clear HB; have HI350 := n0_; have BK367 := n1_; have HB := n2_; clear n0_ n1_ n2_; (try clear hb); (try clear hb2); (try clear hk); (try clear hi)))
         go_ret
         exact ⟨by first | rfl | (simp [errW_none, errW_some] <;> rfl) | (simp [*, errW_none, errW_some] <;> rfl), by repeat (first | (with_reducible first | exact HB.out | apply below_alloc | apply pw_below_drewN | apply below_drew1 | refine below_set ?_ (IsS65.ge HI350.out) | refine below_set ?_ GE367.out) | exact HB.out)⟩
        ·rw [if_neg c18] at H
         exact absurd H (by simp)
       ·rw [if_neg c16] at H
        exact absurd H (by simp)
      ·rw [if_neg c14] at H
       exact absurd H (by simp)
 ·rw [if_neg c3] at H
  have c3b0 : (t351 == 0) = false := beq_eq_false_iff_ne.mpr c3; have c3b1 : (t351 != 0) = true := bne_iff_ne.mpr c3; replace H := Option.bind_eq_some_iff.mp H; obtain ⟨⟨t377, t378, t379, t380, t382⟩, A270, H⟩ := H; replace H : (if t382 = 0 then (none) else (none)) = some r := H; have A27 := Aside0.mk A270; clear A270
  by_cases c28 : t382 = 0
  ·rw [if_pos c28] at H
   have c28b0 : (t382 == 0) = true := beq_iff_eq.mpr c28; have c28b1 : (t382 != 0) = false := bne_eq_false_iff_eq.mpr c28; clear c28
   exact absurd H (by simp)
  ·rw [if_neg c28] at H
   have c28b0 : (t382 == 0) = false := beq_eq_false_iff_ne.mpr c28; have c28b1 : (t382 != 0) = true := bne_iff_ne.mpr c28
   exact absurd H (by simp)

/-! ### windhoverkeep_Lent: function 21 -/
def windhoverkeep_Lent.l0 : Nat → List Int → List Int → Int → Option (List Int)
 | 0, _, _, _ => none
 | k + 1, x0, x3, x4 => if x4 < 4 then (if x3.length < 17592186044416 then (windhoverkeep_Lent.l0 k x0 (x3 ++ [(-7770777)]) (wrap64 (x4 + 1))) else (none)) else (if 0 ≤ (x0.length : Int) then (if (x0.length : Int) ≤ (x3.length : Int) then (some x3) else (none)) else (none))
def windhoverkeep_Lent.f (k : Nat) (l0 : List Int) : Option (List Int) := if 0 ≤ (wrap64 ((l0.length : Int) + 4)) then (if (wrap64 ((l0.length : Int) + 4) : Int).toNat ≤ 35184372088832 then ((some (([] : List Int) : List Int)).bind fun y384 => (if y384.length + l0.length < 17592186044416 then (windhoverkeep_Lent.l0 k l0 (y384 ++ l0) 0) else (none))) else (none)) else (none)
theorem windhoverkeep_Lent.mono_l : ∀ k, (∀ y0 y1 y2, LeO (windhoverkeep_Lent.l0 k y0 y1 y2) (windhoverkeep_Lent.l0 (k + 1) y0 y1 y2))
 | 0 => fun _ _ _ r h => by simp [windhoverkeep_Lent.l0] at h
 | k + 1 => by
  have ih0 := windhoverkeep_Lent.mono_l k
  ·intro y0 y1 y2
   unfold windhoverkeep_Lent.l0
   repeat' first
   | (with_reducible exact ih0 _ _ _)
   | (with_reducible exact LeO.refl _)
   | (with_reducible exact LeO.none _)
   | (with_reducible refine LeO.ite ?_ ?_)
   | (with_reducible refine LeO.bind ?_ (fun _ => ?_))
   | exact ih0 _ _ _
   | exact LeO.none _
   | refine LeO.ite ?_ ?_
   | refine LeO.bind ?_ (fun _ => ?_)
theorem windhoverkeep_Lent.mono : ∀ a0 k, LeO (windhoverkeep_Lent.f k a0) (windhoverkeep_Lent.f (k + 1) a0) := by
 intro a0 k; have ih0 := windhoverkeep_Lent.mono_l k; unfold windhoverkeep_Lent.f
 repeat' first
   | (with_reducible exact ih0 _ _ _)
   | (with_reducible exact LeO.refl _)
   | (with_reducible exact LeO.none _)
   | (with_reducible refine LeO.ite ?_ ?_)
   | (with_reducible refine LeO.bind ?_ (fun _ => ?_))
   | exact ih0 _ _ _
   | exact LeO.none _
   | refine LeO.ite ?_ ?_
   | refine LeO.bind ?_ (fun _ => ?_)
set_option maxHeartbeats 8000000 in
set_option maxRecDepth 100000 in
theorem windhoverkeep_Lent.calls (k : Nat) (A0 : Option Addr) (c0 : Nat) (l0 : List Int) (r : List Int) (w : World) (hr0 : Kd.C (Kd.int .i64) w A0 l0.length l0) (hc0 : l0.length ≤ c0) (h : windhoverkeep_Lent.f k l0 = some r) :
  Calls Try.prog 21 #[.slice A0 l0.length c0] w fun e w' => ∃ (A_ : Option Addr) (c_ : Nat), e = .returned (.slice A_ l0.length c_) ∧ Kd.R (Kd.int .i64) 3 w' w.heap.size (fun _ => True) (.slice A_ r.length c_) r ∧ Below w.heap.size w w' := by
 have HR0 := Aside0.mk hr0; have HC0 := Aside0.mk hc0; clear hr0 hc0; have HB := Aside0.mk (Below.refl w.heap.size w); have H : (if 0 ≤ (wrap64 ((l0.length : Int) + 4)) then (if (wrap64 ((l0.length : Int) + 4) : Int).toNat ≤ 35184372088832 then ((some (([] : List Int) : List Int)).bind fun y384 => (if y384.length + l0.length < 17592186044416 then (windhoverkeep_Lent.l0 k l0 (y384 ++ l0) 0) else (none))) else (none)) else (none)) = some r := h; clear h; obtain ⟨ji2, hji2⟩ : ∃ j_ : Int, (wrap64 ((l0.length : Int) + 4)) = j_ := ⟨_, rfl⟩; replace H : (if 0 ≤ (ji2) then (if (ji2 : Int).toNat ≤ 35184372088832 then ((some (([] : List Int) : List Int)).bind fun y384 => (if y384.length + l0.length < 17592186044416 then (windhoverkeep_Lent.l0 k l0 (y384 ++ l0) 0) else (none))) else (none)) else (none)) = some r := by first | (rw [hji2] at H; exact H) | (simp only [hji2] at H ⊢; exact H)
 have hji2w : (IntKind.i64.wrap ((l0.length : Int) + 4)) = ji2 := (i64_w _).trans hji2
 by_cases c3 : 0 ≤ (ji2)
 ·rw [if_pos c3] at H
  have c3b0 := eq_true c3; have c3b1 : decide (0 ≤ (ji2)) = true := decide_eq_true c3; clear c3
  by_cases c4 : (ji2 : Int).toNat ≤ 35184372088832
  ·rw [if_pos c4] at H
   have c4b0 := eq_true c4; have c4b1 : decide ((ji2 : Int).toNat ≤ 35184372088832) = true := decide_eq_true c4; clear c4; obtain ⟨y384, hy384⟩ : ∃ y_ : List Int, y_ = (([] : List Int)) := ⟨_, rfl⟩; replace H : (if y384.length + l0.length < 17592186044416 then (windhoverkeep_Lent.l0 k l0 (y384 ++ l0) 0) else (none)) = some r := by first | (rw [hy384]; with_reducible exact H) | (have H2_ := (Option.bind_some _ _).symm.trans H; rw [hy384]; with_reducible exact H2_) | (have H2_ := (Option.bind_some _ _).symm.trans H; with_reducible exact H2_) | with_reducible exact H | (rw [hy384]; exact H) | exact H
   have Ny384 := Aside0.mk hy384; clear hy384
   by_cases c5 : y384.length + l0.length < 17592186044416
   ·rw [if_pos c5] at H
    have LMc5 := Aside0.mk c5; clear c5; obtain ⟨y387, hy387⟩ : ∃ y_ : List Int, y_ = (y384 ++ l0) := ⟨_, rfl⟩; replace H : (windhoverkeep_Lent.l0 k l0 y387 0) = some r := by first | (rw [hy387]; with_reducible exact H) | (have H2_ := (Option.bind_some _ _).symm.trans H; rw [hy387]; with_reducible exact H2_) | (have H2_ := (Option.bind_some _ _).symm.trans H; with_reducible exact H2_) | with_reducible exact H | (rw [hy387]; exact H) | exact H
    have Ny387 := Aside0.mk hy387; clear hy387; have H' := Aside0.mk H; clear H; go_enter Try.func21, Try.ntmps21
    go_wp2_with (first | ((with_reducible refine gate_dst (N := 8) rfl ?_); refine Kd.R_make0i (Kd.int .i64) _ 3 rfl (N := 8) rfl 29 _ _ rfl ji2 rfl ?hy Try.underlying29 (.int .i64 0) 8 info3 (by decide) (ok := fun _ => True) (okp := fun _ => True) (fun _ hk => hk) trivial (of_decide_eq_true (by first | (with_reducible assumption) | assumption)) (of_decide_eq_true (by first | (with_reducible assumption) | assumption)) (by omega) (Below.refl _ _) (Nat.le_refl _) ?_; (case hy => first | rfl | (go_simp; done) | (go_simp; rfl) | (simp [*]; done)); intro v385 w6 ho7 hb hg_ hnew_; clear hg_ hnew_; (first | rw [← Ny384.out] at ho7 | (simp only [Int.reduceToNat] at ho7; rw [← Ny384.out] at ho7)); have n0_ := Aside0.mk (Kd.R_lower ho7 (below_size (by repeat (first | (with_reducible first | exact HB.out | apply below_alloc | apply pw_below_drewN | apply below_drew1) | exact HB.out)))); have n1_ := Aside0.mk (below_step (by repeat (first | (with_reducible first | exact HB.out | apply below_alloc | apply pw_below_drewN | apply below_drew1) | exact HB.out)) hb); clear HB; have HO386 := n0_; have HB := n1_; clear n0_ n1_; clear hb ho7) | ((with_reducible refine gate_builtin (b := .append) (xs := #[.tmp 9, .tmp 10]) rfl ?_); at_builtin; refine Kd.R_append_rows (Kd.int .i64) (w0 := w) w.heap.size rfl (.tmp 9) (.tmp 10) 29 3 (.int .i64 0) 8 rfl Try.underlying29 info3 rfl (by decide) (by omega) v385 y384 l0 _ _ _ (fun _ => True) (fun _ => False) rfl rfl ?aO ?aR (fun _ _ h => h) (fun _ h => h.elim) ?aF ?aB ?aS ?aL ?_; (case aR => repeat (first | exact (Kd.C_below HR0.out HB.out) | (with_reducible refine Kd.C_alloc ?_ _) | (with_reducible refine Kd.C_drewN ?_ _) | (with_reducible refine Kd.C_drew ?_))); (case aB => exact (by repeat (first | (with_reducible first | exact HB.out | apply below_alloc | apply pw_below_drewN | apply below_drew1) | exact HB.out))); (case aF => exact (fun _ _ => trivial)); (case aO => exact (by (with_reducible repeat (first | apply Kd.R_alloc | apply Kd.R_drewN | apply Kd.R_drew)); exact HO386.out)); (case aS => exact (below_size (by repeat (first | (with_reducible first | exact HB.out | apply below_alloc | apply pw_below_drewN | apply below_drew1) | exact HB.out)))); (case aL => have := LMc5.out; omega); intro v388 w8 ho hb hg hat; rw [← Ny387.out] at ho; have n0_ := Aside0.mk (hb); have n1_ := Aside0.mk (ho); clear HB; clear HO386; have HB := n0_; have HO389 := n1_; clear n0_ n1_; clear ho hb hg hat))
    go_loopg [3, 4] k (fun kq v3 v4 w' => ∃ (x3_1 : List Int) (x4_1 : Int), v4 = .int .i64 x4_1 ∧ Aside0 (windhoverkeep_Lent.l0 kq l0 x3_1 x4_1 = some r) ∧ Aside0 (kq ≤ k) ∧ Aside0 (Kd.R (Kd.int .i64) 3 w' w.heap.size (fun _ => True) v3 x3_1) ∧ Aside0 (Below w.heap.size w w'))
    case atStart => exact ⟨(y387), (0), (by first | rfl | (simp; done) | (simp [*]; done)), H', ⟨Nat.le_refl _⟩, ⟨by (with_reducible repeat (first | apply Kd.R_alloc | apply Kd.R_drewN | apply Kd.R_drew)); exact HO389.out⟩, ⟨by repeat (first | (with_reducible first | exact HB.out | apply below_alloc | apply pw_below_drewN | apply below_drew1) | exact HB.out)⟩⟩
    case round =>
     clear H'; (try clear c2); (try clear p2); (try clear c3); (try clear c3b0); (try clear c3b1); (try clear c4); (try clear c4b0); (try clear c4b1); (try clear c5); (try clear p6); obtain ⟨x3_1, x4_1, rfl, HA, HK1, HO_3, HB⟩ := hrel
     cases gk with
     | zero => exact absurd HA.out (by simp [windhoverkeep_Lent.l0])
     | succ k1 =>
      have H := HA.out; clear HA; simp only [windhoverkeep_Lent.l0] at H
      by_cases c9 : x4_1 < 4
      ·rw [if_pos c9] at H
       have c9b0 : decide (x4_1 < 4) = true := decide_eq_true c9; clear c9
       by_cases c10 : x3_1.length < 17592186044416
       ·rw [if_pos c10] at H
        have LMc10 := Aside0.mk c10; clear c10; obtain ⟨y390, hy390⟩ : ∃ y_ : List Int, y_ = (x3_1 ++ [(-7770777)]) := ⟨_, rfl⟩; replace H : (windhoverkeep_Lent.l0 k1 l0 y390 (wrap64 (x4_1 + 1))) = some r := by first | (rw [hy390]; with_reducible exact H) | (have H2_ := (Option.bind_some _ _).symm.trans H; rw [hy390]; with_reducible exact H2_) | (have H2_ := (Option.bind_some _ _).symm.trans H; with_reducible exact H2_) | with_reducible exact H | (rw [hy390]; exact H) | exact H
        have Ny390 := Aside0.mk hy390; clear hy390; have H' := Aside0.mk H; clear H
        go_wp2_with (first | ((with_reducible refine gate_builtin (b := .append) (xs := #[.tmp 16, .tmp 17]) rfl ?_); at_builtin; refine Kd.R_append (Kd.int .i64) (w0 := w) w.heap.size rfl (.tmp 16) (.tmp 17) 29 3 (.int .i64 0) 8 rfl Try.underlying29 info3 rfl (by decide) (by omega) u3 x3_1 (-7770777) [.int .i64 (-7770777)] (fun _ => True) (fun _ => False) rfl rfl ?aP (fun _ hk => hk.elim) ?aF ?aO ?aB ?aS ?aL ?_; (case aP => exact rfl); (case aB => exact (by repeat (first | (with_reducible first | exact HB.out | apply below_alloc | apply pw_below_drewN | apply below_drew1) | exact HB.out))); (case aF => exact (fun _ _ => trivial)); (case aO => exact (by (with_reducible repeat (first | apply Kd.R_alloc | apply Kd.R_drewN | apply Kd.R_drew)); exact HO_3.out)); (case aS => exact (below_size (by repeat (first | (with_reducible first | exact HB.out | apply below_alloc | apply pw_below_drewN | apply below_drew1) | exact HB.out)))); (case aL => have := LMc10.out; omega); intro v391 w11 ho hb hg hat; rw [← Ny390.out] at ho; have n0_ := Aside0.mk (hb); have n1_ := Aside0.mk (ho); clear HB; clear HO_3; have HB := n0_; have HO392 := n1_; clear n0_ n1_; clear ho hb hg hat))
        go_roundg k1
        case measure => have := HK1.out; omega
        case rel => exact ⟨(y390), (wrap64 (x4_1 + 1)), (by first | rfl | (simp; done) | (simp [*]; done)), H', ⟨by have := HK1.out; omega⟩, ⟨by (with_reducible repeat (first | apply Kd.R_alloc | apply Kd.R_drewN | apply Kd.R_drew)); exact HO392.out⟩, ⟨by repeat (first | (with_reducible first | exact HB.out | apply below_alloc | apply pw_below_drewN | apply below_drew1) | exact HB.out)⟩⟩
       ·rw [if_neg c10] at H
        exact absurd H (by simp)
      ·rw [if_neg c9] at H
       have c9b0 : decide (x4_1 < 4) = false := decide_eq_false c9; clear c9
       by_cases c12 : 0 ≤ (l0.length : Int)
       ·rw [if_pos c12] at H
        have c12b0 := eq_true c12; have c12b1 : decide (0 ≤ (l0.length : Int)) = true := decide_eq_true c12; clear c12
        by_cases c13 : (l0.length : Int) ≤ (x3_1.length : Int)
        ·rw [if_pos c13] at H
         have c13b0 := eq_true c13; have c13b1 : decide ((l0.length : Int) ≤ (x3_1.length : Int)) = true := decide_eq_true c13; clear c13; obtain rfl := Option.some.inj H; obtain ⟨Ao14, co14, eo14⟩ := Kd.R_slice HO_3.out; subst eo14; have q15 : ((l0.length : Int) : Int) ≤ ((x3_1.length : Int) : Int) := of_decide_eq_true (by first | (with_reducible assumption) | assumption); obtain ⟨i015, hi015, _, hsz15, _⟩ := info_parts info3; have hcut15 := cut_to (P := Try.prog) 29 3 .i64 Try.underlying29 hi015 Ao14 x3_1.length co14 (l0.length : Int) (of_decide_eq_true (by first | (with_reducible assumption) | assumption)) q15 (Kd.R_reads' HO_3.out).2.1; rw [Int.toNat_natCast] at hcut15; clear hi015 hsz15; replace q15 := eq_true q15
         go_wp2
         go_ret
         exact ⟨_, _, rfl, by (with_reducible repeat (first | apply Kd.R_alloc | apply Kd.R_drewN | apply Kd.R_drew)); exact HO_3.out, by repeat (first | (with_reducible first | exact HB.out | apply below_alloc | apply pw_below_drewN | apply below_drew1) | exact HB.out)⟩
        ·rw [if_neg c13] at H
         exact absurd H (by simp)
       ·rw [if_neg c12] at H
        exact absurd H (by simp)
   ·rw [if_neg c5] at H
    exact absurd H (by simp)
  ·rw [if_neg c4] at H
   exact absurd H (by simp)
 ·rw [if_neg c3] at H
  exact absurd H (by simp)

/-! ### windhoverref00_SameInts: function 42 -/
def windhoverref00_SameInts.l0 : Nat → List Int → List Int → Int → Option (Bool)
 | 0, _, _, _ => none
 | k + 1, x0, x1, x5 => if x5 < (x0.length : Int) then (if 0 ≤ x5 then (if x5 < (x1.length : Int) then (if (rd x0 x5) = (rd x1 x5) then (windhoverref00_SameInts.l0 k x0 x1 (wrap64 (x5 + 1))) else (some false)) else (none)) else (none)) else (some true)
def windhoverref00_SameInts.f (k : Nat) (l0 : List Int) (l1 : List Int) : Option (Bool) := if (l0.length : Int) = (l1.length : Int) then (windhoverref00_SameInts.l0 k l0 l1 0) else (some false)
theorem windhoverref00_SameInts.mono_l : ∀ k, (∀ y0 y1 y2, LeO (windhoverref00_SameInts.l0 k y0 y1 y2) (windhoverref00_SameInts.l0 (k + 1) y0 y1 y2))
 | 0 => fun _ _ _ r h => by simp [windhoverref00_SameInts.l0] at h
 | k + 1 => by
  have ih0 := windhoverref00_SameInts.mono_l k
  ·intro y0 y1 y2
   unfold windhoverref00_SameInts.l0
   repeat' first
   | (with_reducible exact ih0 _ _ _)
   | (with_reducible exact LeO.refl _)
   | (with_reducible exact LeO.none _)
   | (with_reducible refine LeO.ite ?_ ?_)
   | (with_reducible refine LeO.bind ?_ (fun _ => ?_))
   | exact ih0 _ _ _
   | exact LeO.none _
   | refine LeO.ite ?_ ?_
   | refine LeO.bind ?_ (fun _ => ?_)
theorem windhoverref00_SameInts.mono : ∀ a0 a1 k, LeO (windhoverref00_SameInts.f k a0 a1) (windhoverref00_SameInts.f (k + 1) a0 a1) := by
 intro a0 a1 k; have ih0 := windhoverref00_SameInts.mono_l k; unfold windhoverref00_SameInts.f
 repeat' first
   | (with_reducible exact ih0 _ _ _)
   | (with_reducible exact LeO.refl _)
   | (with_reducible exact LeO.none _)
   | (with_reducible refine LeO.ite ?_ ?_)
   | (with_reducible refine LeO.bind ?_ (fun _ => ?_))
   | exact ih0 _ _ _
   | exact LeO.none _
   | refine LeO.ite ?_ ?_
   | refine LeO.bind ?_ (fun _ => ?_)
set_option maxHeartbeats 8000000 in
set_option maxRecDepth 100000 in
theorem windhoverref00_SameInts.calls (k : Nat) (A0 : Option Addr) (c0 : Nat) (l0 : List Int) (A1 : Option Addr) (c1 : Nat) (l1 : List Int) (r : Bool) (w : World) (hr0 : Kd.C (Kd.int .i64) w A0 l0.length l0) (hc0 : l0.length ≤ c0) (hr1 : Kd.C (Kd.int .i64) w A1 l1.length l1) (hc1 : l1.length ≤ c1) (h : windhoverref00_SameInts.f k l0 l1 = some r) :
  Calls Try.prog 42 #[.slice A0 l0.length c0, .slice A1 l1.length c1] w fun e w' => e = .returned (.bool r) ∧ Drawn0 w w' := by
 have HR0 := Aside0.mk hr0; have HC0 := Aside0.mk hc0; clear hr0 hc0; have HR1 := Aside0.mk hr1; have HC1 := Aside0.mk hc1; clear hr1 hc1; have H : (if (l0.length : Int) = (l1.length : Int) then (windhoverref00_SameInts.l0 k l0 l1 0) else (some false)) = some r := h; clear h
 by_cases c3 : (l0.length : Int) = (l1.length : Int)
 ·rw [if_pos c3] at H
  have c3b0 : ((l0.length : Int) == (l1.length : Int)) = true := beq_iff_eq.mpr c3; have c3b1 : ((l0.length : Int) != (l1.length : Int)) = false := bne_eq_false_iff_eq.mpr c3; have c3b2 : (l0.length == l1.length) = true := by first | simpa using c3 | (simp at c3 ⊢; omega)
  clear c3; have H' := Aside0.mk H; clear H; go_enter Try.func42, Try.ntmps42
  go_wp2
  go_loopg [5] k (fun kq v5 w' => ∃ (x5_1 : Int), v5 = .int .i64 x5_1 ∧ Aside0 (windhoverref00_SameInts.l0 kq l0 l1 x5_1 = some r) ∧ Aside0 (kq ≤ k) ∧ Drawn0 w w')
  case atStart => exact ⟨(0), (by first | rfl | (simp; done) | (simp [*]; done)), H', ⟨Nat.le_refl _⟩, by repeat (first | exact Drawn0.refl _ | apply Drawn0.step)⟩
  case round =>
   clear H'; (try clear c1); (try clear p2); (try clear c3); (try clear c3b0); (try clear c3b1); (try clear c3b2); obtain ⟨x5_1, rfl, HA, HK1, ⟨m1, rfl⟩⟩ := hrel
   cases gk with
   | zero => exact absurd HA.out (by simp [windhoverref00_SameInts.l0])
   | succ k1 =>
    have H := HA.out; clear HA; simp only [windhoverref00_SameInts.l0] at H
    by_cases c4 : x5_1 < (l0.length : Int)
    ·rw [if_pos c4] at H
     have c4b0 : decide (x5_1 < (l0.length : Int)) = true := decide_eq_true c4; clear c4
     by_cases c5 : 0 ≤ x5_1
     ·rw [if_pos c5] at H
      have c5b0 : decide (0 ≤ x5_1) = true := decide_eq_true c5; clear c5
      by_cases c6 : x5_1 < (l1.length : Int)
      ·rw [if_pos c6] at H
       have c6b0 : decide (x5_1 < (l1.length : Int)) = true := decide_eq_true c6; clear c6
       by_cases c7 : (rd l0 x5_1) = (rd l1 x5_1)
       ·rw [if_pos c7] at H
        have c7b0 : ((rd l0 x5_1) == (rd l1 x5_1)) = true := beq_iff_eq.mpr c7; have c7b1 : ((rd l0 x5_1) != (rd l1 x5_1)) = false := bne_eq_false_iff_eq.mpr c7; clear c7; have H' := Aside0.mk H; clear H; have p396 : 0 ≤ (x5_1 : Int) := of_decide_eq_true (by first | (with_reducible assumption) | assumption); have q396 : x5_1 < (l0.length : Int) := of_decide_eq_true (by first | (with_reducible assumption) | assumption); obtain ⟨ad396, e396, hx396_0⟩ := Kd.at_int HR0.out x5_1 p396 q396; cases e396; replace p396 := eq_true p396; replace q396 := eq_true q396; have p397 : 0 ≤ (x5_1 : Int) := of_decide_eq_true (by first | (with_reducible assumption) | assumption); have q397 : x5_1 < (l1.length : Int) := of_decide_eq_true (by first | (with_reducible assumption) | assumption); obtain ⟨ad397, e397, hx397_0⟩ := Kd.at_int HR1.out x5_1 p397 q397; cases e397; replace p397 := eq_true p397; replace q397 := eq_true q397
        go_wp2
        repeat (go_quiet (fail); try go_wp2)
        go_roundg k1
        case measure => have := HK1.out; omega
        case rel => exact ⟨(wrap64 (x5_1 + 1)), (by first | rfl | (simp; done) | (simp [*]; done)), H', ⟨by have := HK1.out; omega⟩, by repeat (first | exact Drawn0.refl _ | apply Drawn0.step)⟩
       ·rw [if_neg c7] at H
        have c7b0 : ((rd l0 x5_1) == (rd l1 x5_1)) = false := beq_eq_false_iff_ne.mpr c7; have c7b1 : ((rd l0 x5_1) != (rd l1 x5_1)) = true := bne_iff_ne.mpr c7; obtain rfl := Option.some.inj H; have p396 : 0 ≤ (x5_1 : Int) := of_decide_eq_true (by first | (with_reducible assumption) | assumption); have q396 : x5_1 < (l0.length : Int) := of_decide_eq_true (by first | (with_reducible assumption) | assumption); obtain ⟨ad396, e396, hx396_0⟩ := Kd.at_int HR0.out x5_1 p396 q396; cases e396; replace p396 := eq_true p396; replace q396 := eq_true q396; have p397 : 0 ≤ (x5_1 : Int) := of_decide_eq_true (by first | (with_reducible assumption) | assumption); have q397 : x5_1 < (l1.length : Int) := of_decide_eq_true (by first | (with_reducible assumption) | assumption); obtain ⟨ad397, e397, hx397_0⟩ := Kd.at_int HR1.out x5_1 p397 q397; cases e397; replace p397 := eq_true p397; replace q397 := eq_true q397
        go_wp2
        repeat (go_quiet (fail); try go_wp2)
        go_ret
        exact ⟨by first | rfl | (simp; done) | (simp [*]; done), by repeat (first | exact Drawn0.refl _ | apply Drawn0.step)⟩
      ·rw [if_neg c6] at H
       exact absurd H (by simp)
     ·rw [if_neg c5] at H
      exact absurd H (by simp)
    ·rw [if_neg c4] at H
     have c4b0 : decide (x5_1 < (l0.length : Int)) = false := decide_eq_false c4; clear c4; obtain rfl := Option.some.inj H
     go_wp2
     go_ret
     exact ⟨by first | rfl | (simp; done) | (simp [*]; done), by repeat (first | exact Drawn0.refl _ | apply Drawn0.step)⟩
 ·rw [if_neg c3] at H
  have c3b0 : ((l0.length : Int) == (l1.length : Int)) = false := beq_eq_false_iff_ne.mpr c3; have c3b1 : ((l0.length : Int) != (l1.length : Int)) = true := bne_iff_ne.mpr c3; have c3b2 : (l0.length == l1.length) = false := by first | simpa using c3 | (simp at c3 ⊢; omega)
  obtain rfl := Option.some.inj H; go_enter Try.func42, Try.ntmps42
  go_wp2
  go_ret
  exact ⟨by first | rfl | (simp; done) | (simp [*]; done), by repeat (first | exact Drawn0.refl _ | apply Drawn0.step)⟩

/-! ### windhoverkeep_Kept: function 23 -/
def windhoverkeep_Kept.l0 : Nat → List Int → Int → Option (Bool)
 | 0, _, _ => none
 | k + 1, x5, x6 => if x6 < (x5.length : Int) then (if 0 ≤ x6 then (if (rd x5 x6) = (-7770777) then (windhoverkeep_Kept.l0 k x5 (wrap64 (x6 + 1))) else (some false)) else (none)) else (some true)
def windhoverkeep_Kept.f (k : Nat) (l0 : List Int) (l1 : List Int) : Option (Bool) := (windhoverref00_SameInts.f k (l0.take l1.length) l1).bind fun t398 => (if t398 = true then (if 0 ≤ (wrap64 ((l1.length : Int) + 4)) then (if (wrap64 ((l1.length : Int) + 4)) ≤ (l0.length : Int) then (windhoverkeep_Kept.l0 k (l0.take ((wrap64 ((l1.length : Int) + 4)) : Int).toNat) (l1.length : Int)) else (none)) else (none)) else (some false))
theorem windhoverkeep_Kept.mono_l : ∀ k, (∀ y0 y1, LeO (windhoverkeep_Kept.l0 k y0 y1) (windhoverkeep_Kept.l0 (k + 1) y0 y1))
 | 0 => fun _ _ r h => by simp [windhoverkeep_Kept.l0] at h
 | k + 1 => by
  have ih0 := windhoverkeep_Kept.mono_l k
  ·intro y0 y1
   unfold windhoverkeep_Kept.l0
   repeat' first
   | (with_reducible exact ih0 _ _)
   | (with_reducible exact windhoverref00_SameInts.mono _ _ _)
   | (with_reducible exact LeO.refl _)
   | (with_reducible exact LeO.none _)
   | (with_reducible refine LeO.ite ?_ ?_)
   | (with_reducible refine LeO.bind ?_ (fun _ => ?_))
   | exact ih0 _ _
   | exact windhoverref00_SameInts.mono _ _ _
   | exact LeO.none _
   | refine LeO.ite ?_ ?_
   | refine LeO.bind ?_ (fun _ => ?_)
theorem windhoverkeep_Kept.mono : ∀ a0 a1 k, LeO (windhoverkeep_Kept.f k a0 a1) (windhoverkeep_Kept.f (k + 1) a0 a1) := by
 intro a0 a1 k; have ih0 := windhoverkeep_Kept.mono_l k; unfold windhoverkeep_Kept.f
 repeat' first
   | (with_reducible exact ih0 _ _)
   | (with_reducible exact windhoverref00_SameInts.mono _ _ _)
   | (with_reducible exact LeO.refl _)
   | (with_reducible exact LeO.none _)
   | (with_reducible refine LeO.ite ?_ ?_)
   | (with_reducible refine LeO.bind ?_ (fun _ => ?_))
   | exact ih0 _ _
   | exact windhoverref00_SameInts.mono _ _ _
   | exact LeO.none _
   | refine LeO.ite ?_ ?_
   | refine LeO.bind ?_ (fun _ => ?_)
/-- A list with room behind it, cut within its room. -/
theorem take_room {P : Program} {α : Type} (enc : α → Value) (d : α) (t e : TypeId) (kl : IntKind) {i : TypeInfo} (ht : P.underlying t = some (.slice e)) (hi : P.info? e = some i) (hsz : i.size = 1) (A : Option Addr) (n c : Nat) (xs : List α) (j : Int) (h0 : 0 ≤ j) (hm : j ≤ xs.length) (hc : xs.length ≤ c) :
  (∀ W : World, (Instr.slice t (.slice A n c) none (some (.int kl j)) none).run P W = .ok (.slice A (xs.take j.toNat).length c) W) ∧
   (∀ w : World, ReadsOf enc d w A xs.length xs → ReadsOf enc d w A (xs.take j.toNat).length (xs.take j.toNat)) ∧ (xs.take j.toNat).length ≤ c := by
 have hl : (xs.take j.toNat).length = j.toNat := by rw [List.length_take]; omega
 refine ⟨fun W => ?_, (print_take_of enc d t e kl ht hi hsz A c xs j h0 hm hc).2⟩; have hel : P.elem t = e := by simp [Program.elem, ht]
 have hu : P.underlying t = some (.slice (P.elem t)) := by rw [hel]; exact ht
 have ha : (A.map fun x => x.add 0) = A := by cases A <;> simp [Addr.add]
 rw [run_slice_h W t A n c hu kl j h0 (by omega), hel, hl]
 simp [sizeOf, typeInfo, hi, hsz, sliced, Result.andThen, ha]
theorem C_room {w : World} {A : Option Addr} {l : List Int} {n : Nat} (h : Kd.C (Kd.int .i64) w A l.length l) (hn : n ≤ l.length) : Kd.C (Kd.int .i64) w A (l.take n).length (l.take n) := by
 have h2 := (show ReadsOf (Value.int .i64) (0 : Int) w A l.length l from Kd.reads_of_C h).take_ n hn; rw [show (l.take n).length = n by rw [List.length_take]; omega]
 exact Kd.C_of_reads (h1 := fun _ => rfl) h2
theorem windhoverkeep_Kept.same (k : Nat) (A0 : Option Addr) (c0 : Nat) (l0 : List Int) (A1 : Option Addr) (c1 : Nat) (l1 : List Int) (r : Bool) (w : World) (hle : l1.length ≤ l0.length) (hr0 : Kd.C (Kd.int .i64) w A0 l0.length l0) (hc0 : l0.length ≤ c0) (hr1 : Kd.C (Kd.int .i64) w A1 l1.length l1) (hc1 : l1.length ≤ c1) (h : windhoverref00_SameInts.f k (l0.take l1.length) l1 = some r) :
  Calls Try.prog 42 #[.slice A0 l1.length c0, .slice A1 l1.length c1] w fun e w' => e = .returned (.bool r) ∧ Drawn0 w w' := by
 have hn : (l0.take l1.length).length = l1.length := by rw [List.length_take]; omega
 have h2 := windhoverref00_SameInts.calls k A0 c0 (l0.take l1.length) A1 c1 l1 r w (C_room hr0 hle) (by omega) hr1 hc1 h; rw [hn] at h2
 exact h2
set_option maxHeartbeats 8000000 in
set_option maxRecDepth 100000 in
theorem windhoverkeep_Kept.calls (k : Nat) (A0 : Option Addr) (c0 : Nat) (l0 : List Int) (A1 : Option Addr) (c1 : Nat) (l1 : List Int) (r : Bool) (w : World) (hle : l1.length ≤ l0.length) (hr0 : Kd.C (Kd.int .i64) w A0 l0.length l0) (hc0 : l0.length ≤ c0) (hr1 : Kd.C (Kd.int .i64) w A1 l1.length l1) (hc1 : l1.length ≤ c1) (h : windhoverkeep_Kept.f k l0 l1 = some r) :
  Calls Try.prog 23 #[.slice A0 l1.length c0, .slice A1 l1.length c1] w fun e w' => e = .returned (.bool r) ∧ Drawn0 w w' := by
 have HLE := Aside0.mk hle; clear hle; have HR0 := Aside0.mk hr0; have HC0 := Aside0.mk hc0; clear hr0 hc0; have HR1 := Aside0.mk hr1; have HC1 := Aside0.mk hc1; clear hr1 hc1; have H : ((windhoverref00_SameInts.f k (l0.take l1.length) l1).bind fun t398 => (if t398 = true then (if 0 ≤ (wrap64 ((l1.length : Int) + 4)) then (if (wrap64 ((l1.length : Int) + 4)) ≤ (l0.length : Int) then (windhoverkeep_Kept.l0 k (l0.take ((wrap64 ((l1.length : Int) + 4)) : Int).toNat) (l1.length : Int)) else (none)) else (none)) else (some false))) = some r := h; clear h; replace H := Option.bind_eq_some_iff.mp H; obtain ⟨t398, A30, H⟩ := H; replace H : (if t398 = true then (if 0 ≤ (wrap64 ((l1.length : Int) + 4)) then (if (wrap64 ((l1.length : Int) + 4)) ≤ (l0.length : Int) then (windhoverkeep_Kept.l0 k (l0.take ((wrap64 ((l1.length : Int) + 4)) : Int).toNat) (l1.length : Int)) else (none)) else (none)) else (some false)) = some r := H; have A3 := Aside0.mk A30; clear A30
 by_cases c4 : t398 = true
 ·subst c4
  have H1 : (if 0 ≤ (wrap64 ((l1.length : Int) + 4)) then (if (wrap64 ((l1.length : Int) + 4)) ≤ (l0.length : Int) then (windhoverkeep_Kept.l0 k (l0.take ((wrap64 ((l1.length : Int) + 4)) : Int).toNat) (l1.length : Int)) else (none)) else (none)) = some r := by rw [if_pos rfl] at H; exact H
  clear H; have H := H1; clear H1; obtain ⟨ji5, hji5⟩ : ∃ j_ : Int, (wrap64 ((l1.length : Int) + 4)) = j_ := ⟨_, rfl⟩; replace H : (if 0 ≤ (ji5) then (if (ji5) ≤ (l0.length : Int) then (windhoverkeep_Kept.l0 k (l0.take ((ji5) : Int).toNat) (l1.length : Int)) else (none)) else (none)) = some r := by first | (rw [hji5] at H; exact H) | (simp only [hji5] at H ⊢; exact H)
  (try rw [hji5] at A3); have hji5w : (IntKind.i64.wrap ((l1.length : Int) + 4)) = ji5 := (i64_w _).trans hji5
  by_cases c6 : 0 ≤ (ji5)
  ·rw [if_pos c6] at H
   have c6b0 := eq_true c6; have c6b1 : decide (0 ≤ (ji5)) = true := decide_eq_true c6; clear c6
   by_cases c7 : (ji5) ≤ (l0.length : Int)
   ·rw [if_pos c7] at H
    have c7b0 := eq_true c7; have c7b1 : decide ((ji5) ≤ (l0.length : Int)) = true := decide_eq_true c7; clear c7; obtain ⟨lt, hlt⟩ : ∃ l_ : List Int, l_ = (l0.take ((ji5) : Int).toNat) := ⟨_, rfl⟩
    have hjt : ((ji5) : Int).toNat = lt.length := by
     have h1_ : 0 ≤ (ji5) := of_decide_eq_true (by first | (with_reducible assumption) | assumption); have h2_ : (ji5) ≤ (l0.length : Int) := of_decide_eq_true (by first | (with_reducible assumption) | assumption); rw [hlt, List.length_take]; omega
    rw [← hlt] at H; have HLT := Aside0.mk hlt; clear hlt; have H' := Aside0.mk H; clear H; go_enter Try.func23, Try.ntmps23
    go_wp2_with (first | ((with_reducible refine gate_callee (f := 42) rfl ?_); refine goesL_ (some 9) rfl rfl Try.func42 (by kernel_rfl) rfl #[.slice A0 l1.length c0, .slice A1 l1.length c1] rfl (by (try simp only [List.map_toArray, List.map_cons, List.map_nil]); first | done | rfl | (simp only [List.length_drop, List.length_take]; rfl)) ?_; (with_reducible refine (windhoverkeep_Kept.same k _ _ l0 _ _ l1 true _ HLE.out ?side1 ?side2 ?side3 ?side4 A3.out).mono ?_); (case side1 => repeat (first | exact HR0.out | (with_reducible refine Kd.C_alloc ?_ _) | (with_reducible refine Kd.C_drewN ?_ _) | (with_reducible refine Kd.C_drew ?_))); (case side2 => exact HC0.out); (case side3 => repeat (first | exact HR1.out | (with_reducible refine Kd.C_alloc ?_ _) | (with_reducible refine Kd.C_drewN ?_ _) | (with_reducible refine Kd.C_drew ?_))); (case side4 => exact HC1.out); rintro e w' ⟨rfl, ⟨nd, rfl⟩⟩; refine ⟨_, rfl, ?_⟩; obtain ⟨i08, hi08, _, hsz8, _⟩ := info_parts info3; obtain ⟨hcut8, hA8, hC8⟩ := take_room (P := Try.prog) (Value.int .i64) 0 29 3 .i64 Try.underlying29 hi08 hsz8 A0 l1.length c0 l0 (ji5) (of_decide_eq_true (by first | (with_reducible assumption) | assumption)) (of_decide_eq_true (by first | (with_reducible assumption) | assumption)) HC0.out; have HR399 : Aside0 (Kd.C (Kd.int .i64) _ A0 lt.length lt) := ⟨by rw [HLT.out]; exact Kd.C_of_reads (h1 := fun _ => rfl) (hA8 _ (Kd.reads_of_C HR0.out))⟩; rw [← HLT.out] at hcut8; clear hA8 hC8 hi08 hsz8))
    go_loopg [6] k (fun kq v6 w' => ∃ (x6_1 : Int), v6 = .int .i64 x6_1 ∧ Aside0 (windhoverkeep_Kept.l0 kq lt x6_1 = some r) ∧ Aside0 (kq ≤ k) ∧ Drawn0 w w')
    case atStart => exact ⟨((l1.length : Int)), (by first | rfl | (simp; done) | (simp [*]; done)), H', ⟨Nat.le_refl _⟩, by repeat (first | exact Drawn0.refl _ | apply Drawn0.step)⟩
    case round =>
     clear H'; (try clear c1); (try clear c2); (try clear p2); (try clear c4); (try clear c6); (try clear c6b0); (try clear c6b1); (try clear p6); (try clear c7); (try clear c7b0); (try clear c7b1); obtain ⟨x6_1, rfl, HA, HK1, ⟨m1, rfl⟩⟩ := hrel
     cases gk with
     | zero => exact absurd HA.out (by simp [windhoverkeep_Kept.l0])
     | succ k1 =>
      have H := HA.out; clear HA; simp only [windhoverkeep_Kept.l0] at H
      by_cases c9 : x6_1 < (lt.length : Int)
      ·rw [if_pos c9] at H
       have c9b0 : decide (x6_1 < (lt.length : Int)) = true := decide_eq_true c9; clear c9
       by_cases c10 : 0 ≤ x6_1
       ·rw [if_pos c10] at H
        have c10b0 : decide (0 ≤ x6_1) = true := decide_eq_true c10; clear c10
        by_cases c11 : (rd lt x6_1) = (-7770777)
        ·rw [if_pos c11] at H
         have c11b0 : ((rd lt x6_1) == (-7770777)) = true := beq_iff_eq.mpr c11; have c11b1 : ((rd lt x6_1) != (-7770777)) = false := bne_eq_false_iff_eq.mpr c11; clear c11; have H' := Aside0.mk H; clear H; have p400 : 0 ≤ (x6_1 : Int) := of_decide_eq_true (by first | (with_reducible assumption) | assumption); have q400 : x6_1 < (lt.length : Int) := of_decide_eq_true (by first | (with_reducible assumption) | assumption); obtain ⟨ad400, e400, hx400_0⟩ := Kd.at_int HR399.out x6_1 p400 q400; cases e400; replace p400 := eq_true p400; replace q400 := eq_true q400
         go_wp2
         go_roundg k1
         case measure => have := HK1.out; omega
         case rel => exact ⟨(wrap64 (x6_1 + 1)), (by first | rfl | (simp; done) | (simp [*]; done)), H', ⟨by have := HK1.out; omega⟩, by repeat (first | exact Drawn0.refl _ | apply Drawn0.step)⟩
        ·rw [if_neg c11] at H
         have c11b0 : ((rd lt x6_1) == (-7770777)) = false := beq_eq_false_iff_ne.mpr c11; have c11b1 : ((rd lt x6_1) != (-7770777)) = true := bne_iff_ne.mpr c11; obtain rfl := Option.some.inj H; have p400 : 0 ≤ (x6_1 : Int) := of_decide_eq_true (by first | (with_reducible assumption) | assumption); have q400 : x6_1 < (lt.length : Int) := of_decide_eq_true (by first | (with_reducible assumption) | assumption); obtain ⟨ad400, e400, hx400_0⟩ := Kd.at_int HR399.out x6_1 p400 q400; cases e400; replace p400 := eq_true p400; replace q400 := eq_true q400
         go_wp2
         go_ret
         exact ⟨by first | rfl | (simp; done) | (simp only [← hji5] <;> (first | rfl | simp)) | (simp [*]; done), by repeat (first | exact Drawn0.refl _ | apply Drawn0.step)⟩
       ·rw [if_neg c10] at H
        exact absurd H (by simp)
      ·rw [if_neg c9] at H
       have c9b0 : decide (x6_1 < (lt.length : Int)) = false := decide_eq_false c9; clear c9; obtain rfl := Option.some.inj H
       go_wp2
       go_ret
       exact ⟨by first | rfl | (simp; done) | (simp only [← hji5] <;> (first | rfl | simp)) | (simp [*]; done), by repeat (first | exact Drawn0.refl _ | apply Drawn0.step)⟩
   ·rw [if_neg c7] at H
    exact absurd H (by simp)
  ·rw [if_neg c6] at H
   exact absurd H (by simp)
 ·replace c4 := Bool.eq_false_iff.mpr c4
  subst c4; have H1 : (some false) = some r := by rw [if_neg (show ¬ (false = true) by decide)] at H; exact H
  clear H; have H := H1; clear H1; obtain rfl := Option.some.inj H; go_enter Try.func23, Try.ntmps23
  go_wp2_with (first | ((with_reducible refine gate_callee (f := 42) rfl ?_); refine goesL_ (some 9) rfl rfl Try.func42 (by kernel_rfl) rfl #[.slice A0 l1.length c0, .slice A1 l1.length c1] rfl (by (try simp only [List.map_toArray, List.map_cons, List.map_nil]); first | done | rfl | (simp only [List.length_drop, List.length_take]; rfl)) ?_; (with_reducible refine (windhoverkeep_Kept.same k _ _ l0 _ _ l1 false _ HLE.out ?side1 ?side2 ?side3 ?side4 A3.out).mono ?_); (case side1 => repeat (first | exact HR0.out | (with_reducible refine Kd.C_alloc ?_ _) | (with_reducible refine Kd.C_drewN ?_ _) | (with_reducible refine Kd.C_drew ?_))); (case side2 => exact HC0.out); (case side3 => repeat (first | exact HR1.out | (with_reducible refine Kd.C_alloc ?_ _) | (with_reducible refine Kd.C_drewN ?_ _) | (with_reducible refine Kd.C_drew ?_))); (case side4 => exact HC1.out); rintro e w' ⟨rfl, ⟨nd, rfl⟩⟩; refine ⟨_, rfl, ?_⟩))
  go_ret
  exact ⟨by first | rfl | (simp; done) | (simp [*]; done), by repeat (first | exact Drawn0.refl _ | apply Drawn0.step)⟩

end Go.Proofs.Ytbnliflfkljbfaa.PControlSteers
