-- WRITTEN BY wip/tools/aprint.py of this claim's repository over the kit's words: not typed by hand
import Derived.Test.YtbnliflfkljbfaaPControlTurnsx0
import Derived.Test.YtbnliflfkljbfaaPControlTurnsx1
import Derived.Test.YtbnliflfkljbfaaPControlTurnsx2
import Derived.Test.YtbnliflfkljbfaaPControlTurnsx3
import Derived.Test.YtbnliflfkljbfaaPControlTurnsx4
import Derived.Test.YtbnliflfkljbfaaPControlTurnsx5
namespace Go.Proofs.Ytbnliflfkljbfaa.PControlTurns
open Go.RowKit Go.Proofs.YtbnliflfkljbfaaW.PrintWords Go.Proofs.YtbnliflfkljbfaaW.PrintLast Go.Proofs.YtbnliflfkljbfaaW.PrintMore
attribute [local go_sem] max2_int min2_int max_two min_two max_three min_three max_four min_four   -- for this text's walks alone
set_option linter.unusedVariables false
set_option linter.unusedSimpArgs false

attribute [local go_sem high] eqA37
/-! ### windhoverlaw17_awake: function 13 -/
def windhoverlaw17_awake.j0 : Nat → Bool → Int → Int → Int → Int → Option (Bool)
  | 0, _, _, _, _, _ => none
  | k + 1, x24, x351000, x351001, x351002, x351003 => if x24 = true then (none) else ((control_Steer_Step.f k x351000 x351001 x351002 x351003 false 0 30 true 6400000 16000 false 0 0 0 0 0 0 0 0).bind fun bt360 => (if (bt360.1 == 12 && (bt360.2.1 == 12 && (bt360.2.2.1 == 0))) = true then ((control_Steer_Refs.f bt360.2.2.2.1 bt360.2.2.2.2.1 bt360.2.2.2.2.2.1 bt360.2.2.2.2.2.2).bind fun bt368 => (if (bt368.1 == 12 && (bt368.2.1 == 12 && (bt368.2.2.1 == 0))) = true then ((control_Law.f k (-64000) 10000 12).bind fun t375 => (if t375 = (-876) then ((control_Twist.f k 640 0 800).bind fun t376 => (some (t376 == (-2)))) else (none))) else (none))) else (none)))
def windhoverlaw17_awake.f (k : Nat)  : Option (Bool) := (params_Defaults.f k).bind fun t343 => ((control_New.f k t343).bind fun bt346 => (if bt346.2.2.2.2 = 0 then ((control_New.f k ([] : List Int)).bind fun bt353 => (if bt353.2.2.2.2 = 0 then (none) else (if bt353.2.2.2.2 = 3 then (windhoverlaw17_awake.j0 k false bt346.1 bt346.2.1 bt346.2.2.1 bt346.2.2.2.1) else (windhoverlaw17_awake.j0 k true bt346.1 bt346.2.1 bt346.2.2.1 bt346.2.2.2.1)))) else ((control_New.f k ([] : List Int)).bind fun bt377 => (if bt377.2.2.2.2 = 0 then (none) else (none)))))
theorem windhoverlaw17_awake.mono_l : ∀ k, (∀ y0 y1 y2 y3 y4, LeO (windhoverlaw17_awake.j0 k y0 y1 y2 y3 y4) (windhoverlaw17_awake.j0 (k + 1) y0 y1 y2 y3 y4))
  | 0 => fun _ _ _ _ _ r h => by simp [windhoverlaw17_awake.j0] at h
  | k + 1 => by
    have ih0 := windhoverlaw17_awake.mono_l k
    · intro y0 y1 y2 y3 y4
      unfold windhoverlaw17_awake.j0
      repeat' first
      | (with_reducible exact ih0 _ _ _ _ _)
      | (with_reducible exact control_Law.mono _ _ _ _)
      | (with_reducible exact control_New.mono _ _)
      | (with_reducible exact control_Steer_Step.mono _ _ _ _ _ _ _ _ _ _ _ _ _ _ _ _ _ _ _ _)
      | (with_reducible exact control_Twist.mono _ _ _ _)
      | (with_reducible exact params_Defaults.mono _)
      | (with_reducible exact LeO.refl _)
      | (with_reducible exact LeO.none _)
      | (with_reducible refine LeO.ite ?_ ?_)
      | (with_reducible refine LeO.bind ?_ (fun _ => ?_))
      | exact ih0 _ _ _ _ _
      | exact control_Law.mono _ _ _ _
      | exact control_New.mono _ _
      | exact control_Steer_Step.mono _ _ _ _ _ _ _ _ _ _ _ _ _ _ _ _ _ _ _ _
      | exact control_Twist.mono _ _ _ _
      | exact params_Defaults.mono _
      | exact LeO.none _
      | refine LeO.ite ?_ ?_
      | refine LeO.bind ?_ (fun _ => ?_)
theorem windhoverlaw17_awake.mono : ∀ k, LeO (windhoverlaw17_awake.f k ) (windhoverlaw17_awake.f (k + 1) ) := by
  intro  k
  have ih0 := windhoverlaw17_awake.mono_l k
  unfold windhoverlaw17_awake.f
  repeat' first
      | (with_reducible exact ih0 _ _ _ _ _)
      | (with_reducible exact control_Law.mono _ _ _ _)
      | (with_reducible exact control_New.mono _ _)
      | (with_reducible exact control_Steer_Step.mono _ _ _ _ _ _ _ _ _ _ _ _ _ _ _ _ _ _ _ _)
      | (with_reducible exact control_Twist.mono _ _ _ _)
      | (with_reducible exact params_Defaults.mono _)
      | (with_reducible exact LeO.refl _)
      | (with_reducible exact LeO.none _)
      | (with_reducible refine LeO.ite ?_ ?_)
      | (with_reducible refine LeO.bind ?_ (fun _ => ?_))
      | exact ih0 _ _ _ _ _
      | exact control_Law.mono _ _ _ _
      | exact control_New.mono _ _
      | exact control_Steer_Step.mono _ _ _ _ _ _ _ _ _ _ _ _ _ _ _ _ _ _ _ _
      | exact control_Twist.mono _ _ _ _
      | exact params_Defaults.mono _
      | exact LeO.none _
      | refine LeO.ite ?_ ?_
      | refine LeO.bind ?_ (fun _ => ?_)
set_option maxHeartbeats 8000000 in
set_option maxRecDepth 100000 in
theorem windhoverlaw17_awake.calls (k : Nat)  (r : Bool) (w : World) (h : windhoverlaw17_awake.f k  = some r) :
    Calls Try.prog 13 #[] w fun e w' => e = .returned (.bool r) ∧ Below w.heap.size w w' := by
  have hu41 := Try.underlying41
  have hu42 := Try.underlying42
  have hu37 := Try.underlying37
  have HB := Aside0.mk (Below.refl w.heap.size w)
  have H : ((params_Defaults.f k).bind fun t343 => ((control_New.f k t343).bind fun bt346 => (if bt346.2.2.2.2 = 0 then ((control_New.f k ([] : List Int)).bind fun bt353 => (if bt353.2.2.2.2 = 0 then (none) else (if bt353.2.2.2.2 = 3 then (windhoverlaw17_awake.j0 k false bt346.1 bt346.2.1 bt346.2.2.1 bt346.2.2.2.1) else (windhoverlaw17_awake.j0 k true bt346.1 bt346.2.1 bt346.2.2.1 bt346.2.2.2.1)))) else ((control_New.f k ([] : List Int)).bind fun bt377 => (if bt377.2.2.2.2 = 0 then (none) else (none)))))) = some r := h
  clear h
  replace H := Option.bind_eq_some_iff.mp H
  obtain ⟨t343, A10, H⟩ := H
  replace H : ((control_New.f k t343).bind fun bt346 => (if bt346.2.2.2.2 = 0 then ((control_New.f k ([] : List Int)).bind fun bt353 => (if bt353.2.2.2.2 = 0 then (none) else (if bt353.2.2.2.2 = 3 then (windhoverlaw17_awake.j0 k false bt346.1 bt346.2.1 bt346.2.2.1 bt346.2.2.2.1) else (windhoverlaw17_awake.j0 k true bt346.1 bt346.2.1 bt346.2.2.1 bt346.2.2.2.1)))) else ((control_New.f k ([] : List Int)).bind fun bt377 => (if bt377.2.2.2.2 = 0 then (none) else (none))))) = some r := H
  have A1 := Aside0.mk A10
  clear A10
  replace H := Option.bind_eq_some_iff.mp H
  obtain ⟨⟨t346, t347, t348, t349, t351⟩, A20, H⟩ := H
  replace H : (if t351 = 0 then ((control_New.f k ([] : List Int)).bind fun bt353 => (if bt353.2.2.2.2 = 0 then (none) else (if bt353.2.2.2.2 = 3 then (windhoverlaw17_awake.j0 k false t346 t347 t348 t349) else (windhoverlaw17_awake.j0 k true t346 t347 t348 t349)))) else ((control_New.f k ([] : List Int)).bind fun bt377 => (if bt377.2.2.2.2 = 0 then (none) else (none)))) = some r := H
  have A2 := Aside0.mk A20
  clear A20
  by_cases c3 : t351 = 0
  · rw [if_pos c3] at H
    have c3b0 : (t351 == 0) = true := beq_iff_eq.mpr c3
    have c3b1 : (t351 != 0) = false := bne_eq_false_iff_eq.mpr c3
    clear c3
    replace H := Option.bind_eq_some_iff.mp H
    obtain ⟨⟨t353, t354, t355, t356, t358⟩, A40, H⟩ := H
    replace H : (if t358 = 0 then (none) else (if t358 = 3 then (windhoverlaw17_awake.j0 k false t346 t347 t348 t349) else (windhoverlaw17_awake.j0 k true t346 t347 t348 t349))) = some r := H
    have A4 := Aside0.mk A40
    clear A40
    by_cases c5 : t358 = 0
    · rw [if_pos c5] at H
      exact absurd H (by simp)
    · rw [if_neg c5] at H
      have c5b0 : (t358 == 0) = false := beq_eq_false_iff_ne.mpr c5
      have c5b1 : (t358 != 0) = true := bne_iff_ne.mpr c5
      have HC6 := Aside0.mk H
      clear H
      go_enter Try.func13, Try.ntmps13
      go_upto_region 3 with (first | ((with_reducible refine gate_callee (f := 17) rfl ?_); refine goesL_ (some 7) rfl rfl Try.func17 (by kernel_rfl) rfl #[] rfl (by (try simp only [List.map_toArray, List.map_cons, List.map_nil]); first | done | rfl | (simp only [List.length_drop, List.length_take]; rfl)) ?_; (with_reducible refine (params_Defaults.calls k  t343 _ A1.out).mono ?_); rintro e w7 ⟨v344, rfl, ho0, hb⟩; refine ⟨_, rfl, ?_⟩; have n0_ := Aside0.mk (Kd.R_lower ho0 (below_size (by repeat (first | (with_reducible first | exact HB.out | apply below_alloc | apply pw_below_drewN | apply below_drew1) | exact HB.out)))); have n1_ := Aside0.mk (below_step (by repeat (first | (with_reducible first | exact HB.out | apply below_alloc | apply pw_below_drewN | apply below_drew1) | exact HB.out)) hb); clear HB; have HO345 := n0_; have HB := n1_; clear n0_ n1_; (try clear hb); (try clear hb2); (try clear hk); (try clear hi); (try clear ho0); obtain ⟨Ao8, co8, eo8⟩ := Kd.R_slice HO345.out; subst eo8) | ((with_reducible refine gate_callee (f := 16) rfl ?_); refine goesL_ (some 8) rfl rfl Try.func16 (by kernel_rfl) rfl #[.slice Ao8 t343.length co8] rfl (by (try simp only [List.map_toArray, List.map_cons, List.map_nil]); first | done | rfl | (simp only [List.length_drop, List.length_take]; rfl)) ?_; (with_reducible refine (control_New.callsNew k _ _ t343 t346 t347 t348 t349 t351 w _ ?side1 ?side2 ?side3 A2.out (by assumption)).mono ?_); (case side1 => repeat (first | (with_reducible first | exact HB.out | apply below_alloc | apply pw_below_drewN | apply below_drew1) | exact HB.out)); (case side2 => repeat (first | exact (Kd.R_reads' HO345.out).2.2 | (with_reducible refine Kd.C_alloc ?_ _) | (with_reducible refine Kd.C_drewN ?_ _) | (with_reducible refine Kd.C_drew ?_))); (case side3 => exact (Kd.R_reads' HO345.out).2.1); rintro e w9 ⟨g350, rfl, hi, hb, hb2⟩; refine ⟨_, rfl, ?_⟩; have n0_ := Aside0.mk (Kd.R_below (by (with_reducible repeat (first | apply Kd.R_alloc | apply Kd.R_drewN | apply Kd.R_drew)); exact HO345.out) hb2); have n1_ := Aside0.mk (hb); have n2_ := Aside0.mk (hi); clear HO345; clear HB; have HO345 := n0_; have HB := n1_; have HI350 := n2_; clear n0_ n1_ n2_; (try clear hb); (try clear hb2); (try clear hk); (try clear hi)) | ((with_reducible refine gate_callee (f := 16) rfl ?_); refine goesL_ (some 12) rfl rfl Try.func16 (by kernel_rfl) rfl #[.slice none 0 0] rfl (by (try simp only [List.map_toArray, List.map_cons, List.map_nil]); first | done | rfl | (simp only [List.length_drop, List.length_take]; rfl)) ?_; (refine (control_New.callsNil k _ _ ([] : List Int) t353 t354 t355 t356 t358 _ ?side1 ?side2 A4.out (by assumption)).mono ?_); (case side1 => exact Kd.C_nil _ _); (case side2 => exact Nat.le_refl _); rintro e w10 ⟨rfl, hb⟩; refine ⟨_, rfl, ?_⟩; have n0_ := Aside0.mk (Kd.R_below (by (with_reducible repeat (first | apply Kd.R_alloc | apply Kd.R_drewN | apply Kd.R_drew)); exact HO345.out) hb); have n1_ := Aside0.mk (IsS65.below (by repeat (first | (with_reducible first | exact HI350.out | apply IsS65.alloc | apply IsS65.drewN | apply IsS65.drew | apply IsS65.set_0 | apply IsS65.set_1 | apply IsS65.set_2 | apply IsS65.set_3) | exact HI350.out)) hb); have n2_ := Aside0.mk (below_step (by repeat (first | (with_reducible first | exact HB.out | apply below_alloc | apply pw_below_drewN | apply below_drew1 | refine below_set ?_ (IsS65.ge HI350.out)) | exact HB.out)) hb); clear HO345; clear HI350; clear HB; have HO345 := n0_; have HI350 := n1_; have HB := n2_; clear n0_ n1_ n2_; (try clear hb); (try clear hb2); (try clear hk); (try clear hi)))
      (try simp only [Act.put, List.setIfInBounds_toArray, List.set_cons_zero, List.set_cons_succ])
      go_cut [24] (fun v24 wc => ∃ (kq : Nat) (x24_5 : Bool), v24 = .bool x24_5 ∧ Aside0 (windhoverlaw17_awake.j0 kq x24_5 t346 t347 t348 t349 = some r) ∧ Aside0 (kq ≤ k) ∧ Aside0 (IsS65 w wc g350 t346 t347 t348 t349) ∧ Aside0 (Below w.heap.size w wc))
      case first =>
        have H := HC6.out
        clear HC6
        by_cases c11 : t358 = 3
        · rw [if_pos c11] at H
          have c11b0 : (t358 == 3) = true := beq_iff_eq.mpr c11
          have c11b1 : (t358 != 3) = false := bne_eq_false_iff_eq.mpr c11
          clear c11
          (first | rw [c11b0] | (simp only [i64_w, i32_w]; rw [c11b0]) | skip)
          have H' := Aside0.mk H
          clear H
          go_wp2
          go_meet
          case rel => exact ⟨_, (false), (by first | rfl | (simp; done) | (simp [*]; done)), H', ⟨by first | omega | exact Nat.le_refl _⟩, ⟨by repeat (first | (with_reducible first | exact HI350.out | apply IsS65.alloc | apply IsS65.drewN | apply IsS65.drew | apply IsS65.set_0 | apply IsS65.set_1 | apply IsS65.set_2 | apply IsS65.set_3) | exact HI350.out)⟩, ⟨by repeat (first | (with_reducible first | exact HB.out | apply below_alloc | apply pw_below_drewN | apply below_drew1 | refine below_set ?_ (IsS65.ge HI350.out)) | exact HB.out)⟩⟩
        · rw [if_neg c11] at H
          have c11b0 : (t358 == 3) = false := beq_eq_false_iff_ne.mpr c11
          have c11b1 : (t358 != 3) = true := bne_iff_ne.mpr c11
          (first | rw [c11b0] | (simp only [i64_w, i32_w]; rw [c11b0]) | skip)
          have H' := Aside0.mk H
          clear H
          go_wp2
          go_meet
          case rel => exact ⟨_, (true), (by first | rfl | (simp; done) | (simp [*]; done)), H', ⟨by first | omega | exact Nat.le_refl _⟩, ⟨by repeat (first | (with_reducible first | exact HI350.out | apply IsS65.alloc | apply IsS65.drewN | apply IsS65.drew | apply IsS65.set_0 | apply IsS65.set_1 | apply IsS65.set_2 | apply IsS65.set_3) | exact HI350.out)⟩, ⟨by repeat (first | (with_reducible first | exact HB.out | apply below_alloc | apply pw_below_drewN | apply below_drew1 | refine below_set ?_ (IsS65.ge HI350.out)) | exact HB.out)⟩⟩
      case rest =>
        clear HC6
        try clear c1
        try clear p2
        try clear c3
        try clear c3b0
        try clear c3b1
        try clear c5
        try clear c5b0
        try clear c5b1
        try clear c11
        try clear c11b0
        try clear c11b1
        obtain ⟨kq, x24_5, rfl, HA, HJ5, HI350, HB⟩ := hcut
        cases kq with
        | zero => exact absurd HA.out (by simp [windhoverlaw17_awake.j0])
        | succ kj5 =>
          have H := HA.out
          clear HA
          simp only [windhoverlaw17_awake.j0] at H
          by_cases c12 : x24_5 = true
          · subst c12
            have H1 : (none) = some r := by rw [if_pos rfl] at H; exact H
            clear H
            have H := H1
            clear H1
            exact absurd H (by simp)
          · replace c12 := Bool.eq_false_iff.mpr c12
            subst c12
            have H1 : ((control_Steer_Step.f kj5 t346 t347 t348 t349 false 0 30 true 6400000 16000 false 0 0 0 0 0 0 0 0).bind fun bt360 => (if (bt360.1 == 12 && (bt360.2.1 == 12 && (bt360.2.2.1 == 0))) = true then ((control_Steer_Refs.f bt360.2.2.2.1 bt360.2.2.2.2.1 bt360.2.2.2.2.2.1 bt360.2.2.2.2.2.2).bind fun bt368 => (if (bt368.1 == 12 && (bt368.2.1 == 12 && (bt368.2.2.1 == 0))) = true then ((control_Law.f kj5 (-64000) 10000 12).bind fun t375 => (if t375 = (-876) then ((control_Twist.f kj5 640 0 800).bind fun t376 => (some (t376 == (-2)))) else (none))) else (none))) else (none))) = some r := by rw [if_neg (show ¬ (false = true) by decide)] at H; exact H
            clear H
            have H := H1
            clear H1
            replace H := Option.bind_eq_some_iff.mp H
            obtain ⟨⟨t360, t361, t362, t363, t364, t365, t366⟩, A130, H⟩ := H
            replace H : (if (t360 == 12 && (t361 == 12 && (t362 == 0))) = true then ((control_Steer_Refs.f t363 t364 t365 t366).bind fun bt368 => (if (bt368.1 == 12 && (bt368.2.1 == 12 && (bt368.2.2.1 == 0))) = true then ((control_Law.f kj5 (-64000) 10000 12).bind fun t375 => (if t375 = (-876) then ((control_Twist.f kj5 640 0 800).bind fun t376 => (some (t376 == (-2)))) else (none))) else (none))) else (none)) = some r := H
            have A13 := Aside0.mk A130
            clear A130
            by_cases c14 : (t360 == 12 && (t361 == 12 && (t362 == 0))) = true
            · rw [if_pos c14] at H
              have c14b0 : (t360 == 12 && (t361 == 12 && (t362 == 0))) = true := c14
              (try (have c14b1 : decide (t360 = 12 && (t361 == 12 && (t362 == 0))) = true := by simpa using c14))
              (try (have c14b2 : (t360 == 12 && (t361 == 12 && (t362 == 0))) = true := by simpa using c14))
              clear c14
              replace H := Option.bind_eq_some_iff.mp H
              obtain ⟨⟨t368, t369, t370, t371, t372, t373, t374⟩, A150, H⟩ := H
              replace H : (if (t368 == 12 && (t369 == 12 && (t370 == 0))) = true then ((control_Law.f kj5 (-64000) 10000 12).bind fun t375 => (if t375 = (-876) then ((control_Twist.f kj5 640 0 800).bind fun t376 => (some (t376 == (-2)))) else (none))) else (none)) = some r := H
              have A15 := Aside0.mk A150
              clear A150
              obtain ⟨E0_, E1_, E2_, E3_⟩ := control_Steer_Refs.same A15.out
              subst E0_
              subst E1_
              subst E2_
              subst E3_
              by_cases c16 : (t368 == 12 && (t369 == 12 && (t370 == 0))) = true
              · rw [if_pos c16] at H
                have c16b0 : (t368 == 12 && (t369 == 12 && (t370 == 0))) = true := c16
                (try (have c16b1 : decide (t368 = 12 && (t369 == 12 && (t370 == 0))) = true := by simpa using c16))
                (try (have c16b2 : (t368 == 12 && (t369 == 12 && (t370 == 0))) = true := by simpa using c16))
                clear c16
                replace H := Option.bind_eq_some_iff.mp H
                obtain ⟨t375, A170, H⟩ := H
                replace H : (if t375 = (-876) then ((control_Twist.f kj5 640 0 800).bind fun t376 => (some (t376 == (-2)))) else (none)) = some r := H
                have A17 := Aside0.mk A170
                clear A170
                by_cases c18 : t375 = (-876)
                · rw [if_pos c18] at H
                  have c18b0 : (t375 == (-876)) = true := beq_iff_eq.mpr c18
                  have c18b1 : (t375 != (-876)) = false := bne_eq_false_iff_eq.mpr c18
                  clear c18
                  replace H := Option.bind_eq_some_iff.mp H
                  obtain ⟨t376, A190, H⟩ := H
                  replace H : (some (t376 == (-2))) = some r := H
                  have A19 := Aside0.mk A190
                  clear A190
                  obtain rfl := Option.some.inj H
                  go_wp2_with (first | ((with_reducible refine gate_callee (f := 20) rfl ?_); refine goesL_ (some 32) rfl rfl Try.func20 (by kernel_rfl) rfl #[.pointer (some ⟨g350, 0, none⟩), .agg #[.bool false, .int .i64 0, .int .i64 30, .bool true, .int .i64 6400000, .int .i64 16000, .bool false, .int .i64 0, .int .i64 0], .agg #[.int .i64 0, .int .i64 0, .int .i64 0], .agg #[.int .i64 0, .int .i64 0, .int .i64 0]] rfl (by (try simp only [List.map_toArray, List.map_cons, List.map_nil]); first | done | rfl | (simp only [List.length_drop, List.length_take]; rfl)) ?_; (with_reducible refine (control_Steer_Step.calls kj5 g350 t346 t347 t348 t349 false 0 30 true 6400000 16000 false 0 0 0 0 0 0 0 0 t360 t361 t362 t363 t364 t365 t366 w _ ?side1 ?side2 A13.out).mono ?_); (case side1 => repeat (first | (with_reducible first | exact HI350.out | apply IsS65.alloc | apply IsS65.drewN | apply IsS65.drew | apply IsS65.set_0 | apply IsS65.set_1 | apply IsS65.set_2 | apply IsS65.set_3) | exact HI350.out)); (case side2 => repeat (first | (with_reducible first | exact HB.out | apply below_alloc | apply pw_below_drewN | apply below_drew1 | refine below_set ?_ (IsS65.ge HI350.out)) | exact HB.out)); rintro e w20 ⟨rfl, hi, hb, hk⟩; refine ⟨_, rfl, ?_⟩; have n0_ := Aside0.mk (hb); have n1_ := Aside0.mk (hi); clear HB; clear HI350; have HB := n0_; have HI350 := n1_; clear n0_ n1_; (try clear hb); (try clear hb2); (try clear hk); (try clear hi)) | ((with_reducible refine gate_dst (N := 5) rfl ?_); refine box_event ?hg (N := 5) ?hd (cs := #[.int .i64 0, .int .i64 0, .int .i64 0]) (t := 37) ?hr ?_; (case hd => rfl); (case hg => rfl); (case hr => first | (go_simp; done) | (go_simp; rfl)); intro gb367 hg w21 hbox hb; have n0_ := Aside0.mk (IsS65.below (by repeat (first | (with_reducible first | exact HI350.out | apply IsS65.alloc | apply IsS65.drewN | apply IsS65.drew | apply IsS65.set_0 | apply IsS65.set_1 | apply IsS65.set_2 | apply IsS65.set_3) | exact HI350.out)) hb); have n1_ := Aside0.mk (below_step (by repeat (first | (with_reducible first | exact HB.out | apply below_alloc | apply pw_below_drewN | apply below_drew1 | refine below_set ?_ (IsS65.ge HI350.out)) | exact HB.out)) hb); have n2_ := Aside0.mk (hbox); have n3_ := Aside0.mk ((by rw [hg]; exact (below_size (by repeat (first | (with_reducible first | exact HB.out | apply below_alloc | apply pw_below_drewN | apply below_drew1 | refine below_set ?_ (IsS65.ge HI350.out)) | exact HB.out))) : w.heap.size ≤ gb367)); have n4_ := Aside0.mk ((by rw [hg]; exact (below_size (by repeat (first | (with_reducible first | exact HB.out | apply below_alloc | apply pw_below_drewN | apply below_drew1 | refine below_set ?_ (IsS65.ge HI350.out)) | exact HB.out))) : w.heap.size ≤ gb367)); have n5_ := Aside0.mk ((by rw [hg]; exact Nat.ne_of_lt (IsS65.lt (show IsS65 w _ g350 t363 t364 t365 t366 from by repeat (first | (with_reducible first | exact HI350.out | apply IsS65.alloc | apply IsS65.drewN | apply IsS65.drew | apply IsS65.set_0 | apply IsS65.set_1 | apply IsS65.set_2 | apply IsS65.set_3) | exact HI350.out))) : g350 ≠ gb367)); have n6_ := Aside0.mk ((by rw [hg]; exact Nat.ne_of_gt (IsS65.lt (show IsS65 w _ g350 t363 t364 t365 t366 from by repeat (first | (with_reducible first | exact HI350.out | apply IsS65.alloc | apply IsS65.drewN | apply IsS65.drew | apply IsS65.set_0 | apply IsS65.set_1 | apply IsS65.set_2 | apply IsS65.set_3) | exact HI350.out))) : gb367 ≠ g350)); clear HI350; clear HB; have HI350 := n0_; have HB := n1_; have BK367 := n2_; have GW367 := n3_; have GE367 := n4_; have NB350_367 := n5_; have NB367_350 := n6_; clear n0_ n1_ n2_ n3_ n4_ n5_ n6_; clear hb hbox hg; have hnb22 := NB367_350.out; have hnc22 := NB350_367.out; have hcz23_0 := blk_cells3 (w := w21) (g := gb367) BK367.out; have hfz23_0 := blk_frozen BK367.out) | (go_at_call 19; (with_reducible refine (control_Steer_Refs.calls g350 t363 t364 t365 t366 t368 t369 t370 t363 t364 t365 t366 w _ ?side1 ?side2 A15.out).mono ?_); (case side1 => repeat (first | (with_reducible first | exact HI350.out | apply IsS65.alloc | apply IsS65.drewN | apply IsS65.drew | apply IsS65.set_0 | apply IsS65.set_1 | apply IsS65.set_2 | apply IsS65.set_3 | refine IsS65.far ?_ NB350_367.out _) | exact HI350.out)); (case side2 => repeat (first | (with_reducible first | exact HB.out | apply below_alloc | apply pw_below_drewN | apply below_drew1 | refine below_set ?_ (IsS65.ge HI350.out) | refine below_set ?_ GE367.out) | exact HB.out)); rintro e w24 ⟨rfl, hi, hb, hk⟩; have n0_ := Aside0.mk (KeepBut.blk hk (g' := gb367) (o := .cells #[.int .i64 t360, .int .i64 t361, .int .i64 t362] 37 (0, 0)) (by (with_reducible repeat (first | refine blk_drewN ?_ _ | refine blk_drew ?_ | refine blk_alloc ?_ _)); refine blk_put (cs := #[.int .i64 t360, .int .i64 t361, .int .i64 0]) ?_ 2 _ rfl; (with_reducible repeat (first | refine blk_drewN ?_ _ | refine blk_drew ?_ | refine blk_alloc ?_ _)); refine blk_put (cs := #[.int .i64 t360, .int .i64 0, .int .i64 0]) ?_ 1 _ rfl; (with_reducible repeat (first | refine blk_drewN ?_ _ | refine blk_drew ?_ | refine blk_alloc ?_ _)); refine blk_put (cs := #[.int .i64 0, .int .i64 0, .int .i64 0]) ?_ 0 _ rfl; (with_reducible repeat (first | refine blk_drewN ?_ _ | refine blk_drew ?_ | refine blk_alloc ?_ _)); exact BK367.out) NB367_350.out (by simp)); have n1_ := Aside0.mk (hb); have n2_ := Aside0.mk (hi); clear BK367; clear HB; clear HI350; have BK367 := n0_; have HB := n1_; have HI350 := n2_; clear n0_ n1_ n2_; (try clear hb); (try clear hb2); (try clear hk); (try clear hi)) | (go_at_call 9; (with_reducible refine (control_Law.calls kj5 (-64000) 10000 12 t375 _ A17.out).mono ?_); rintro e w25 ⟨rfl, hb⟩; have n0_ := Aside0.mk (IsS65.below (by repeat (first | (with_reducible first | exact HI350.out | apply IsS65.alloc | apply IsS65.drewN | apply IsS65.drew | apply IsS65.set_0 | apply IsS65.set_1 | apply IsS65.set_2 | apply IsS65.set_3 | refine IsS65.far ?_ NB350_367.out _) | exact HI350.out)) hb); have n1_ := Aside0.mk (blk_below (g := gb367) (o := .cells #[.int .i64 t360, .int .i64 t361, .int .i64 t362] 37 (0, 0)) (by (with_reducible repeat (first | refine blk_drewN ?_ _ | refine blk_drew ?_ | refine blk_alloc ?_ _)); exact BK367.out) hb); have n2_ := Aside0.mk (below_step (by repeat (first | (with_reducible first | exact HB.out | apply below_alloc | apply pw_below_drewN | apply below_drew1 | refine below_set ?_ (IsS65.ge HI350.out) | refine below_set ?_ GE367.out) | exact HB.out)) hb); clear HI350; clear BK367; clear HB; have HI350 := n0_; have BK367 := n1_; have HB := n2_; clear n0_ n1_ n2_; (try clear hb); (try clear hb2); (try clear hk); (try clear hi)) | (go_at_call 11; (with_reducible refine (control_Twist.calls kj5 640 0 800 t376 _ A19.out).mono ?_); rintro e w26 ⟨rfl, hb⟩; have n0_ := Aside0.mk (IsS65.below (by repeat (first | (with_reducible first | exact HI350.out | apply IsS65.alloc | apply IsS65.drewN | apply IsS65.drew | apply IsS65.set_0 | apply IsS65.set_1 | apply IsS65.set_2 | apply IsS65.set_3 | refine IsS65.far ?_ NB350_367.out _) | exact HI350.out)) hb); have n1_ := Aside0.mk (blk_below (g := gb367) (o := .cells #[.int .i64 t360, .int .i64 t361, .int .i64 t362] 37 (0, 0)) (by (with_reducible repeat (first | refine blk_drewN ?_ _ | refine blk_drew ?_ | refine blk_alloc ?_ _)); exact BK367.out) hb); have n2_ := Aside0.mk (below_step (by repeat (first | (with_reducible first | exact HB.out | apply below_alloc | apply pw_below_drewN | apply below_drew1 | refine below_set ?_ (IsS65.ge HI350.out) | refine below_set ?_ GE367.out) | exact HB.out)) hb); clear HI350; clear BK367; clear HB; have HI350 := n0_; have BK367 := n1_; have HB := n2_; clear n0_ n1_ n2_; (try clear hb); (try clear hb2); (try clear hk); (try clear hi)))
                  go_ret
                  exact ⟨by first | rfl | (simp [errW_none, errW_some] <;> rfl) | (simp [*, errW_none, errW_some] <;> rfl), by repeat (first | (with_reducible first | exact HB.out | apply below_alloc | apply pw_below_drewN | apply below_drew1 | refine below_set ?_ (IsS65.ge HI350.out) | refine below_set ?_ GE367.out) | exact HB.out)⟩
                · rw [if_neg c18] at H
                  exact absurd H (by simp)
              · rw [if_neg c16] at H
                exact absurd H (by simp)
            · rw [if_neg c14] at H
              exact absurd H (by simp)
  · rw [if_neg c3] at H
    have c3b0 : (t351 == 0) = false := beq_eq_false_iff_ne.mpr c3
    have c3b1 : (t351 != 0) = true := bne_iff_ne.mpr c3
    replace H := Option.bind_eq_some_iff.mp H
    obtain ⟨⟨t377, t378, t379, t380, t382⟩, A270, H⟩ := H
    replace H : (if t382 = 0 then (none) else (none)) = some r := H
    have A27 := Aside0.mk A270
    clear A270
    by_cases c28 : t382 = 0
    · rw [if_pos c28] at H
      have c28b0 : (t382 == 0) = true := beq_iff_eq.mpr c28
      have c28b1 : (t382 != 0) = false := bne_eq_false_iff_eq.mpr c28
      clear c28
      exact absurd H (by simp)
    · rw [if_neg c28] at H
      have c28b0 : (t382 == 0) = false := beq_eq_false_iff_ne.mpr c28
      have c28b1 : (t382 != 0) = true := bne_iff_ne.mpr c28
      exact absurd H (by simp)

/-! ### windhoverlaw17_ControlTurns: function 6 -/
mutual
def windhoverlaw17_ControlTurns.j0 : Nat → Int → Int → Bool → Option (Bool)
  | 0, _, _, _ => none
  | k + 1, x0, x1, x13 => if x13 = true then ((windhoverlaw17_awake.f k).bind fun t384 => (some t384)) else (if (Int.tmod x0 1048576) ≥ 524288 then (windhoverlaw17_ControlTurns.j1 k x1 (wrap64 ((Int.tmod x0 1048576) - 1048576))) else (windhoverlaw17_ControlTurns.j1 k x1 (Int.tmod x0 1048576)))
def windhoverlaw17_ControlTurns.j1 : Nat → Int → Int → Option (Bool)
  | 0, _, _ => none
  | k + 1, x1, x5 => if x5 < (-524288) then (windhoverlaw17_ControlTurns.j2 k x1 (wrap64 (x5 + 1048576))) else (windhoverlaw17_ControlTurns.j2 k x1 x5)
def windhoverlaw17_ControlTurns.j2 : Nat → Int → Int → Option (Bool)
  | 0, _, _ => none
  | k + 1, x1, x5 => windhoverlaw17_ControlTurns.l0 k x5 x1 0
def windhoverlaw17_ControlTurns.l0 : Nat → Int → Int → Int → Option (Bool)
  | 0, _, _, _ => none
  | k + 1, x5, x6, x7 => if x7 < 4000 then ((control_Twist.f k x5 x6 800).bind fun t385 => (windhoverlaw17_ControlTurns.l0 k (wrap64 (x5 + (wrap64 (x6 + t385)))) (wrap64 (x6 + t385)) (wrap64 (x7 + 1)))) else (if (Int.tmod x5 1048576) ≥ 524288 then (if (wrap64 ((Int.tmod x5 1048576) - 1048576)) < (-524288) then (if (wrap64 ((wrap64 ((Int.tmod x5 1048576) - 1048576)) + 1048576)) ≥ (-512) then (if (wrap64 ((wrap64 ((Int.tmod x5 1048576) - 1048576)) + 1048576)) ≤ 512 then (if x6 ≥ (-16) then (if x6 ≤ 16 then ((windhoverlaw17_awake.f k).bind fun t386 => (some t386)) else (none)) else (none)) else (none)) else (none)) else (if (wrap64 ((Int.tmod x5 1048576) - 1048576)) ≥ (-512) then (if (wrap64 ((Int.tmod x5 1048576) - 1048576)) ≤ 512 then (if x6 ≥ (-16) then (if x6 ≤ 16 then ((windhoverlaw17_awake.f k).bind fun t387 => (some t387)) else (none)) else (none)) else (none)) else (none))) else (if (Int.tmod x5 1048576) < (-524288) then (if (wrap64 ((Int.tmod x5 1048576) + 1048576)) ≥ (-512) then (if (wrap64 ((Int.tmod x5 1048576) + 1048576)) ≤ 512 then (if x6 ≥ (-16) then (if x6 ≤ 16 then ((windhoverlaw17_awake.f k).bind fun t388 => (some t388)) else (none)) else (none)) else (none)) else (none)) else (if (Int.tmod x5 1048576) ≥ (-512) then (if (Int.tmod x5 1048576) ≤ 512 then (if x6 ≥ (-16) then (if x6 ≤ 16 then ((windhoverlaw17_awake.f k).bind fun t389 => (some t389)) else (none)) else (none)) else (none)) else (none))))
end
def windhoverlaw17_ControlTurns.f (k : Nat) (a0 : Int) (a1 : Int) : Option (Bool) := if a1 < (-800) then (windhoverlaw17_ControlTurns.j0 k a0 a1 true) else (windhoverlaw17_ControlTurns.j0 k a0 a1 (decide (a1 > 800)))
theorem windhoverlaw17_ControlTurns.mono_l : ∀ k, (∀ y0 y1 y2, LeO (windhoverlaw17_ControlTurns.j0 k y0 y1 y2) (windhoverlaw17_ControlTurns.j0 (k + 1) y0 y1 y2)) ∧ (∀ y0 y1, LeO (windhoverlaw17_ControlTurns.j1 k y0 y1) (windhoverlaw17_ControlTurns.j1 (k + 1) y0 y1)) ∧ (∀ y0 y1, LeO (windhoverlaw17_ControlTurns.j2 k y0 y1) (windhoverlaw17_ControlTurns.j2 (k + 1) y0 y1)) ∧ (∀ y0 y1 y2, LeO (windhoverlaw17_ControlTurns.l0 k y0 y1 y2) (windhoverlaw17_ControlTurns.l0 (k + 1) y0 y1 y2))
  | 0 => ⟨fun _ _ _ r h => by simp [windhoverlaw17_ControlTurns.j0] at h, fun _ _ r h => by simp [windhoverlaw17_ControlTurns.j1] at h, fun _ _ r h => by simp [windhoverlaw17_ControlTurns.j2] at h, fun _ _ _ r h => by simp [windhoverlaw17_ControlTurns.l0] at h⟩
  | k + 1 => by
    obtain ⟨ih0, ih1, ih2, ih3⟩ := windhoverlaw17_ControlTurns.mono_l k
    refine ⟨?_, ?_, ?_, ?_⟩
    · intro y0 y1 y2
      unfold windhoverlaw17_ControlTurns.j0
      repeat' first
      | (with_reducible exact ih0 _ _ _)
      | (with_reducible exact ih1 _ _)
      | (with_reducible exact ih2 _ _)
      | (with_reducible exact ih3 _ _ _)
      | (with_reducible exact control_Twist.mono _ _ _ _)
      | (with_reducible exact windhoverlaw17_awake.mono _)
      | (with_reducible exact LeO.refl _)
      | (with_reducible exact LeO.none _)
      | (with_reducible refine LeO.ite ?_ ?_)
      | (with_reducible refine LeO.bind ?_ (fun _ => ?_))
      | exact ih0 _ _ _
      | exact ih1 _ _
      | exact ih2 _ _
      | exact ih3 _ _ _
      | exact control_Twist.mono _ _ _ _
      | exact windhoverlaw17_awake.mono _
      | exact LeO.none _
      | refine LeO.ite ?_ ?_
      | refine LeO.bind ?_ (fun _ => ?_)
    · intro y0 y1
      unfold windhoverlaw17_ControlTurns.j1
      repeat' first
      | (with_reducible exact ih0 _ _ _)
      | (with_reducible exact ih1 _ _)
      | (with_reducible exact ih2 _ _)
      | (with_reducible exact ih3 _ _ _)
      | (with_reducible exact control_Twist.mono _ _ _ _)
      | (with_reducible exact windhoverlaw17_awake.mono _)
      | (with_reducible exact LeO.refl _)
      | (with_reducible exact LeO.none _)
      | (with_reducible refine LeO.ite ?_ ?_)
      | (with_reducible refine LeO.bind ?_ (fun _ => ?_))
      | exact ih0 _ _ _
      | exact ih1 _ _
      | exact ih2 _ _
      | exact ih3 _ _ _
      | exact control_Twist.mono _ _ _ _
      | exact windhoverlaw17_awake.mono _
      | exact LeO.none _
      | refine LeO.ite ?_ ?_
      | refine LeO.bind ?_ (fun _ => ?_)
    · intro y0 y1
      unfold windhoverlaw17_ControlTurns.j2
      repeat' first
      | (with_reducible exact ih0 _ _ _)
      | (with_reducible exact ih1 _ _)
      | (with_reducible exact ih2 _ _)
      | (with_reducible exact ih3 _ _ _)
      | (with_reducible exact control_Twist.mono _ _ _ _)
      | (with_reducible exact windhoverlaw17_awake.mono _)
      | (with_reducible exact LeO.refl _)
      | (with_reducible exact LeO.none _)
      | (with_reducible refine LeO.ite ?_ ?_)
      | (with_reducible refine LeO.bind ?_ (fun _ => ?_))
      | exact ih0 _ _ _
      | exact ih1 _ _
      | exact ih2 _ _
      | exact ih3 _ _ _
      | exact control_Twist.mono _ _ _ _
      | exact windhoverlaw17_awake.mono _
      | exact LeO.none _
      | refine LeO.ite ?_ ?_
      | refine LeO.bind ?_ (fun _ => ?_)
    · intro y0 y1 y2
      unfold windhoverlaw17_ControlTurns.l0
      repeat' first
      | (with_reducible exact ih0 _ _ _)
      | (with_reducible exact ih1 _ _)
      | (with_reducible exact ih2 _ _)
      | (with_reducible exact ih3 _ _ _)
      | (with_reducible exact control_Twist.mono _ _ _ _)
      | (with_reducible exact windhoverlaw17_awake.mono _)
      | (with_reducible exact LeO.refl _)
      | (with_reducible exact LeO.none _)
      | (with_reducible refine LeO.ite ?_ ?_)
      | (with_reducible refine LeO.bind ?_ (fun _ => ?_))
      | exact ih0 _ _ _
      | exact ih1 _ _
      | exact ih2 _ _
      | exact ih3 _ _ _
      | exact control_Twist.mono _ _ _ _
      | exact windhoverlaw17_awake.mono _
      | exact LeO.none _
      | refine LeO.ite ?_ ?_
      | refine LeO.bind ?_ (fun _ => ?_)
theorem windhoverlaw17_ControlTurns.mono : ∀ a0 a1 k, LeO (windhoverlaw17_ControlTurns.f k a0 a1) (windhoverlaw17_ControlTurns.f (k + 1) a0 a1) := by
  intro a0 a1 k
  obtain ⟨ih0, ih1, ih2, ih3⟩ := windhoverlaw17_ControlTurns.mono_l k
  unfold windhoverlaw17_ControlTurns.f
  repeat' first
      | (with_reducible exact ih0 _ _ _)
      | (with_reducible exact ih1 _ _)
      | (with_reducible exact ih2 _ _)
      | (with_reducible exact ih3 _ _ _)
      | (with_reducible exact control_Twist.mono _ _ _ _)
      | (with_reducible exact windhoverlaw17_awake.mono _)
      | (with_reducible exact LeO.refl _)
      | (with_reducible exact LeO.none _)
      | (with_reducible refine LeO.ite ?_ ?_)
      | (with_reducible refine LeO.bind ?_ (fun _ => ?_))
      | exact ih0 _ _ _
      | exact ih1 _ _
      | exact ih2 _ _
      | exact ih3 _ _ _
      | exact control_Twist.mono _ _ _ _
      | exact windhoverlaw17_awake.mono _
      | exact LeO.none _
      | refine LeO.ite ?_ ?_
      | refine LeO.bind ?_ (fun _ => ?_)
set_option maxHeartbeats 8000000 in
set_option maxRecDepth 100000 in
theorem windhoverlaw17_ControlTurns.calls (k : Nat) (a0 : Int) (a1 : Int) (r : Bool) (w : World) (h : windhoverlaw17_ControlTurns.f k a0 a1 = some r) :
    Calls Try.prog 6 #[.int .i64 a0, .int .i64 a1] w fun e w' => e = .returned (.bool r) ∧ Below w.heap.size w w' := by
  have HB := Aside0.mk (Below.refl w.heap.size w)
  have H : (if a1 < (-800) then (windhoverlaw17_ControlTurns.j0 k a0 a1 true) else (windhoverlaw17_ControlTurns.j0 k a0 a1 (decide (a1 > 800)))) = some r := h
  clear h
  have HC3 := Aside0.mk H
  clear H
  go_enter Try.func6, Try.ntmps6
  go_upto_region 1 with (fail)
  go_cut [13] (fun v13 wc => ∃ (kq : Nat) (x13_2 : Bool), v13 = .bool x13_2 ∧ Aside0 (windhoverlaw17_ControlTurns.j0 kq a0 a1 x13_2 = some r) ∧ Aside0 (kq ≤ k) ∧ Aside0 (Below w.heap.size w wc))
  case first =>
    have H := HC3.out
    clear HC3
    by_cases c4 : a1 < (-800)
    · rw [if_pos c4] at H
      have c4b0 : decide (a1 < (-800)) = true := decide_eq_true c4
      clear c4
      (first | rw [c4b0] | (simp only [i64_w, i32_w]; rw [c4b0]) | skip)
      have H' := Aside0.mk H
      clear H
      go_wp2
      go_meet
      case rel => exact ⟨_, (true), (by first | rfl | (simp; done) | (simp [*]; done)), H', ⟨by first | omega | exact Nat.le_refl _⟩, ⟨by repeat (first | (with_reducible first | exact HB.out | apply below_alloc | apply pw_below_drewN | apply below_drew1) | exact HB.out)⟩⟩
    · rw [if_neg c4] at H
      have c4b0 : decide (a1 < (-800)) = false := decide_eq_false c4
      clear c4
      (first | rw [c4b0] | (simp only [i64_w, i32_w]; rw [c4b0]) | skip)
      have H' := Aside0.mk H
      clear H
      go_wp2
      go_meet
      case rel => exact ⟨_, (decide (a1 > 800)), (by first | rfl | (simp; done) | (simp [*]; done)), H', ⟨by first | omega | exact Nat.le_refl _⟩, ⟨by repeat (first | (with_reducible first | exact HB.out | apply below_alloc | apply pw_below_drewN | apply below_drew1) | exact HB.out)⟩⟩
  case rest =>
    clear HC3
    try clear p2
    try clear c4
    try clear c4b0
    obtain ⟨kq, x13_2, rfl, HA, HJ2, HB⟩ := hcut
    cases kq with
    | zero => exact absurd HA.out (by simp [windhoverlaw17_ControlTurns.j0])
    | succ kj2 =>
      have H := HA.out
      clear HA
      simp only [windhoverlaw17_ControlTurns.j0] at H
      by_cases c5 : x13_2 = true
      · subst c5
        have H1 : ((windhoverlaw17_awake.f kj2).bind fun t384 => (some t384)) = some r := by rw [if_pos rfl] at H; exact H
        clear H
        have H := H1
        clear H1
        replace H := Option.bind_eq_some_iff.mp H
        obtain ⟨t384, A60, H⟩ := H
        replace H : (some t384) = some r := H
        have A6 := Aside0.mk A60
        clear A60
        obtain rfl := Option.some.inj H
        go_wp2_with (first | ((with_reducible refine gate_callee (f := 13) rfl ?_); refine goesL_ (some 14) rfl rfl Try.func13 (by kernel_rfl) rfl #[] rfl (by (try simp only [List.map_toArray, List.map_cons, List.map_nil]); first | done | rfl | (simp only [List.length_drop, List.length_take]; rfl)) ?_; (with_reducible refine (windhoverlaw17_awake.calls kj2  t384 _ A6.out).mono ?_); rintro e w7 ⟨rfl, hb⟩; refine ⟨_, rfl, ?_⟩; have n0_ := Aside0.mk (below_step (by repeat (first | (with_reducible first | exact HB.out | apply below_alloc | apply pw_below_drewN | apply below_drew1) | exact HB.out)) hb); clear HB; have HB := n0_; clear n0_; (try clear hb); (try clear hb2); (try clear hk); (try clear hi)))
        go_ret
        exact ⟨by first | rfl | (simp [errW_none, errW_some] <;> rfl) | (simp [*, errW_none, errW_some] <;> rfl), by repeat (first | (with_reducible first | exact HB.out | apply below_alloc | apply pw_below_drewN | apply below_drew1) | exact HB.out)⟩
      · replace c5 := Bool.eq_false_iff.mpr c5
        subst c5
        have H1 : (if (Int.tmod a0 1048576) ≥ 524288 then (windhoverlaw17_ControlTurns.j1 kj2 a1 (wrap64 ((Int.tmod a0 1048576) - 1048576))) else (windhoverlaw17_ControlTurns.j1 kj2 a1 (Int.tmod a0 1048576))) = some r := by rw [if_neg (show ¬ (false = true) by decide)] at H; exact H
        clear H
        have H := H1
        clear H1
        have HC8 := Aside0.mk H
        clear H
        go_upto_if 18 with (fail)
        go_cut [5] (fun v5 wc => ∃ (kq : Nat) (x5_7 : Int), v5 = .int .i64 x5_7 ∧ Aside0 (windhoverlaw17_ControlTurns.j1 kq a1 x5_7 = some r) ∧ Aside0 (kq ≤ kj2) ∧ Aside0 (Below w.heap.size w wc))
        case first =>
          have H := HC8.out
          clear HC8
          by_cases c9 : (Int.tmod a0 1048576) ≥ 524288
          · rw [if_pos c9] at H
            have c9b0 : decide (524288 ≤ (Int.tmod a0 1048576)) = true := decide_eq_true c9
            clear c9
            (first | rw [c9b0] | (simp only [i64_w, i32_w]; rw [c9b0]) | skip)
            have H' := Aside0.mk H
            clear H
            go_wp2
            go_meet
            case rel => exact ⟨_, (wrap64 ((Int.tmod a0 1048576) - 1048576)), (by first | rfl | (simp; done) | (simp [*]; done)), H', ⟨by have := HJ2.out; first | omega | exact Nat.le_refl _⟩, ⟨by repeat (first | (with_reducible first | exact HB.out | apply below_alloc | apply pw_below_drewN | apply below_drew1) | exact HB.out)⟩⟩
          · rw [if_neg c9] at H
            have c9b0 : decide (524288 ≤ (Int.tmod a0 1048576)) = false := decide_eq_false c9
            clear c9
            (first | rw [c9b0] | (simp only [i64_w, i32_w]; rw [c9b0]) | skip)
            have H' := Aside0.mk H
            clear H
            go_wp2
            go_meet
            case rel => exact ⟨_, (Int.tmod a0 1048576), (by first | rfl | (simp; done) | (simp [*]; done)), H', ⟨by have := HJ2.out; first | omega | exact Nat.le_refl _⟩, ⟨by repeat (first | (with_reducible first | exact HB.out | apply below_alloc | apply pw_below_drewN | apply below_drew1) | exact HB.out)⟩⟩
        case rest =>
          clear HC8
          try clear c1
          try clear p2
          try clear c4
          try clear c4b0
          try clear c5
          try clear c6
          try clear p6
          try clear c9
          try clear c9b0
          try clear p2
          obtain ⟨kq, x5_7, rfl, HA, HJ7, HB⟩ := hcut
          cases kq with
          | zero => exact absurd HA.out (by simp [windhoverlaw17_ControlTurns.j1])
          | succ kj7 =>
            have H := HA.out
            clear HA
            simp only [windhoverlaw17_ControlTurns.j1] at H
            have HC10 := Aside0.mk H
            clear H
            go_upto_if 22 with (fail)
            go_cut [5] (fun v5 wc => ∃ (kq : Nat) (x5_9 : Int), v5 = .int .i64 x5_9 ∧ Aside0 (windhoverlaw17_ControlTurns.j2 kq a1 x5_9 = some r) ∧ Aside0 (kq ≤ kj7) ∧ Aside0 (Below w.heap.size w wc))
            case first =>
              have H := HC10.out
              clear HC10
              by_cases c11 : x5_7 < (-524288)
              · rw [if_pos c11] at H
                have c11b0 : decide (x5_7 < (-524288)) = true := decide_eq_true c11
                clear c11
                (first | rw [c11b0] | (simp only [i64_w, i32_w]; rw [c11b0]) | skip)
                have H' := Aside0.mk H
                clear H
                go_wp2
                go_meet
                case rel => exact ⟨_, (wrap64 (x5_7 + 1048576)), (by first | rfl | (simp; done) | (simp [*]; done)), H', ⟨by have := HJ2.out; have := HJ7.out; first | omega | exact Nat.le_refl _⟩, ⟨by repeat (first | (with_reducible first | exact HB.out | apply below_alloc | apply pw_below_drewN | apply below_drew1) | exact HB.out)⟩⟩
              · rw [if_neg c11] at H
                have c11b0 : decide (x5_7 < (-524288)) = false := decide_eq_false c11
                clear c11
                (first | rw [c11b0] | (simp only [i64_w, i32_w]; rw [c11b0]) | skip)
                have H' := Aside0.mk H
                clear H
                go_wp2
                go_meet
                case rel => exact ⟨_, (x5_7), (by first | rfl | (simp; done) | (simp [*]; done)), H', ⟨by have := HJ2.out; have := HJ7.out; first | omega | exact Nat.le_refl _⟩, ⟨by repeat (first | (with_reducible first | exact HB.out | apply below_alloc | apply pw_below_drewN | apply below_drew1) | exact HB.out)⟩⟩
            case rest =>
              clear HC10
              try clear c1
              try clear p2
              try clear c4
              try clear c4b0
              try clear c5
              try clear c6
              try clear p6
              try clear c9
              try clear c9b0
              try clear c11
              try clear c11b0
              try clear p2
              try clear p6
              obtain ⟨kq, x5_9, rfl, HA, HJ9, HB⟩ := hcut
              cases kq with
              | zero => exact absurd HA.out (by simp [windhoverlaw17_ControlTurns.j2])
              | succ kj9 =>
                have H := HA.out
                clear HA
                simp only [windhoverlaw17_ControlTurns.j2] at H
                have H' := Aside0.mk H
                clear H
                go_wp2
                go_loopg [5, 6, 7] kj9 (fun kq v5 v6 v7 w' => ∃ (x5_4 : Int) (x6_4 : Int) (x7_4 : Int), v5 = .int .i64 x5_4 ∧ v6 = .int .i64 x6_4 ∧ v7 = .int .i64 x7_4 ∧ Aside0 (windhoverlaw17_ControlTurns.l0 kq x5_4 x6_4 x7_4 = some r) ∧ Aside0 (kq ≤ kj9) ∧ Aside0 (Below w.heap.size w w'))
                case atStart => exact ⟨(x5_9), (a1), (0), (by first | rfl | (simp; done) | (simp [*]; done)), (by first | rfl | (simp; done) | (simp [*]; done)), (by first | rfl | (simp; done) | (simp [*]; done)), H', ⟨Nat.le_refl _⟩, ⟨by repeat (first | (with_reducible first | exact HB.out | apply below_alloc | apply pw_below_drewN | apply below_drew1) | exact HB.out)⟩⟩
                case round =>
                  clear H'
                  try clear c1
                  try clear p2
                  try clear c4
                  try clear c4b0
                  try clear c5
                  try clear c6
                  try clear p6
                  try clear c9
                  try clear c9b0
                  try clear c11
                  try clear c11b0
                  try clear p2
                  try clear p6
                  obtain ⟨x5_4, x6_4, x7_4, rfl, rfl, rfl, HA, HK4, HB⟩ := hrel
                  cases gk with
                  | zero => exact absurd HA.out (by simp [windhoverlaw17_ControlTurns.l0])
                  | succ k4 =>
                    have H := HA.out
                    clear HA
                    simp only [windhoverlaw17_ControlTurns.l0] at H
                    by_cases c12 : x7_4 < 4000
                    · rw [if_pos c12] at H
                      have c12b0 : decide (x7_4 < 4000) = true := decide_eq_true c12
                      clear c12
                      replace H := Option.bind_eq_some_iff.mp H
                      obtain ⟨t385, A130, H⟩ := H
                      replace H : (windhoverlaw17_ControlTurns.l0 k4 (wrap64 (x5_4 + (wrap64 (x6_4 + t385)))) (wrap64 (x6_4 + t385)) (wrap64 (x7_4 + 1))) = some r := H
                      have A13 := Aside0.mk A130
                      clear A130
                      have H' := Aside0.mk H
                      clear H
                      go_wp2_with (first | ((with_reducible refine gate_callee (f := 11) rfl ?_); refine goesL_ (some 33) rfl rfl Try.func11 (by kernel_rfl) rfl #[.int .i64 x5_4, .int .i64 x6_4, .int .i64 800] rfl (by (try simp only [List.map_toArray, List.map_cons, List.map_nil]); first | done | rfl | (simp only [List.length_drop, List.length_take]; rfl)) ?_; (with_reducible refine (control_Twist.calls k4 x5_4 x6_4 800 t385 _ A13.out).mono ?_); rintro e w14 ⟨rfl, hb⟩; refine ⟨_, rfl, ?_⟩; have n0_ := Aside0.mk (below_step (by repeat (first | (with_reducible first | exact HB.out | apply below_alloc | apply pw_below_drewN | apply below_drew1) | exact HB.out)) hb); clear HB; have HB := n0_; clear n0_; (try clear hb); (try clear hb2); (try clear hk); (try clear hi)))
                      go_roundg k4
                      case measure => have := HJ2.out; have := HJ7.out; have := HJ9.out; have := HK4.out; omega
                      case rel => exact ⟨(wrap64 (x5_4 + (wrap64 (x6_4 + t385)))), (wrap64 (x6_4 + t385)), (wrap64 (x7_4 + 1)), (by first | rfl | (simp; done) | (simp [*]; done)), (by first | rfl | (simp; done) | (simp [*]; done)), (by first | rfl | (simp; done) | (simp [*]; done)), H', ⟨by have := HJ2.out; have := HJ7.out; have := HJ9.out; have := HK4.out; omega⟩, ⟨by repeat (first | (with_reducible first | exact HB.out | apply below_alloc | apply pw_below_drewN | apply below_drew1) | exact HB.out)⟩⟩
                    · rw [if_neg c12] at H
                      have c12b0 : decide (x7_4 < 4000) = false := decide_eq_false c12
                      clear c12
                      by_cases c15 : (Int.tmod x5_4 1048576) ≥ 524288
                      · rw [if_pos c15] at H
                        have c15b0 : decide (524288 ≤ (Int.tmod x5_4 1048576)) = true := decide_eq_true c15
                        clear c15
                        by_cases c16 : (wrap64 ((Int.tmod x5_4 1048576) - 1048576)) < (-524288)
                        · rw [if_pos c16] at H
                          have c16b0 : decide ((wrap64 ((Int.tmod x5_4 1048576) - 1048576)) < (-524288)) = true := decide_eq_true c16
                          clear c16
                          by_cases c17 : (wrap64 ((wrap64 ((Int.tmod x5_4 1048576) - 1048576)) + 1048576)) ≥ (-512)
                          · rw [if_pos c17] at H
                            have c17b0 : decide ((-512) ≤ (wrap64 ((wrap64 ((Int.tmod x5_4 1048576) - 1048576)) + 1048576))) = true := decide_eq_true c17
                            clear c17
                            by_cases c18 : (wrap64 ((wrap64 ((Int.tmod x5_4 1048576) - 1048576)) + 1048576)) ≤ 512
                            · rw [if_pos c18] at H
                              have c18b0 : decide ((wrap64 ((wrap64 ((Int.tmod x5_4 1048576) - 1048576)) + 1048576)) ≤ 512) = true := decide_eq_true c18
                              clear c18
                              by_cases c19 : x6_4 ≥ (-16)
                              · rw [if_pos c19] at H
                                have c19b0 : decide ((-16) ≤ x6_4) = true := decide_eq_true c19
                                clear c19
                                by_cases c20 : x6_4 ≤ 16
                                · rw [if_pos c20] at H
                                  have c20b0 : decide (x6_4 ≤ 16) = true := decide_eq_true c20
                                  clear c20
                                  replace H := Option.bind_eq_some_iff.mp H
                                  obtain ⟨t386, A210, H⟩ := H
                                  replace H : (some t386) = some r := H
                                  have A21 := Aside0.mk A210
                                  clear A210
                                  obtain rfl := Option.some.inj H
                                  go_wp2_with (first | (go_at_call 13; (with_reducible refine (windhoverlaw17_awake.calls k4  t386 _ A21.out).mono ?_); rintro e w22 ⟨rfl, hb⟩; have n0_ := Aside0.mk (below_step (by repeat (first | (with_reducible first | exact HB.out | apply below_alloc | apply pw_below_drewN | apply below_drew1) | exact HB.out)) hb); clear HB; have HB := n0_; clear n0_; (try clear hb); (try clear hb2); (try clear hk); (try clear hi)))
                                  go_ret
                                  exact ⟨by first | rfl | (simp [errW_none, errW_some] <;> rfl) | (simp [*, errW_none, errW_some] <;> rfl), by repeat (first | (with_reducible first | exact HB.out | apply below_alloc | apply pw_below_drewN | apply below_drew1) | exact HB.out)⟩
                                · rw [if_neg c20] at H
                                  exact absurd H (by simp)
                              · rw [if_neg c19] at H
                                exact absurd H (by simp)
                            · rw [if_neg c18] at H
                              exact absurd H (by simp)
                          · rw [if_neg c17] at H
                            exact absurd H (by simp)
                        · rw [if_neg c16] at H
                          have c16b0 : decide ((wrap64 ((Int.tmod x5_4 1048576) - 1048576)) < (-524288)) = false := decide_eq_false c16
                          clear c16
                          by_cases c23 : (wrap64 ((Int.tmod x5_4 1048576) - 1048576)) ≥ (-512)
                          · rw [if_pos c23] at H
                            have c23b0 : decide ((-512) ≤ (wrap64 ((Int.tmod x5_4 1048576) - 1048576))) = true := decide_eq_true c23
                            clear c23
                            by_cases c24 : (wrap64 ((Int.tmod x5_4 1048576) - 1048576)) ≤ 512
                            · rw [if_pos c24] at H
                              have c24b0 : decide ((wrap64 ((Int.tmod x5_4 1048576) - 1048576)) ≤ 512) = true := decide_eq_true c24
                              clear c24
                              by_cases c25 : x6_4 ≥ (-16)
                              · rw [if_pos c25] at H
                                have c25b0 : decide ((-16) ≤ x6_4) = true := decide_eq_true c25
                                clear c25
                                by_cases c26 : x6_4 ≤ 16
                                · rw [if_pos c26] at H
                                  have c26b0 : decide (x6_4 ≤ 16) = true := decide_eq_true c26
                                  clear c26
                                  replace H := Option.bind_eq_some_iff.mp H
                                  obtain ⟨t387, A270, H⟩ := H
                                  replace H : (some t387) = some r := H
                                  have A27 := Aside0.mk A270
                                  clear A270
                                  obtain rfl := Option.some.inj H
                                  go_wp2_with (first | (go_at_call 13; (with_reducible refine (windhoverlaw17_awake.calls k4  t387 _ A27.out).mono ?_); rintro e w28 ⟨rfl, hb⟩; have n0_ := Aside0.mk (below_step (by repeat (first | (with_reducible first | exact HB.out | apply below_alloc | apply pw_below_drewN | apply below_drew1) | exact HB.out)) hb); clear HB; have HB := n0_; clear n0_; (try clear hb); (try clear hb2); (try clear hk); (try clear hi)))
                                  go_ret
                                  exact ⟨by first | rfl | (simp [errW_none, errW_some] <;> rfl) | (simp [*, errW_none, errW_some] <;> rfl), by repeat (first | (with_reducible first | exact HB.out | apply below_alloc | apply pw_below_drewN | apply below_drew1) | exact HB.out)⟩
                                · rw [if_neg c26] at H
                                  exact absurd H (by simp)
                              · rw [if_neg c25] at H
                                exact absurd H (by simp)
                            · rw [if_neg c24] at H
                              exact absurd H (by simp)
                          · rw [if_neg c23] at H
                            exact absurd H (by simp)
                      · rw [if_neg c15] at H
                        have c15b0 : decide (524288 ≤ (Int.tmod x5_4 1048576)) = false := decide_eq_false c15
                        clear c15
                        by_cases c29 : (Int.tmod x5_4 1048576) < (-524288)
                        · rw [if_pos c29] at H
                          have c29b0 : decide ((Int.tmod x5_4 1048576) < (-524288)) = true := decide_eq_true c29
                          clear c29
                          by_cases c30 : (wrap64 ((Int.tmod x5_4 1048576) + 1048576)) ≥ (-512)
                          · rw [if_pos c30] at H
                            have c30b0 : decide ((-512) ≤ (wrap64 ((Int.tmod x5_4 1048576) + 1048576))) = true := decide_eq_true c30
                            clear c30
                            by_cases c31 : (wrap64 ((Int.tmod x5_4 1048576) + 1048576)) ≤ 512
                            · rw [if_pos c31] at H
                              have c31b0 : decide ((wrap64 ((Int.tmod x5_4 1048576) + 1048576)) ≤ 512) = true := decide_eq_true c31
                              clear c31
                              by_cases c32 : x6_4 ≥ (-16)
                              · rw [if_pos c32] at H
                                have c32b0 : decide ((-16) ≤ x6_4) = true := decide_eq_true c32
                                clear c32
                                by_cases c33 : x6_4 ≤ 16
                                · rw [if_pos c33] at H
                                  have c33b0 : decide (x6_4 ≤ 16) = true := decide_eq_true c33
                                  clear c33
                                  replace H := Option.bind_eq_some_iff.mp H
                                  obtain ⟨t388, A340, H⟩ := H
                                  replace H : (some t388) = some r := H
                                  have A34 := Aside0.mk A340
                                  clear A340
                                  obtain rfl := Option.some.inj H
                                  go_wp2_with (first | (go_at_call 13; (with_reducible refine (windhoverlaw17_awake.calls k4  t388 _ A34.out).mono ?_); rintro e w35 ⟨rfl, hb⟩; have n0_ := Aside0.mk (below_step (by repeat (first | (with_reducible first | exact HB.out | apply below_alloc | apply pw_below_drewN | apply below_drew1) | exact HB.out)) hb); clear HB; have HB := n0_; clear n0_; (try clear hb); (try clear hb2); (try clear hk); (try clear hi)))
                                  go_ret
                                  exact ⟨by first | rfl | (simp [errW_none, errW_some] <;> rfl) | (simp [*, errW_none, errW_some] <;> rfl), by repeat (first | (with_reducible first | exact HB.out | apply below_alloc | apply pw_below_drewN | apply below_drew1) | exact HB.out)⟩
                                · rw [if_neg c33] at H
                                  exact absurd H (by simp)
                              · rw [if_neg c32] at H
                                exact absurd H (by simp)
                            · rw [if_neg c31] at H
                              exact absurd H (by simp)
                          · rw [if_neg c30] at H
                            exact absurd H (by simp)
                        · rw [if_neg c29] at H
                          have c29b0 : decide ((Int.tmod x5_4 1048576) < (-524288)) = false := decide_eq_false c29
                          clear c29
                          by_cases c36 : (Int.tmod x5_4 1048576) ≥ (-512)
                          · rw [if_pos c36] at H
                            have c36b0 : decide ((-512) ≤ (Int.tmod x5_4 1048576)) = true := decide_eq_true c36
                            clear c36
                            by_cases c37 : (Int.tmod x5_4 1048576) ≤ 512
                            · rw [if_pos c37] at H
                              have c37b0 : decide ((Int.tmod x5_4 1048576) ≤ 512) = true := decide_eq_true c37
                              clear c37
                              by_cases c38 : x6_4 ≥ (-16)
                              · rw [if_pos c38] at H
                                have c38b0 : decide ((-16) ≤ x6_4) = true := decide_eq_true c38
                                clear c38
                                by_cases c39 : x6_4 ≤ 16
                                · rw [if_pos c39] at H
                                  have c39b0 : decide (x6_4 ≤ 16) = true := decide_eq_true c39
                                  clear c39
                                  replace H := Option.bind_eq_some_iff.mp H
                                  obtain ⟨t389, A400, H⟩ := H
                                  replace H : (some t389) = some r := H
                                  have A40 := Aside0.mk A400
                                  clear A400
                                  obtain rfl := Option.some.inj H
                                  go_wp2_with (first | (go_at_call 13; (with_reducible refine (windhoverlaw17_awake.calls k4  t389 _ A40.out).mono ?_); rintro e w41 ⟨rfl, hb⟩; have n0_ := Aside0.mk (below_step (by repeat (first | (with_reducible first | exact HB.out | apply below_alloc | apply pw_below_drewN | apply below_drew1) | exact HB.out)) hb); clear HB; have HB := n0_; clear n0_; (try clear hb); (try clear hb2); (try clear hk); (try clear hi)))
                                  go_ret
                                  exact ⟨by first | rfl | (simp [errW_none, errW_some] <;> rfl) | (simp [*, errW_none, errW_some] <;> rfl), by repeat (first | (with_reducible first | exact HB.out | apply below_alloc | apply pw_below_drewN | apply below_drew1) | exact HB.out)⟩
                                · rw [if_neg c39] at H
                                  exact absurd H (by simp)
                              · rw [if_neg c38] at H
                                exact absurd H (by simp)
                            · rw [if_neg c37] at H
                              exact absurd H (by simp)
                          · rw [if_neg c36] at H
                            exact absurd H (by simp)

/-- THE ONE PURE STATEMENT of windhoverlaw17_ControlTurns: yours. -/
def windhoverlaw17_ControlTurns.Pure : Prop := ∀ (a0 : Int) (a1 : Int), (Lit.int .i64 a0).wf = true → (Lit.int .i64 a1).wf = true → ∃ k, windhoverlaw17_ControlTurns.f k a0 a1 = some true
theorem windhoverlaw17_ControlTurns.walk (P : windhoverlaw17_ControlTurns.Pure) (a0 : Int) (a1 : Int) (w : World) (w0 : (Lit.int .i64 a0).wf = true) (w1 : (Lit.int .i64 a1).wf = true) :
    Calls Try.prog 6 #[.int .i64 a0, .int .i64 a1] w fun e w' => e = .returned (.bool true) ∧ Below w.heap.size w w' := by
  obtain ⟨k, h⟩ := P a0 a1 w0 w1
  refine (windhoverlaw17_ControlTurns.calls k a0 a1 true w h).mono ?_
  rintro e w' ⟨rfl, hd⟩
  exact ⟨rfl, hd⟩

end Go.Proofs.Ytbnliflfkljbfaa.PControlTurns
