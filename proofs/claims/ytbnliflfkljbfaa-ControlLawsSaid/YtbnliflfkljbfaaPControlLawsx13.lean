-- WRITTEN BY wip/tools/aprint.py of this claim's repository over the kit's words: not typed by hand
import Derived.Test.YtbnliflfkljbfaaPControlLawsx0
import Derived.Test.YtbnliflfkljbfaaPControlLawsx1
import Derived.Test.YtbnliflfkljbfaaPControlLawsx3
import Derived.Test.YtbnliflfkljbfaaPControlLawsx9
import Derived.Test.YtbnliflfkljbfaaPControlLawsx10
import Derived.Test.YtbnliflfkljbfaaPControlLawsx12
namespace Go.Proofs.Ytbnliflfkljbfaa.PControlLaws
open Go.RowKit Go.Proofs.YtbnliflfkljbfaaW.PrintWords Go.Proofs.YtbnliflfkljbfaaW.PrintLast Go.Proofs.YtbnliflfkljbfaaW.PrintMore
attribute [local go_sem] max2_int min2_int max_two min_two max_three min_three max_four min_four   -- for this text's walks alone
set_option linter.unusedVariables false
set_option linter.unusedSimpArgs false

attribute [local go_sem high] eqA37
/-! ### windhoverlaw17_awake: function 13 -/
def windhoverlaw17_awake.j0 : Nat → Bool → Int → Int → Int → Int → Option (Bool)
  | 0, _, _, _, _, _ => none
  | k + 1, x24, x502000, x502001, x502002, x502003 => if x24 = true then (none) else ((control_Steer_Step.f k x502000 x502001 x502002 x502003 false 0 30 true 6400000 16000 false 0 0 0 0 0 0 0 0).bind fun bt511 => (if (bt511.1 == 12 && (bt511.2.1 == 12 && (bt511.2.2.1 == 0))) = true then ((control_Steer_Refs.f bt511.2.2.2.1 bt511.2.2.2.2.1 bt511.2.2.2.2.2.1 bt511.2.2.2.2.2.2).bind fun bt519 => (if (bt519.1 == 12 && (bt519.2.1 == 12 && (bt519.2.2.1 == 0))) = true then ((control_Law.f k (-64000) 10000 12).bind fun t526 => (if t526 = (-876) then ((control_Twist.f k 640 0 800).bind fun t527 => (some (t527 == (-2)))) else (none))) else (none))) else (none)))
def windhoverlaw17_awake.f (k : Nat)  : Option (Bool) := (params_Defaults.f k).bind fun t494 => ((control_New.f k t494).bind fun bt497 => (if bt497.2.2.2.2 = 0 then ((control_New.f k ([] : List Int)).bind fun bt504 => (if bt504.2.2.2.2 = 0 then (none) else (if bt504.2.2.2.2 = 3 then (windhoverlaw17_awake.j0 k false bt497.1 bt497.2.1 bt497.2.2.1 bt497.2.2.2.1) else (windhoverlaw17_awake.j0 k true bt497.1 bt497.2.1 bt497.2.2.1 bt497.2.2.2.1)))) else ((control_New.f k ([] : List Int)).bind fun bt528 => (if bt528.2.2.2.2 = 0 then (none) else (none)))))
theorem windhoverlaw17_awake.mono_l : ∀ k, (∀ y0 y1 y2 y3 y4, LeO (windhoverlaw17_awake.j0 k y0 y1 y2 y3 y4) (windhoverlaw17_awake.j0 (k + 1) y0 y1 y2 y3 y4))
  | 0 => fun _ _ _ _ _ r h => by simp [windhoverlaw17_awake.j0] at h
  | k + 1 => by
    have ih0 := windhoverlaw17_awake.mono_l k
    · intro y0 y1 y2 y3 y4
      unfold windhoverlaw17_awake.j0
      repeat' first
      | (with_reducible exact ih0 _ _ _ _ _)
      | (with_reducible exact control_Law.mono _ _ _ _)
      | (with_reducible exact control_New.mono _ _)
      | (with_reducible exact control_Steer_Step.mono _ _ _ _ _ _ _ _ _ _ _ _ _ _ _ _ _ _ _ _)
      | (with_reducible exact control_Twist.mono _ _ _ _)
      | (with_reducible exact params_Defaults.mono _)
      | (with_reducible exact LeO.refl _)
      | (with_reducible exact LeO.none _)
      | (with_reducible refine LeO.ite ?_ ?_)
      | (with_reducible refine LeO.bind ?_ (fun _ => ?_))
      | exact ih0 _ _ _ _ _
      | exact control_Law.mono _ _ _ _
      | exact control_New.mono _ _
      | exact control_Steer_Step.mono _ _ _ _ _ _ _ _ _ _ _ _ _ _ _ _ _ _ _ _
      | exact control_Twist.mono _ _ _ _
      | exact params_Defaults.mono _
      | exact LeO.none _
      | refine LeO.ite ?_ ?_
      | refine LeO.bind ?_ (fun _ => ?_)
theorem windhoverlaw17_awake.mono : ∀ k, LeO (windhoverlaw17_awake.f k ) (windhoverlaw17_awake.f (k + 1) ) := by
  intro  k
  have ih0 := windhoverlaw17_awake.mono_l k
  unfold windhoverlaw17_awake.f
  repeat' first
      | (with_reducible exact ih0 _ _ _ _ _)
      | (with_reducible exact control_Law.mono _ _ _ _)
      | (with_reducible exact control_New.mono _ _)
      | (with_reducible exact control_Steer_Step.mono _ _ _ _ _ _ _ _ _ _ _ _ _ _ _ _ _ _ _ _)
      | (with_reducible exact control_Twist.mono _ _ _ _)
      | (with_reducible exact params_Defaults.mono _)
      | (with_reducible exact LeO.refl _)
      | (with_reducible exact LeO.none _)
      | (with_reducible refine LeO.ite ?_ ?_)
      | (with_reducible refine LeO.bind ?_ (fun _ => ?_))
      | exact ih0 _ _ _ _ _
      | exact control_Law.mono _ _ _ _
      | exact control_New.mono _ _
      | exact control_Steer_Step.mono _ _ _ _ _ _ _ _ _ _ _ _ _ _ _ _ _ _ _ _
      | exact control_Twist.mono _ _ _ _
      | exact params_Defaults.mono _
      | exact LeO.none _
      | refine LeO.ite ?_ ?_
      | refine LeO.bind ?_ (fun _ => ?_)
set_option maxHeartbeats 8000000 in
set_option maxRecDepth 100000 in
theorem windhoverlaw17_awake.calls (k : Nat)  (r : Bool) (w : World) (h : windhoverlaw17_awake.f k  = some r) :
    Calls Try.prog 13 #[] w fun e w' => e = .returned (.bool r) ∧ Below w.heap.size w w' := by
  have hu41 := Try.underlying41
  have hu42 := Try.underlying42
  have hu37 := Try.underlying37
  have HB := Aside0.mk (Below.refl w.heap.size w)
  have H : ((params_Defaults.f k).bind fun t494 => ((control_New.f k t494).bind fun bt497 => (if bt497.2.2.2.2 = 0 then ((control_New.f k ([] : List Int)).bind fun bt504 => (if bt504.2.2.2.2 = 0 then (none) else (if bt504.2.2.2.2 = 3 then (windhoverlaw17_awake.j0 k false bt497.1 bt497.2.1 bt497.2.2.1 bt497.2.2.2.1) else (windhoverlaw17_awake.j0 k true bt497.1 bt497.2.1 bt497.2.2.1 bt497.2.2.2.1)))) else ((control_New.f k ([] : List Int)).bind fun bt528 => (if bt528.2.2.2.2 = 0 then (none) else (none)))))) = some r := h
  clear h
  replace H := Option.bind_eq_some_iff.mp H
  obtain ⟨t494, A10, H⟩ := H
  replace H : ((control_New.f k t494).bind fun bt497 => (if bt497.2.2.2.2 = 0 then ((control_New.f k ([] : List Int)).bind fun bt504 => (if bt504.2.2.2.2 = 0 then (none) else (if bt504.2.2.2.2 = 3 then (windhoverlaw17_awake.j0 k false bt497.1 bt497.2.1 bt497.2.2.1 bt497.2.2.2.1) else (windhoverlaw17_awake.j0 k true bt497.1 bt497.2.1 bt497.2.2.1 bt497.2.2.2.1)))) else ((control_New.f k ([] : List Int)).bind fun bt528 => (if bt528.2.2.2.2 = 0 then (none) else (none))))) = some r := H
  have A1 := Aside0.mk A10
  clear A10
  replace H := Option.bind_eq_some_iff.mp H
  obtain ⟨⟨t497, t498, t499, t500, t502⟩, A20, H⟩ := H
  replace H : (if t502 = 0 then ((control_New.f k ([] : List Int)).bind fun bt504 => (if bt504.2.2.2.2 = 0 then (none) else (if bt504.2.2.2.2 = 3 then (windhoverlaw17_awake.j0 k false t497 t498 t499 t500) else (windhoverlaw17_awake.j0 k true t497 t498 t499 t500)))) else ((control_New.f k ([] : List Int)).bind fun bt528 => (if bt528.2.2.2.2 = 0 then (none) else (none)))) = some r := H
  have A2 := Aside0.mk A20
  clear A20
  by_cases c3 : t502 = 0
  · rw [if_pos c3] at H
    have c3b0 : (t502 == 0) = true := beq_iff_eq.mpr c3
    have c3b1 : (t502 != 0) = false := bne_eq_false_iff_eq.mpr c3
    clear c3
    replace H := Option.bind_eq_some_iff.mp H
    obtain ⟨⟨t504, t505, t506, t507, t509⟩, A40, H⟩ := H
    replace H : (if t509 = 0 then (none) else (if t509 = 3 then (windhoverlaw17_awake.j0 k false t497 t498 t499 t500) else (windhoverlaw17_awake.j0 k true t497 t498 t499 t500))) = some r := H
    have A4 := Aside0.mk A40
    clear A40
    by_cases c5 : t509 = 0
    · rw [if_pos c5] at H
      exact absurd H (by simp)
    · rw [if_neg c5] at H
      have c5b0 : (t509 == 0) = false := beq_eq_false_iff_ne.mpr c5
      have c5b1 : (t509 != 0) = true := bne_iff_ne.mpr c5
      have HC6 := Aside0.mk H
      clear H
      go_enter Try.func13, Try.ntmps13
      go_upto_region 3 with (first | ((with_reducible refine gate_callee (f := 17) rfl ?_); refine goesL_ (some 7) rfl rfl Try.func17 (by kernel_rfl) rfl #[] rfl (by (try simp only [List.map_toArray, List.map_cons, List.map_nil]); first | done | rfl | (simp only [List.length_drop, List.length_take]; rfl)) ?_; (with_reducible refine (params_Defaults.calls k  t494 _ A1.out).mono ?_); rintro e w7 ⟨v495, rfl, ho0, hb⟩; refine ⟨_, rfl, ?_⟩; have n0_ := Aside0.mk (Kd.R_lower ho0 (below_size (by repeat (first | (with_reducible first | exact HB.out | apply below_alloc | apply pw_below_drewN | apply below_drew1) | exact HB.out)))); have n1_ := Aside0.mk (below_step (by repeat (first | (with_reducible first | exact HB.out | apply below_alloc | apply pw_below_drewN | apply below_drew1) | exact HB.out)) hb); clear HB; have HO496 := n0_; have HB := n1_; clear n0_ n1_; (try clear hb); (try clear hb2); (try clear hk); (try clear hi); (try clear ho0); obtain ⟨Ao8, co8, eo8⟩ := Kd.R_slice HO496.out; subst eo8) | ((with_reducible refine gate_callee (f := 16) rfl ?_); refine goesL_ (some 8) rfl rfl Try.func16 (by kernel_rfl) rfl #[.slice Ao8 t494.length co8] rfl (by (try simp only [List.map_toArray, List.map_cons, List.map_nil]); first | done | rfl | (simp only [List.length_drop, List.length_take]; rfl)) ?_; (with_reducible refine (control_New.callsNew k _ _ t494 t497 t498 t499 t500 t502 w _ ?side1 ?side2 ?side3 A2.out (by assumption)).mono ?_); (case side1 => repeat (first | (with_reducible first | exact HB.out | apply below_alloc | apply pw_below_drewN | apply below_drew1) | exact HB.out)); (case side2 => repeat (first | exact (Kd.R_reads' HO496.out).2.2 | (with_reducible refine Kd.C_alloc ?_ _) | (with_reducible refine Kd.C_drewN ?_ _) | (with_reducible refine Kd.C_drew ?_))); (case side3 => exact (Kd.R_reads' HO496.out).2.1); rintro e w9 ⟨g501, rfl, hi, hb, hb2⟩; refine ⟨_, rfl, ?_⟩; have n0_ := Aside0.mk (Kd.R_below (by (with_reducible repeat (first | apply Kd.R_alloc | apply Kd.R_drewN | apply Kd.R_drew)); exact HO496.out) hb2); have n1_ := Aside0.mk (hb); have n2_ := Aside0.mk (hi); clear HO496; clear HB; have HO496 := n0_; have HB := n1_; have HI501 := n2_; clear n0_ n1_ n2_; (try clear hb); (try clear hb2); (try clear hk); (try clear hi)) | ((with_reducible refine gate_callee (f := 16) rfl ?_); refine goesL_ (some 12) rfl rfl Try.func16 (by kernel_rfl) rfl #[.slice none 0 0] rfl (by (try simp only [List.map_toArray, List.map_cons, List.map_nil]); first | done | rfl | (simp only [List.length_drop, List.length_take]; rfl)) ?_; (refine (control_New.callsNil k _ _ ([] : List Int) t504 t505 t506 t507 t509 _ ?side1 ?side2 A4.out (by assumption)).mono ?_); (case side1 => exact Kd.C_nil _ _); (case side2 => exact Nat.le_refl _); rintro e w10 ⟨rfl, hb⟩; refine ⟨_, rfl, ?_⟩; have n0_ := Aside0.mk (Kd.R_below (by (with_reducible repeat (first | apply Kd.R_alloc | apply Kd.R_drewN | apply Kd.R_drew)); exact HO496.out) hb); have n1_ := Aside0.mk (IsS65.below (by repeat (first | (with_reducible first | exact HI501.out | apply IsS65.alloc | apply IsS65.drewN | apply IsS65.drew | apply IsS65.set_0 | apply IsS65.set_1 | apply IsS65.set_2 | apply IsS65.set_3) | exact HI501.out)) hb); have n2_ := Aside0.mk (below_step (by repeat (first | (with_reducible first | exact HB.out | apply below_alloc | apply pw_below_drewN | apply below_drew1 | refine below_set ?_ (IsS65.ge HI501.out)) | exact HB.out)) hb); clear HO496; clear HI501; clear HB; have HO496 := n0_; have HI501 := n1_; have HB := n2_; clear n0_ n1_ n2_; (try clear hb); (try clear hb2); (try clear hk); (try clear hi)))
      (try simp only [Act.put, List.setIfInBounds_toArray, List.set_cons_zero, List.set_cons_succ])
      go_cut [24] (fun v24 wc => ∃ (kq : Nat) (x24_5 : Bool), v24 = .bool x24_5 ∧ Aside0 (windhoverlaw17_awake.j0 kq x24_5 t497 t498 t499 t500 = some r) ∧ Aside0 (kq ≤ k) ∧ Aside0 (IsS65 w wc g501 t497 t498 t499 t500) ∧ Aside0 (Below w.heap.size w wc))
      case first =>
        have H := HC6.out
        clear HC6
        by_cases c11 : t509 = 3
        · rw [if_pos c11] at H
          have c11b0 : (t509 == 3) = true := beq_iff_eq.mpr c11
          have c11b1 : (t509 != 3) = false := bne_eq_false_iff_eq.mpr c11
          clear c11
          (first | rw [c11b0] | (simp only [i64_w, i32_w]; rw [c11b0]) | skip)
          have H' := Aside0.mk H
          clear H
          go_wp2
          go_meet
          case rel => exact ⟨_, (false), (by first | rfl | (simp; done) | (simp [*]; done)), H', ⟨by first | omega | exact Nat.le_refl _⟩, ⟨by repeat (first | (with_reducible first | exact HI501.out | apply IsS65.alloc | apply IsS65.drewN | apply IsS65.drew | apply IsS65.set_0 | apply IsS65.set_1 | apply IsS65.set_2 | apply IsS65.set_3) | exact HI501.out)⟩, ⟨by repeat (first | (with_reducible first | exact HB.out | apply below_alloc | apply pw_below_drewN | apply below_drew1 | refine below_set ?_ (IsS65.ge HI501.out)) | exact HB.out)⟩⟩
        · rw [if_neg c11] at H
          have c11b0 : (t509 == 3) = false := beq_eq_false_iff_ne.mpr c11
          have c11b1 : (t509 != 3) = true := bne_iff_ne.mpr c11
          (first | rw [c11b0] | (simp only [i64_w, i32_w]; rw [c11b0]) | skip)
          have H' := Aside0.mk H
          clear H
          go_wp2
          go_meet
          case rel => exact ⟨_, (true), (by first | rfl | (simp; done) | (simp [*]; done)), H', ⟨by first | omega | exact Nat.le_refl _⟩, ⟨by repeat (first | (with_reducible first | exact HI501.out | apply IsS65.alloc | apply IsS65.drewN | apply IsS65.drew | apply IsS65.set_0 | apply IsS65.set_1 | apply IsS65.set_2 | apply IsS65.set_3) | exact HI501.out)⟩, ⟨by repeat (first | (with_reducible first | exact HB.out | apply below_alloc | apply pw_below_drewN | apply below_drew1 | refine below_set ?_ (IsS65.ge HI501.out)) | exact HB.out)⟩⟩
      case rest =>
        clear HC6
        try clear c1
        try clear p2
        try clear c3
        try clear c3b0
        try clear c3b1
        try clear c5
        try clear c5b0
        try clear c5b1
        try clear c11
        try clear c11b0
        try clear c11b1
        obtain ⟨kq, x24_5, rfl, HA, HJ5, HI501, HB⟩ := hcut
        cases kq with
        | zero => exact absurd HA.out (by simp [windhoverlaw17_awake.j0])
        | succ kj5 =>
          have H := HA.out
          clear HA
          simp only [windhoverlaw17_awake.j0] at H
          by_cases c12 : x24_5 = true
          · subst c12
            have H1 : (none) = some r := by rw [if_pos rfl] at H; exact H
            clear H
            have H := H1
            clear H1
            exact absurd H (by simp)
          · replace c12 := Bool.eq_false_iff.mpr c12
            subst c12
            have H1 : ((control_Steer_Step.f kj5 t497 t498 t499 t500 false 0 30 true 6400000 16000 false 0 0 0 0 0 0 0 0).bind fun bt511 => (if (bt511.1 == 12 && (bt511.2.1 == 12 && (bt511.2.2.1 == 0))) = true then ((control_Steer_Refs.f bt511.2.2.2.1 bt511.2.2.2.2.1 bt511.2.2.2.2.2.1 bt511.2.2.2.2.2.2).bind fun bt519 => (if (bt519.1 == 12 && (bt519.2.1 == 12 && (bt519.2.2.1 == 0))) = true then ((control_Law.f kj5 (-64000) 10000 12).bind fun t526 => (if t526 = (-876) then ((control_Twist.f kj5 640 0 800).bind fun t527 => (some (t527 == (-2)))) else (none))) else (none))) else (none))) = some r := by rw [if_neg (show ¬ (false = true) by decide)] at H; exact H
            clear H
            have H := H1
            clear H1
            replace H := Option.bind_eq_some_iff.mp H
            obtain ⟨⟨t511, t512, t513, t514, t515, t516, t517⟩, A130, H⟩ := H
            replace H : (if (t511 == 12 && (t512 == 12 && (t513 == 0))) = true then ((control_Steer_Refs.f t514 t515 t516 t517).bind fun bt519 => (if (bt519.1 == 12 && (bt519.2.1 == 12 && (bt519.2.2.1 == 0))) = true then ((control_Law.f kj5 (-64000) 10000 12).bind fun t526 => (if t526 = (-876) then ((control_Twist.f kj5 640 0 800).bind fun t527 => (some (t527 == (-2)))) else (none))) else (none))) else (none)) = some r := H
            have A13 := Aside0.mk A130
            clear A130
            by_cases c14 : (t511 == 12 && (t512 == 12 && (t513 == 0))) = true
            · rw [if_pos c14] at H
              have c14b0 : (t511 == 12 && (t512 == 12 && (t513 == 0))) = true := c14
              (try (have c14b1 : decide (t511 = 12 && (t512 == 12 && (t513 == 0))) = true := by simpa using c14))
              (try (have c14b2 : (t511 == 12 && (t512 == 12 && (t513 == 0))) = true := by simpa using c14))
              clear c14
              replace H := Option.bind_eq_some_iff.mp H
              obtain ⟨⟨t519, t520, t521, t522, t523, t524, t525⟩, A150, H⟩ := H
              replace H : (if (t519 == 12 && (t520 == 12 && (t521 == 0))) = true then ((control_Law.f kj5 (-64000) 10000 12).bind fun t526 => (if t526 = (-876) then ((control_Twist.f kj5 640 0 800).bind fun t527 => (some (t527 == (-2)))) else (none))) else (none)) = some r := H
              have A15 := Aside0.mk A150
              clear A150
              obtain ⟨E0_, E1_, E2_, E3_⟩ := control_Steer_Refs.same A15.out
              subst E0_
              subst E1_
              subst E2_
              subst E3_
              by_cases c16 : (t519 == 12 && (t520 == 12 && (t521 == 0))) = true
              · rw [if_pos c16] at H
                have c16b0 : (t519 == 12 && (t520 == 12 && (t521 == 0))) = true := c16
                (try (have c16b1 : decide (t519 = 12 && (t520 == 12 && (t521 == 0))) = true := by simpa using c16))
                (try (have c16b2 : (t519 == 12 && (t520 == 12 && (t521 == 0))) = true := by simpa using c16))
                clear c16
                replace H := Option.bind_eq_some_iff.mp H
                obtain ⟨t526, A170, H⟩ := H
                replace H : (if t526 = (-876) then ((control_Twist.f kj5 640 0 800).bind fun t527 => (some (t527 == (-2)))) else (none)) = some r := H
                have A17 := Aside0.mk A170
                clear A170
                by_cases c18 : t526 = (-876)
                · rw [if_pos c18] at H
                  have c18b0 : (t526 == (-876)) = true := beq_iff_eq.mpr c18
                  have c18b1 : (t526 != (-876)) = false := bne_eq_false_iff_eq.mpr c18
                  clear c18
                  replace H := Option.bind_eq_some_iff.mp H
                  obtain ⟨t527, A190, H⟩ := H
                  replace H : (some (t527 == (-2))) = some r := H
                  have A19 := Aside0.mk A190
                  clear A190
                  obtain rfl := Option.some.inj H
                  go_wp2_with (first | ((with_reducible refine gate_callee (f := 20) rfl ?_); refine goesL_ (some 32) rfl rfl Try.func20 (by kernel_rfl) rfl #[.pointer (some ⟨g501, 0, none⟩), .agg #[.bool false, .int .i64 0, .int .i64 30, .bool true, .int .i64 6400000, .int .i64 16000, .bool false, .int .i64 0, .int .i64 0], .agg #[.int .i64 0, .int .i64 0, .int .i64 0], .agg #[.int .i64 0, .int .i64 0, .int .i64 0]] rfl (by (try simp only [List.map_toArray, List.map_cons, List.map_nil]); first | done | rfl | (simp only [List.length_drop, List.length_take]; rfl)) ?_; (with_reducible refine (control_Steer_Step.calls kj5 g501 t497 t498 t499 t500 false 0 30 true 6400000 16000 false 0 0 0 0 0 0 0 0 t511 t512 t513 t514 t515 t516 t517 w _ ?side1 ?side2 A13.out).mono ?_); (case side1 => repeat (first | (with_reducible first | exact HI501.out | apply IsS65.alloc | apply IsS65.drewN | apply IsS65.drew | apply IsS65.set_0 | apply IsS65.set_1 | apply IsS65.set_2 | apply IsS65.set_3) | exact HI501.out)); (case side2 => repeat (first | (with_reducible first | exact HB.out | apply below_alloc | apply pw_below_drewN | apply below_drew1 | refine below_set ?_ (IsS65.ge HI501.out)) | exact HB.out)); rintro e w20 ⟨rfl, hi, hb, hk⟩; refine ⟨_, rfl, ?_⟩; have n0_ := Aside0.mk (hb); have n1_ := Aside0.mk (hi); clear HB; clear HI501; have HB := n0_; have HI501 := n1_; clear n0_ n1_; (try clear hb); (try clear hb2); (try clear hk); (try clear hi)) | ((with_reducible refine gate_dst (N := 5) rfl ?_); refine box_event ?hg (N := 5) ?hd (cs := #[.int .i64 0, .int .i64 0, .int .i64 0]) (t := 37) ?hr ?_; (case hd => rfl); (case hg => rfl); (case hr => first | (go_simp; done) | (go_simp; rfl)); intro gb518 hg w21 hbox hb; have n0_ := Aside0.mk (IsS65.below (by repeat (first | (with_reducible first | exact HI501.out | apply IsS65.alloc | apply IsS65.drewN | apply IsS65.drew | apply IsS65.set_0 | apply IsS65.set_1 | apply IsS65.set_2 | apply IsS65.set_3) | exact HI501.out)) hb); have n1_ := Aside0.mk (below_step (by repeat (first | (with_reducible first | exact HB.out | apply below_alloc | apply pw_below_drewN | apply below_drew1 | refine below_set ?_ (IsS65.ge HI501.out)) | exact HB.out)) hb); have n2_ := Aside0.mk (hbox); have n3_ := Aside0.mk ((by rw [hg]; exact (below_size (by repeat (first | (with_reducible first | exact HB.out | apply below_alloc | apply pw_below_drewN | apply below_drew1 | refine below_set ?_ (IsS65.ge HI501.out)) | exact HB.out))) : w.heap.size ≤ gb518)); have n4_ := Aside0.mk ((by rw [hg]; exact (below_size (by repeat (first | (with_reducible first | exact HB.out | apply below_alloc | apply pw_below_drewN | apply below_drew1 | refine below_set ?_ (IsS65.ge HI501.out)) | exact HB.out))) : w.heap.size ≤ gb518)); have n5_ := Aside0.mk ((by rw [hg]; exact Nat.ne_of_lt (IsS65.lt (show IsS65 w _ g501 t514 t515 t516 t517 from by repeat (first | (with_reducible first | exact HI501.out | apply IsS65.alloc | apply IsS65.drewN | apply IsS65.drew | apply IsS65.set_0 | apply IsS65.set_1 | apply IsS65.set_2 | apply IsS65.set_3) | exact HI501.out))) : g501 ≠ gb518)); have n6_ := Aside0.mk ((by rw [hg]; exact Nat.ne_of_gt (IsS65.lt (show IsS65 w _ g501 t514 t515 t516 t517 from by repeat (first | (with_reducible first | exact HI501.out | apply IsS65.alloc | apply IsS65.drewN | apply IsS65.drew | apply IsS65.set_0 | apply IsS65.set_1 | apply IsS65.set_2 | apply IsS65.set_3) | exact HI501.out))) : gb518 ≠ g501)); clear HI501; clear HB; have HI501 := n0_; have HB := n1_; have BK518 := n2_; have GW518 := n3_; have GE518 := n4_; have NB501_518 := n5_; have NB518_501 := n6_; clear n0_ n1_ n2_ n3_ n4_ n5_ n6_; clear hb hbox hg; have hnb22 := NB518_501.out; have hnc22 := NB501_518.out; have hcz23_0 := blk_cells3 (w := w21) (g := gb518) BK518.out; have hfz23_0 := blk_frozen BK518.out) | (go_at_call 19; (with_reducible refine (control_Steer_Refs.calls g501 t514 t515 t516 t517 t519 t520 t521 t514 t515 t516 t517 w _ ?side1 ?side2 A15.out).mono ?_); (case side1 => repeat (first | (with_reducible first | exact HI501.out | apply IsS65.alloc | apply IsS65.drewN | apply IsS65.drew | apply IsS65.set_0 | apply IsS65.set_1 | apply IsS65.set_2 | apply IsS65.set_3 | refine IsS65.far ?_ NB501_518.out _) | exact HI501.out)); (case side2 => repeat (first | (with_reducible first | exact HB.out | apply below_alloc | apply pw_below_drewN | apply below_drew1 | refine below_set ?_ (IsS65.ge HI501.out) | refine below_set ?_ GE518.out) | exact HB.out)); rintro e w24 ⟨rfl, hi, hb, hk⟩; have n0_ := Aside0.mk (KeepBut.blk hk (g' := gb518) (o := .cells #[.int .i64 t511, .int .i64 t512, .int .i64 t513] 37 (0, 0)) (by (with_reducible repeat (first | refine blk_drewN ?_ _ | refine blk_drew ?_ | refine blk_alloc ?_ _)); refine blk_put (cs := #[.int .i64 t511, .int .i64 t512, .int .i64 0]) ?_ 2 _ rfl; (with_reducible repeat (first | refine blk_drewN ?_ _ | refine blk_drew ?_ | refine blk_alloc ?_ _)); refine blk_put (cs := #[.int .i64 t511, .int .i64 0, .int .i64 0]) ?_ 1 _ rfl; (with_reducible repeat (first | refine blk_drewN ?_ _ | refine blk_drew ?_ | refine blk_alloc ?_ _)); refine blk_put (cs := #[.int .i64 0, .int .i64 0, .int .i64 0]) ?_ 0 _ rfl; (with_reducible repeat (first | refine blk_drewN ?_ _ | refine blk_drew ?_ | refine blk_alloc ?_ _)); exact BK518.out) NB518_501.out (by simp)); have n1_ := Aside0.mk (hb); have n2_ := Aside0.mk (hi); clear BK518; clear HB; clear HI501; have BK518 := n0_; have HB := n1_; have HI501 := n2_; clear n0_ n1_ n2_; (try clear hb); (try clear hb2); (try clear hk); (try clear hi)) | (go_at_call 9; (with_reducible refine (control_Law.calls kj5 (-64000) 10000 12 t526 _ A17.out).mono ?_); rintro e w25 ⟨rfl, hb⟩; have n0_ := Aside0.mk (IsS65.below (by repeat (first | (with_reducible first | exact HI501.out | apply IsS65.alloc | apply IsS65.drewN | apply IsS65.drew | apply IsS65.set_0 | apply IsS65.set_1 | apply IsS65.set_2 | apply IsS65.set_3 | refine IsS65.far ?_ NB501_518.out _) | exact HI501.out)) hb); have n1_ := Aside0.mk (blk_below (g := gb518) (o := .cells #[.int .i64 t511, .int .i64 t512, .int .i64 t513] 37 (0, 0)) (by (with_reducible repeat (first | refine blk_drewN ?_ _ | refine blk_drew ?_ | refine blk_alloc ?_ _)); exact BK518.out) hb); have n2_ := Aside0.mk (below_step (by repeat (first | (with_reducible first | exact HB.out | apply below_alloc | apply pw_below_drewN | apply below_drew1 | refine below_set ?_ (IsS65.ge HI501.out) | refine below_set ?_ GE518.out) | exact HB.out)) hb); clear HI501; clear BK518; clear HB; have HI501 := n0_; have BK518 := n1_; have HB := n2_; clear n0_ n1_ n2_; (try clear hb); (try clear hb2); (try clear hk); (try clear hi)) | (go_at_call 11; (with_reducible refine (control_Twist.calls kj5 640 0 800 t527 _ A19.out).mono ?_); rintro e w26 ⟨rfl, hb⟩; have n0_ := Aside0.mk (IsS65.below (by repeat (first | (with_reducible first | exact HI501.out | apply IsS65.alloc | apply IsS65.drewN | apply IsS65.drew | apply IsS65.set_0 | apply IsS65.set_1 | apply IsS65.set_2 | apply IsS65.set_3 | refine IsS65.far ?_ NB501_518.out _) | exact HI501.out)) hb); have n1_ := Aside0.mk (blk_below (g := gb518) (o := .cells #[.int .i64 t511, .int .i64 t512, .int .i64 t513] 37 (0, 0)) (by (with_reducible repeat (first | refine blk_drewN ?_ _ | refine blk_drew ?_ | refine blk_alloc ?_ _)); exact BK518.out) hb); have n2_ := Aside0.mk (below_step (by repeat (first | (with_reducible first | exact HB.out | apply below_alloc | apply pw_below_drewN | apply below_drew1 | refine below_set ?_ (IsS65.ge HI501.out) | refine below_set ?_ GE518.out) | exact HB.out)) hb); clear HI501; clear BK518; clear HB; have HI501 := n0_; have BK518 := n1_; have HB := n2_; clear n0_ n1_ n2_; (try clear hb); (try clear hb2); (try clear hk); (try clear hi)))
                  go_ret
                  exact ⟨by first | rfl | (simp [errW_none, errW_some] <;> rfl) | (simp [*, errW_none, errW_some] <;> rfl), by repeat (first | (with_reducible first | exact HB.out | apply below_alloc | apply pw_below_drewN | apply below_drew1 | refine below_set ?_ (IsS65.ge HI501.out) | refine below_set ?_ GE518.out) | exact HB.out)⟩
                · rw [if_neg c18] at H
                  exact absurd H (by simp)
              · rw [if_neg c16] at H
                exact absurd H (by simp)
            · rw [if_neg c14] at H
              exact absurd H (by simp)
  · rw [if_neg c3] at H
    have c3b0 : (t502 == 0) = false := beq_eq_false_iff_ne.mpr c3
    have c3b1 : (t502 != 0) = true := bne_iff_ne.mpr c3
    replace H := Option.bind_eq_some_iff.mp H
    obtain ⟨⟨t528, t529, t530, t531, t533⟩, A270, H⟩ := H
    replace H : (if t533 = 0 then (none) else (none)) = some r := H
    have A27 := Aside0.mk A270
    clear A270
    by_cases c28 : t533 = 0
    · rw [if_pos c28] at H
      have c28b0 : (t533 == 0) = true := beq_iff_eq.mpr c28
      have c28b1 : (t533 != 0) = false := bne_eq_false_iff_eq.mpr c28
      clear c28
      exact absurd H (by simp)
    · rw [if_neg c28] at H
      have c28b0 : (t533 == 0) = false := beq_eq_false_iff_ne.mpr c28
      have c28b1 : (t533 != 0) = true := bne_iff_ne.mpr c28
      exact absurd H (by simp)

/-! ### windhoverlaw17_ControlLaws: function 3 -/
def windhoverlaw17_ControlLaws.f (k : Nat) (a0 : Int) (a1 : Int) (a2 : Int) : Option (Bool) := (control_Law.f k a0 a1 a2).bind fun t535 => ((windhoverref17_Law.f k a0 a1 a2).bind fun t536 => (if t535 = t536 then ((control_Twist.f k a0 a1 a2).bind fun t537 => ((windhoverref17_Twist.f k a0 a1 a2).bind fun t538 => (if t537 = t538 then ((windhoverlaw17_awake.f k).bind fun t539 => (some t539)) else (none)))) else (none)))
theorem windhoverlaw17_ControlLaws.mono : ∀ a0 a1 a2 k, LeO (windhoverlaw17_ControlLaws.f k a0 a1 a2) (windhoverlaw17_ControlLaws.f (k + 1) a0 a1 a2) := by
  intro a0 a1 a2 k
  unfold windhoverlaw17_ControlLaws.f
  repeat' first
      | (with_reducible exact control_Law.mono _ _ _ _)
      | (with_reducible exact control_Twist.mono _ _ _ _)
      | (with_reducible exact windhoverlaw17_awake.mono _)
      | (with_reducible exact windhoverref17_Law.mono _ _ _ _)
      | (with_reducible exact windhoverref17_Twist.mono _ _ _ _)
      | (with_reducible exact LeO.refl _)
      | (with_reducible exact LeO.none _)
      | (with_reducible refine LeO.ite ?_ ?_)
      | (with_reducible refine LeO.bind ?_ (fun _ => ?_))
      | exact control_Law.mono _ _ _ _
      | exact control_Twist.mono _ _ _ _
      | exact windhoverlaw17_awake.mono _
      | exact windhoverref17_Law.mono _ _ _ _
      | exact windhoverref17_Twist.mono _ _ _ _
      | exact LeO.none _
      | refine LeO.ite ?_ ?_
      | refine LeO.bind ?_ (fun _ => ?_)
set_option maxHeartbeats 8000000 in
set_option maxRecDepth 100000 in
theorem windhoverlaw17_ControlLaws.calls (k : Nat) (a0 : Int) (a1 : Int) (a2 : Int) (r : Bool) (w : World) (h : windhoverlaw17_ControlLaws.f k a0 a1 a2 = some r) :
    Calls Try.prog 3 #[.int .i64 a0, .int .i64 a1, .int .i64 a2] w fun e w' => e = .returned (.bool r) ∧ Below w.heap.size w w' := by
  have HB := Aside0.mk (Below.refl w.heap.size w)
  have H : ((control_Law.f k a0 a1 a2).bind fun t535 => ((windhoverref17_Law.f k a0 a1 a2).bind fun t536 => (if t535 = t536 then ((control_Twist.f k a0 a1 a2).bind fun t537 => ((windhoverref17_Twist.f k a0 a1 a2).bind fun t538 => (if t537 = t538 then ((windhoverlaw17_awake.f k).bind fun t539 => (some t539)) else (none)))) else (none)))) = some r := h
  clear h
  replace H := Option.bind_eq_some_iff.mp H
  obtain ⟨t535, A40, H⟩ := H
  replace H : ((windhoverref17_Law.f k a0 a1 a2).bind fun t536 => (if t535 = t536 then ((control_Twist.f k a0 a1 a2).bind fun t537 => ((windhoverref17_Twist.f k a0 a1 a2).bind fun t538 => (if t537 = t538 then ((windhoverlaw17_awake.f k).bind fun t539 => (some t539)) else (none)))) else (none))) = some r := H
  have A4 := Aside0.mk A40
  clear A40
  replace H := Option.bind_eq_some_iff.mp H
  obtain ⟨t536, A50, H⟩ := H
  replace H : (if t535 = t536 then ((control_Twist.f k a0 a1 a2).bind fun t537 => ((windhoverref17_Twist.f k a0 a1 a2).bind fun t538 => (if t537 = t538 then ((windhoverlaw17_awake.f k).bind fun t539 => (some t539)) else (none)))) else (none)) = some r := H
  have A5 := Aside0.mk A50
  clear A50
  by_cases c6 : t535 = t536
  · rw [if_pos c6] at H
    have c6b0 : (t535 == t536) = true := beq_iff_eq.mpr c6
    have c6b1 : (t535 != t536) = false := bne_eq_false_iff_eq.mpr c6
    clear c6
    replace H := Option.bind_eq_some_iff.mp H
    obtain ⟨t537, A70, H⟩ := H
    replace H : ((windhoverref17_Twist.f k a0 a1 a2).bind fun t538 => (if t537 = t538 then ((windhoverlaw17_awake.f k).bind fun t539 => (some t539)) else (none))) = some r := H
    have A7 := Aside0.mk A70
    clear A70
    replace H := Option.bind_eq_some_iff.mp H
    obtain ⟨t538, A80, H⟩ := H
    replace H : (if t537 = t538 then ((windhoverlaw17_awake.f k).bind fun t539 => (some t539)) else (none)) = some r := H
    have A8 := Aside0.mk A80
    clear A80
    by_cases c9 : t537 = t538
    · rw [if_pos c9] at H
      have c9b0 : (t537 == t538) = true := beq_iff_eq.mpr c9
      have c9b1 : (t537 != t538) = false := bne_eq_false_iff_eq.mpr c9
      clear c9
      replace H := Option.bind_eq_some_iff.mp H
      obtain ⟨t539, A100, H⟩ := H
      replace H : (some t539) = some r := H
      have A10 := Aside0.mk A100
      clear A100
      obtain rfl := Option.some.inj H
      go_enter Try.func3, Try.ntmps3
      go_wp2_with (first | ((with_reducible refine gate_callee (f := 9) rfl ?_); refine goesL_ (some 10) rfl rfl Try.func9 (by kernel_rfl) rfl #[.int .i64 a0, .int .i64 a1, .int .i64 a2] rfl (by (try simp only [List.map_toArray, List.map_cons, List.map_nil]); first | done | rfl | (simp only [List.length_drop, List.length_take]; rfl)) ?_; (with_reducible refine (control_Law.calls k a0 a1 a2 t535 _ A4.out).mono ?_); rintro e w11 ⟨rfl, hb⟩; refine ⟨_, rfl, ?_⟩; have n0_ := Aside0.mk (below_step (by repeat (first | (with_reducible first | exact HB.out | apply below_alloc | apply pw_below_drewN | apply below_drew1) | exact HB.out)) hb); clear HB; have HB := n0_; clear n0_; (try clear hb); (try clear hb2); (try clear hk); (try clear hi)) | ((with_reducible refine gate_callee (f := 10) rfl ?_); refine goesL_ (some 14) rfl rfl Try.func10 (by kernel_rfl) rfl #[.int .i64 a0, .int .i64 a1, .int .i64 a2] rfl (by (try simp only [List.map_toArray, List.map_cons, List.map_nil]); first | done | rfl | (simp only [List.length_drop, List.length_take]; rfl)) ?_; (with_reducible refine (windhoverref17_Law.calls k a0 a1 a2 t536 _ A5.out).mono ?_); rintro e w12 ⟨rfl, hb⟩; refine ⟨_, rfl, ?_⟩; have n0_ := Aside0.mk (below_step (by repeat (first | (with_reducible first | exact HB.out | apply below_alloc | apply pw_below_drewN | apply below_drew1) | exact HB.out)) hb); clear HB; have HB := n0_; clear n0_; (try clear hb); (try clear hb2); (try clear hk); (try clear hi)) | (go_at_call 11; (with_reducible refine (control_Twist.calls k a0 a1 a2 t537 _ A7.out).mono ?_); rintro e w13 ⟨rfl, hb⟩; have n0_ := Aside0.mk (below_step (by repeat (first | (with_reducible first | exact HB.out | apply below_alloc | apply pw_below_drewN | apply below_drew1) | exact HB.out)) hb); clear HB; have HB := n0_; clear n0_; (try clear hb); (try clear hb2); (try clear hk); (try clear hi)) | (go_at_call 12; (with_reducible refine (windhoverref17_Twist.calls k a0 a1 a2 t538 _ A8.out).mono ?_); rintro e w14 ⟨rfl, hb⟩; have n0_ := Aside0.mk (below_step (by repeat (first | (with_reducible first | exact HB.out | apply below_alloc | apply pw_below_drewN | apply below_drew1) | exact HB.out)) hb); clear HB; have HB := n0_; clear n0_; (try clear hb); (try clear hb2); (try clear hk); (try clear hi)) | (go_at_call 13; (with_reducible refine (windhoverlaw17_awake.calls k  t539 _ A10.out).mono ?_); rintro e w15 ⟨rfl, hb⟩; have n0_ := Aside0.mk (below_step (by repeat (first | (with_reducible first | exact HB.out | apply below_alloc | apply pw_below_drewN | apply below_drew1) | exact HB.out)) hb); clear HB; have HB := n0_; clear n0_; (try clear hb); (try clear hb2); (try clear hk); (try clear hi)))
      go_ret
      exact ⟨by first | rfl | (simp [errW_none, errW_some] <;> rfl) | (simp [*, errW_none, errW_some] <;> rfl), by repeat (first | (with_reducible first | exact HB.out | apply below_alloc | apply pw_below_drewN | apply below_drew1) | exact HB.out)⟩
    · rw [if_neg c9] at H
      exact absurd H (by simp)
  · rw [if_neg c6] at H
    exact absurd H (by simp)

/-- THE ONE PURE STATEMENT of windhoverlaw17_ControlLaws: yours. -/
def windhoverlaw17_ControlLaws.Pure : Prop := ∀ (a0 : Int) (a1 : Int) (a2 : Int), (Lit.int .i64 a0).wf = true → (Lit.int .i64 a1).wf = true → (Lit.int .i64 a2).wf = true → ∃ k, windhoverlaw17_ControlLaws.f k a0 a1 a2 = some true
theorem windhoverlaw17_ControlLaws.walk (P : windhoverlaw17_ControlLaws.Pure) (a0 : Int) (a1 : Int) (a2 : Int) (w : World) (w0 : (Lit.int .i64 a0).wf = true) (w1 : (Lit.int .i64 a1).wf = true) (w2 : (Lit.int .i64 a2).wf = true) :
    Calls Try.prog 3 #[.int .i64 a0, .int .i64 a1, .int .i64 a2] w fun e w' => e = .returned (.bool true) ∧ Below w.heap.size w w' := by
  obtain ⟨k, h⟩ := P a0 a1 a2 w0 w1 w2
  refine (windhoverlaw17_ControlLaws.calls k a0 a1 a2 true w h).mono ?_
  rintro e w' ⟨rfl, hd⟩
  exact ⟨rfl, hd⟩

end Go.Proofs.Ytbnliflfkljbfaa.PControlLaws
