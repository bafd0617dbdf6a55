-- WRITTEN BY wip/tools/aprint.py of this claim's repository over the kit's words: not typed by hand
import Derived.Test.YtmmlahckcgjofaaPPowerRisesx0
import Derived.Test.YtmmlahckcgjofaaPPowerRisesx1
import Derived.Test.YtmmlahckcgjofaaPPowerRisesx4
import Derived.Test.YtmmlahckcgjofaaPPowerRisesx5
namespace Go.Proofs.Ytmmlahckcgjofaa.PPowerRises
open Go.RowKit Go.Proofs.YtmmlahckcgjofaaW.PrintWords Go.Proofs.YtmmlahckcgjofaaW.PrintLast Go.Proofs.YtmmlahckcgjofaaW.PrintMore
attribute [local go_sem] max2_int min2_int max_two min_two max_three min_three max_four min_four   -- for this text's walks alone
set_option linter.unusedVariables false
set_option linter.unusedSimpArgs false

attribute [local go_sem high] eqA31
/-! ### windhoverlaw14_awake: function 11 -/
def windhoverlaw14_awake.j0 : Nat → Bool → List Int → Int → Bool → Int → Int → Option (Bool)
  | 0, _, _, _, _, _, _ => none
  | k + 1, x26, x305000, x305001, x305002, x305003, x305004 => if x26 = true then (none) else ((power_Battery_Tier.f k x305000 x305001 x305002 x305003 x305004 0 0).bind fun bt315 => ((power_Battery_Step.f k x305000 bt315.2.1 bt315.2.2.1 bt315.2.2.2.1 bt315.2.2.2.2 true 10000).bind fun bt320 => ((power_Battery_Step.f k x305000 bt320.1 bt320.2.1 bt320.2.2.1 bt320.2.2.2 false 0).bind fun bt324 => ((power_Battery_Left.f x305000 bt324.1 bt324.2.1 bt324.2.2.1 bt324.2.2.2).bind fun bt328 => (if bt315.1 = 2 then (if bt328.2.2.1 = true then (if (bt328.1 == 9896 && (bt328.2.1 == 10100)) = true then ((power_Battery_Tier.f k x305000 bt328.2.2.2.1 bt328.2.2.2.2.1 bt328.2.2.2.2.2.1 bt328.2.2.2.2.2.2 0 0).bind fun bt336 => (some (bt336.1 == 1))) else (none)) else (none)) else (none))))))
def windhoverlaw14_awake.f (k : Nat)  : Option (Bool) := (params_Defaults.f k).bind fun t296 => ((power_New.f k t296).bind fun bt299 => (if bt299.2.2.2.2.2 = 0 then ((power_New.f k ([] : List Int)).bind fun bt307 => (if bt307.2.2.2.2.2 = 0 then (none) else (if bt307.2.2.2.2.2 = 3 then (windhoverlaw14_awake.j0 k false bt299.1 bt299.2.1 bt299.2.2.1 bt299.2.2.2.1 bt299.2.2.2.2.1) else (windhoverlaw14_awake.j0 k true bt299.1 bt299.2.1 bt299.2.2.1 bt299.2.2.2.1 bt299.2.2.2.2.1)))) else ((power_New.f k ([] : List Int)).bind fun bt341 => (if bt341.2.2.2.2.2 = 0 then (none) else (none)))))
theorem windhoverlaw14_awake.mono_l : ∀ k, (∀ y0 y1 y2 y3 y4 y5, LeO (windhoverlaw14_awake.j0 k y0 y1 y2 y3 y4 y5) (windhoverlaw14_awake.j0 (k + 1) y0 y1 y2 y3 y4 y5))
  | 0 => fun _ _ _ _ _ _ r h => by simp [windhoverlaw14_awake.j0] at h
  | k + 1 => by
    have ih0 := windhoverlaw14_awake.mono_l k
    · intro y0 y1 y2 y3 y4 y5
      unfold windhoverlaw14_awake.j0
      repeat' first
      | (with_reducible exact ih0 _ _ _ _ _ _)
      | (with_reducible exact params_Defaults.mono _)
      | (with_reducible exact power_Battery_Step.mono _ _ _ _ _ _ _ _)
      | (with_reducible exact power_Battery_Tier.mono _ _ _ _ _ _ _ _)
      | (with_reducible exact power_New.mono _ _)
      | (with_reducible exact LeO.refl _)
      | (with_reducible exact LeO.none _)
      | (with_reducible refine LeO.ite ?_ ?_)
      | (with_reducible refine LeO.bind ?_ (fun _ => ?_))
      | exact ih0 _ _ _ _ _ _
      | exact params_Defaults.mono _
      | exact power_Battery_Step.mono _ _ _ _ _ _ _ _
      | exact power_Battery_Tier.mono _ _ _ _ _ _ _ _
      | exact power_New.mono _ _
      | exact LeO.none _
      | refine LeO.ite ?_ ?_
      | refine LeO.bind ?_ (fun _ => ?_)
theorem windhoverlaw14_awake.mono : ∀ k, LeO (windhoverlaw14_awake.f k ) (windhoverlaw14_awake.f (k + 1) ) := by
  intro  k
  have ih0 := windhoverlaw14_awake.mono_l k
  unfold windhoverlaw14_awake.f
  repeat' first
      | (with_reducible exact ih0 _ _ _ _ _ _)
      | (with_reducible exact params_Defaults.mono _)
      | (with_reducible exact power_Battery_Step.mono _ _ _ _ _ _ _ _)
      | (with_reducible exact power_Battery_Tier.mono _ _ _ _ _ _ _ _)
      | (with_reducible exact power_New.mono _ _)
      | (with_reducible exact LeO.refl _)
      | (with_reducible exact LeO.none _)
      | (with_reducible refine LeO.ite ?_ ?_)
      | (with_reducible refine LeO.bind ?_ (fun _ => ?_))
      | exact ih0 _ _ _ _ _ _
      | exact params_Defaults.mono _
      | exact power_Battery_Step.mono _ _ _ _ _ _ _ _
      | exact power_Battery_Tier.mono _ _ _ _ _ _ _ _
      | exact power_New.mono _ _
      | exact LeO.none _
      | refine LeO.ite ?_ ?_
      | refine LeO.bind ?_ (fun _ => ?_)
set_option maxHeartbeats 8000000 in
set_option maxRecDepth 100000 in
theorem windhoverlaw14_awake.calls (k : Nat)  (r : Bool) (w : World) (h : windhoverlaw14_awake.f k  = some r) :
    Calls Try.prog 11 #[] w fun e w' => e = .returned (.bool r) ∧ Below w.heap.size w w' := by
  have hu42 := Try.underlying42
  have hu31 := Try.underlying31
  have HB := Aside0.mk (Below.refl w.heap.size w)
  have H : ((params_Defaults.f k).bind fun t296 => ((power_New.f k t296).bind fun bt299 => (if bt299.2.2.2.2.2 = 0 then ((power_New.f k ([] : List Int)).bind fun bt307 => (if bt307.2.2.2.2.2 = 0 then (none) else (if bt307.2.2.2.2.2 = 3 then (windhoverlaw14_awake.j0 k false bt299.1 bt299.2.1 bt299.2.2.1 bt299.2.2.2.1 bt299.2.2.2.2.1) else (windhoverlaw14_awake.j0 k true bt299.1 bt299.2.1 bt299.2.2.1 bt299.2.2.2.1 bt299.2.2.2.2.1)))) else ((power_New.f k ([] : List Int)).bind fun bt341 => (if bt341.2.2.2.2.2 = 0 then (none) else (none)))))) = some r := h
  clear h
  replace H := Option.bind_eq_some_iff.mp H
  obtain ⟨t296, A10, H⟩ := H
  replace H : ((power_New.f k t296).bind fun bt299 => (if bt299.2.2.2.2.2 = 0 then ((power_New.f k ([] : List Int)).bind fun bt307 => (if bt307.2.2.2.2.2 = 0 then (none) else (if bt307.2.2.2.2.2 = 3 then (windhoverlaw14_awake.j0 k false bt299.1 bt299.2.1 bt299.2.2.1 bt299.2.2.2.1 bt299.2.2.2.2.1) else (windhoverlaw14_awake.j0 k true bt299.1 bt299.2.1 bt299.2.2.1 bt299.2.2.2.1 bt299.2.2.2.2.1)))) else ((power_New.f k ([] : List Int)).bind fun bt341 => (if bt341.2.2.2.2.2 = 0 then (none) else (none))))) = some r := H
  have A1 := Aside0.mk A10
  clear A10
  replace H := Option.bind_eq_some_iff.mp H
  obtain ⟨⟨t299, t300, t301, t302, t303, t305⟩, A20, H⟩ := H
  replace H : (if t305 = 0 then ((power_New.f k ([] : List Int)).bind fun bt307 => (if bt307.2.2.2.2.2 = 0 then (none) else (if bt307.2.2.2.2.2 = 3 then (windhoverlaw14_awake.j0 k false t299 t300 t301 t302 t303) else (windhoverlaw14_awake.j0 k true t299 t300 t301 t302 t303)))) else ((power_New.f k ([] : List Int)).bind fun bt341 => (if bt341.2.2.2.2.2 = 0 then (none) else (none)))) = some r := H
  have A2 := Aside0.mk A20
  clear A20
  by_cases c3 : t305 = 0
  · rw [if_pos c3] at H
    have c3b0 : (t305 == 0) = true := beq_iff_eq.mpr c3
    have c3b1 : (t305 != 0) = false := bne_eq_false_iff_eq.mpr c3
    clear c3
    replace H := Option.bind_eq_some_iff.mp H
    obtain ⟨⟨t307, t308, t309, t310, t311, t313⟩, A40, H⟩ := H
    replace H : (if t313 = 0 then (none) else (if t313 = 3 then (windhoverlaw14_awake.j0 k false t299 t300 t301 t302 t303) else (windhoverlaw14_awake.j0 k true t299 t300 t301 t302 t303))) = some r := H
    have A4 := Aside0.mk A40
    clear A40
    by_cases c5 : t313 = 0
    · rw [if_pos c5] at H
      exact absurd H (by simp)
    · rw [if_neg c5] at H
      have c5b0 : (t313 == 0) = false := beq_eq_false_iff_ne.mpr c5
      have c5b1 : (t313 != 0) = true := bne_iff_ne.mpr c5
      have HC6 := Aside0.mk H
      clear H
      go_enter Try.func11, Try.ntmps11
      go_upto_region 3 with (first | ((with_reducible refine gate_callee (f := 22) rfl ?_); refine goesL_ (some 9) rfl rfl Try.func22 (by kernel_rfl) rfl #[] rfl (by (try simp only [List.map_toArray, List.map_cons, List.map_nil]); first | done | rfl | (simp only [List.length_drop, List.length_take]; rfl)) ?_; (with_reducible refine (params_Defaults.calls k  t296 _ A1.out).mono ?_); rintro e w7 ⟨v297, rfl, ho0, hb⟩; refine ⟨_, rfl, ?_⟩; have n0_ := Aside0.mk (Kd.R_lower ho0 (below_size (by repeat (first | (with_reducible first | exact HB.out | apply below_alloc | apply pw_below_drewN | apply below_drew1) | exact HB.out)))); have n1_ := Aside0.mk (below_step (by repeat (first | (with_reducible first | exact HB.out | apply below_alloc | apply pw_below_drewN | apply below_drew1) | exact HB.out)) hb); clear HB; have HO298 := n0_; have HB := n1_; clear n0_ n1_; (try clear hb); (try clear hb2); (try clear hk); (try clear hi); (try clear ho0); obtain ⟨Ao8, co8, eo8⟩ := Kd.R_slice HO298.out; subst eo8) | ((with_reducible refine gate_callee (f := 8) rfl ?_); refine goesL_ (some 10) rfl rfl Try.func8 (by kernel_rfl) rfl #[.slice Ao8 t296.length co8] rfl (by (try simp only [List.map_toArray, List.map_cons, List.map_nil]); first | done | rfl | (simp only [List.length_drop, List.length_take]; rfl)) ?_; (with_reducible refine (power_New.callsNew k _ _ t296 t299 t300 t301 t302 t303 t305 w _ ?side1 ?side2 ?side3 A2.out (by assumption)).mono ?_); (case side1 => repeat (first | (with_reducible first | exact HB.out | apply below_alloc | apply pw_below_drewN | apply below_drew1) | exact HB.out)); (case side2 => repeat (first | exact (Kd.R_reads' HO298.out).2.2 | (with_reducible refine Kd.C_alloc ?_ _) | (with_reducible refine Kd.C_drewN ?_ _) | (with_reducible refine Kd.C_drew ?_))); (case side3 => exact (Kd.R_reads' HO298.out).2.1); rintro e w9 ⟨g304, rfl, hi, hb, hb2, hn⟩; refine ⟨_, rfl, ?_⟩; have n0_ := Aside0.mk (Kd.R_below (by (with_reducible repeat (first | apply Kd.R_alloc | apply Kd.R_drewN | apply Kd.R_drew)); exact HO298.out) hb2); have n1_ := Aside0.mk (hb); have n2_ := Aside0.mk (hi); clear HO298; clear HB; have HO298 := n0_; have HB := n1_; have HI304 := n2_; clear n0_ n1_ n2_; (try clear hb); (try clear hb2); (try clear hk); (try clear hi)) | ((with_reducible refine gate_callee (f := 8) rfl ?_); refine goesL_ (some 14) rfl rfl Try.func8 (by kernel_rfl) rfl #[.slice none 0 0] rfl (by (try simp only [List.map_toArray, List.map_cons, List.map_nil]); first | done | rfl | (simp only [List.length_drop, List.length_take]; rfl)) ?_; (refine (power_New.callsNil k _ _ ([] : List Int) t307 t308 t309 t310 t311 t313 _ ?side1 ?side2 A4.out (by assumption)).mono ?_); (case side1 => exact Kd.C_nil _ _); (case side2 => exact Nat.le_refl _); rintro e w10 ⟨rfl, hb⟩; refine ⟨_, rfl, ?_⟩; have n0_ := Aside0.mk (Kd.R_below (by (with_reducible repeat (first | apply Kd.R_alloc | apply Kd.R_drewN | apply Kd.R_drew)); exact HO298.out) hb); have n1_ := Aside0.mk (IsS63.below (by repeat (first | (with_reducible first | exact HI304.out | apply IsS63.alloc | apply IsS63.drewN | apply IsS63.drew | apply IsS63.set_1 | apply IsS63.set_2 | apply IsS63.set_3 | apply IsS63.set_4) | exact HI304.out)) hb); have n2_ := Aside0.mk (below_step (by repeat (first | (with_reducible first | exact HB.out | apply below_alloc | apply pw_below_drewN | apply below_drew1 | refine below_set ?_ (IsS63.ge HI304.out)) | exact HB.out)) hb); clear HO298; clear HI304; clear HB; have HO298 := n0_; have HI304 := n1_; have HB := n2_; clear n0_ n1_ n2_; (try clear hb); (try clear hb2); (try clear hk); (try clear hi)))
      (try simp only [Act.put, List.setIfInBounds_toArray, List.set_cons_zero, List.set_cons_succ])
      go_cut [26] (fun v26 wc => ∃ (kq : Nat) (x26_5 : Bool), v26 = .bool x26_5 ∧ Aside0 (windhoverlaw14_awake.j0 kq x26_5 t299 t300 t301 t302 t303 = some r) ∧ Aside0 (kq ≤ k) ∧ Aside0 (IsS63 w wc g304 t299 t300 t301 t302 t303) ∧ Aside0 (Below w.heap.size w wc))
      case first =>
        have H := HC6.out
        clear HC6
        by_cases c11 : t313 = 3
        · rw [if_pos c11] at H
          have c11b0 : (t313 == 3) = true := beq_iff_eq.mpr c11
          have c11b1 : (t313 != 3) = false := bne_eq_false_iff_eq.mpr c11
          clear c11
          (first | rw [c11b0] | (simp only [i64_w, i32_w]; rw [c11b0]) | skip)
          have H' := Aside0.mk H
          clear H
          go_wp2
          go_meet
          case rel => exact ⟨_, (false), (by first | rfl | (simp; done) | (simp [*]; done)), H', ⟨by first | omega | exact Nat.le_refl _⟩, ⟨by repeat (first | (with_reducible first | exact HI304.out | apply IsS63.alloc | apply IsS63.drewN | apply IsS63.drew | apply IsS63.set_1 | apply IsS63.set_2 | apply IsS63.set_3 | apply IsS63.set_4) | exact HI304.out)⟩, ⟨by repeat (first | (with_reducible first | exact HB.out | apply below_alloc | apply pw_below_drewN | apply below_drew1 | refine below_set ?_ (IsS63.ge HI304.out)) | exact HB.out)⟩⟩
        · rw [if_neg c11] at H
          have c11b0 : (t313 == 3) = false := beq_eq_false_iff_ne.mpr c11
          have c11b1 : (t313 != 3) = true := bne_iff_ne.mpr c11
          (first | rw [c11b0] | (simp only [i64_w, i32_w]; rw [c11b0]) | skip)
          have H' := Aside0.mk H
          clear H
          go_wp2
          go_meet
          case rel => exact ⟨_, (true), (by first | rfl | (simp; done) | (simp [*]; done)), H', ⟨by first | omega | exact Nat.le_refl _⟩, ⟨by repeat (first | (with_reducible first | exact HI304.out | apply IsS63.alloc | apply IsS63.drewN | apply IsS63.drew | apply IsS63.set_1 | apply IsS63.set_2 | apply IsS63.set_3 | apply IsS63.set_4) | exact HI304.out)⟩, ⟨by repeat (first | (with_reducible first | exact HB.out | apply below_alloc | apply pw_below_drewN | apply below_drew1 | refine below_set ?_ (IsS63.ge HI304.out)) | exact HB.out)⟩⟩
      case rest =>
        clear HC6
        try clear c1
        try clear c2
        try clear p2
        try clear c3
        try clear c3b0
        try clear c3b1
        try clear c5
        try clear c5b0
        try clear c5b1
        try clear c8
        try clear c11
        try clear c11b0
        try clear c11b1
        obtain ⟨kq, x26_5, rfl, HA, HJ5, HI304, HB⟩ := hcut
        cases kq with
        | zero => exact absurd HA.out (by simp [windhoverlaw14_awake.j0])
        | succ kj5 =>
          have H := HA.out
          clear HA
          simp only [windhoverlaw14_awake.j0] at H
          by_cases c12 : x26_5 = true
          · subst c12
            have H1 : (none) = some r := by rw [if_pos rfl] at H; exact H
            clear H
            have H := H1
            clear H1
            exact absurd H (by simp)
          · replace c12 := Bool.eq_false_iff.mpr c12
            subst c12
            have H1 : ((power_Battery_Tier.f kj5 t299 t300 t301 t302 t303 0 0).bind fun bt315 => ((power_Battery_Step.f kj5 t299 bt315.2.1 bt315.2.2.1 bt315.2.2.2.1 bt315.2.2.2.2 true 10000).bind fun bt320 => ((power_Battery_Step.f kj5 t299 bt320.1 bt320.2.1 bt320.2.2.1 bt320.2.2.2 false 0).bind fun bt324 => ((power_Battery_Left.f t299 bt324.1 bt324.2.1 bt324.2.2.1 bt324.2.2.2).bind fun bt328 => (if bt315.1 = 2 then (if bt328.2.2.1 = true then (if (bt328.1 == 9896 && (bt328.2.1 == 10100)) = true then ((power_Battery_Tier.f kj5 t299 bt328.2.2.2.1 bt328.2.2.2.2.1 bt328.2.2.2.2.2.1 bt328.2.2.2.2.2.2 0 0).bind fun bt336 => (some (bt336.1 == 1))) else (none)) else (none)) else (none)))))) = some r := by rw [if_neg (show ¬ (false = true) by decide)] at H; exact H
            clear H
            have H := H1
            clear H1
            replace H := Option.bind_eq_some_iff.mp H
            obtain ⟨⟨t315, t316, t317, t318, t319⟩, A130, H⟩ := H
            replace H : ((power_Battery_Step.f kj5 t299 t316 t317 t318 t319 true 10000).bind fun bt320 => ((power_Battery_Step.f kj5 t299 bt320.1 bt320.2.1 bt320.2.2.1 bt320.2.2.2 false 0).bind fun bt324 => ((power_Battery_Left.f t299 bt324.1 bt324.2.1 bt324.2.2.1 bt324.2.2.2).bind fun bt328 => (if t315 = 2 then (if bt328.2.2.1 = true then (if (bt328.1 == 9896 && (bt328.2.1 == 10100)) = true then ((power_Battery_Tier.f kj5 t299 bt328.2.2.2.1 bt328.2.2.2.2.1 bt328.2.2.2.2.2.1 bt328.2.2.2.2.2.2 0 0).bind fun bt336 => (some (bt336.1 == 1))) else (none)) else (none)) else (none))))) = some r := H
            have A13 := Aside0.mk A130
            clear A130
            replace H := Option.bind_eq_some_iff.mp H
            obtain ⟨⟨t320, t321, t322, t323⟩, A140, H⟩ := H
            replace H : ((power_Battery_Step.f kj5 t299 t320 t321 t322 t323 false 0).bind fun bt324 => ((power_Battery_Left.f t299 bt324.1 bt324.2.1 bt324.2.2.1 bt324.2.2.2).bind fun bt328 => (if t315 = 2 then (if bt328.2.2.1 = true then (if (bt328.1 == 9896 && (bt328.2.1 == 10100)) = true then ((power_Battery_Tier.f kj5 t299 bt328.2.2.2.1 bt328.2.2.2.2.1 bt328.2.2.2.2.2.1 bt328.2.2.2.2.2.2 0 0).bind fun bt336 => (some (bt336.1 == 1))) else (none)) else (none)) else (none)))) = some r := H
            have A14 := Aside0.mk A140
            clear A140
            replace H := Option.bind_eq_some_iff.mp H
            obtain ⟨⟨t324, t325, t326, t327⟩, A150, H⟩ := H
            replace H : ((power_Battery_Left.f t299 t324 t325 t326 t327).bind fun bt328 => (if t315 = 2 then (if bt328.2.2.1 = true then (if (bt328.1 == 9896 && (bt328.2.1 == 10100)) = true then ((power_Battery_Tier.f kj5 t299 bt328.2.2.2.1 bt328.2.2.2.2.1 bt328.2.2.2.2.2.1 bt328.2.2.2.2.2.2 0 0).bind fun bt336 => (some (bt336.1 == 1))) else (none)) else (none)) else (none))) = some r := H
            have A15 := Aside0.mk A150
            clear A150
            replace H := Option.bind_eq_some_iff.mp H
            obtain ⟨⟨t328, t329, t330, t331, t332, t333, t334⟩, A160, H⟩ := H
            replace H : (if t315 = 2 then (if t330 = true then (if (t328 == 9896 && (t329 == 10100)) = true then ((power_Battery_Tier.f kj5 t299 t331 t332 t333 t334 0 0).bind fun bt336 => (some (bt336.1 == 1))) else (none)) else (none)) else (none)) = some r := H
            have A16 := Aside0.mk A160
            clear A160
            by_cases c17 : t315 = 2
            · rw [if_pos c17] at H
              have c17b0 : (t315 == 2) = true := beq_iff_eq.mpr c17
              have c17b1 : (t315 != 2) = false := bne_eq_false_iff_eq.mpr c17
              clear c17
              by_cases c18 : t330 = true
              · subst c18
                have H1 : (if (t328 == 9896 && (t329 == 10100)) = true then ((power_Battery_Tier.f kj5 t299 t331 t332 t333 t334 0 0).bind fun bt336 => (some (bt336.1 == 1))) else (none)) = some r := by rw [if_pos rfl] at H; exact H
                clear H
                have H := H1
                clear H1
                by_cases c19 : (t328 == 9896 && (t329 == 10100)) = true
                · rw [if_pos c19] at H
                  have c19b0 : (t328 == 9896 && (t329 == 10100)) = true := c19
                  (try (have c19b1 : decide (t328 = 9896 && (t329 == 10100)) = true := by simpa using c19))
                  (try (have c19b2 : (t328 == 9896 && (t329 == 10100)) = true := by simpa using c19))
                  clear c19
                  replace H := Option.bind_eq_some_iff.mp H
                  obtain ⟨⟨t336, t337, t338, t339, t340⟩, A200, H⟩ := H
                  replace H : (some (t336 == 1)) = some r := H
                  have A20 := Aside0.mk A200
                  clear A200
                  obtain rfl := Option.some.inj H
                  go_wp2_with (first | ((with_reducible refine gate_callee (f := 16) rfl ?_); refine goesL_ (some 28) rfl rfl Try.func16 (by kernel_rfl) rfl #[.pointer (some ⟨g304, 0, none⟩), .int .i64 0, .int .i64 0] rfl (by (try simp only [List.map_toArray, List.map_cons, List.map_nil]); first | done | rfl | (simp only [List.length_drop, List.length_take]; rfl)) ?_; (with_reducible refine (power_Battery_Tier.calls kj5 g304 t299 t300 t301 t302 t303 0 0 t315 t316 t317 t318 t319 w _ ?side1 ?side2 A13.out).mono ?_); (case side1 => repeat (first | (with_reducible first | exact HI304.out | apply IsS63.alloc | apply IsS63.drewN | apply IsS63.drew | apply IsS63.set_1 | apply IsS63.set_2 | apply IsS63.set_3 | apply IsS63.set_4) | exact HI304.out)); (case side2 => repeat (first | (with_reducible first | exact HB.out | apply below_alloc | apply pw_below_drewN | apply below_drew1 | refine below_set ?_ (IsS63.ge HI304.out)) | exact HB.out)); rintro e w21 ⟨rfl, hi, hb, hk⟩; refine ⟨_, rfl, ?_⟩; have n0_ := Aside0.mk (hb); have n1_ := Aside0.mk (hi); clear HB; clear HI304; have HB := n0_; have HI304 := n1_; clear n0_ n1_; (try clear hb); (try clear hb2); (try clear hk); (try clear hi)) | ((with_reducible refine gate_callee (f := 13) rfl ?_); refine goesL_ (some 31) rfl rfl Try.func13 (by kernel_rfl) rfl #[.pointer (some ⟨g304, 0, none⟩), .agg #[.bool true, .int .i64 10000]] rfl (by (try simp only [List.map_toArray, List.map_cons, List.map_nil]); first | done | rfl | (simp only [List.length_drop, List.length_take]; rfl)) ?_; (with_reducible refine (power_Battery_Step.calls kj5 g304 t299 t316 t317 t318 t319 true 10000 t320 t321 t322 t323 w _ ?side1 ?side2 A14.out).mono ?_); (case side1 => repeat (first | (with_reducible first | exact HI304.out | apply IsS63.alloc | apply IsS63.drewN | apply IsS63.drew | apply IsS63.set_1 | apply IsS63.set_2 | apply IsS63.set_3 | apply IsS63.set_4) | exact HI304.out)); (case side2 => repeat (first | (with_reducible first | exact HB.out | apply below_alloc | apply pw_below_drewN | apply below_drew1 | refine below_set ?_ (IsS63.ge HI304.out)) | exact HB.out)); rintro e w22 ⟨rfl, hi, hb, hk⟩; refine ⟨_, rfl, ?_⟩; have n0_ := Aside0.mk (hb); have n1_ := Aside0.mk (hi); clear HB; clear HI304; have HB := n0_; have HI304 := n1_; clear n0_ n1_; (try clear hb); (try clear hb2); (try clear hk); (try clear hi)) | ((with_reducible refine gate_callee (f := 13) rfl ?_); refine goesL_ (some 34) rfl rfl Try.func13 (by kernel_rfl) rfl #[.pointer (some ⟨g304, 0, none⟩), .agg #[.bool false, .int .i64 0]] rfl (by (try simp only [List.map_toArray, List.map_cons, List.map_nil]); first | done | rfl | (simp only [List.length_drop, List.length_take]; rfl)) ?_; (with_reducible refine (power_Battery_Step.calls kj5 g304 t299 t320 t321 t322 t323 false 0 t324 t325 t326 t327 w _ ?side1 ?side2 A15.out).mono ?_); (case side1 => repeat (first | (with_reducible first | exact HI304.out | apply IsS63.alloc | apply IsS63.drewN | apply IsS63.drew | apply IsS63.set_1 | apply IsS63.set_2 | apply IsS63.set_3 | apply IsS63.set_4) | exact HI304.out)); (case side2 => repeat (first | (with_reducible first | exact HB.out | apply below_alloc | apply pw_below_drewN | apply below_drew1 | refine below_set ?_ (IsS63.ge HI304.out)) | exact HB.out)); rintro e w23 ⟨rfl, hi, hb, hk⟩; refine ⟨_, rfl, ?_⟩; have n0_ := Aside0.mk (hb); have n1_ := Aside0.mk (hi); clear HB; clear HI304; have HB := n0_; have HI304 := n1_; clear n0_ n1_; (try clear hb); (try clear hb2); (try clear hk); (try clear hi)) | ((with_reducible refine gate_callee (f := 15) rfl ?_); refine goesL_ (some 37) rfl rfl Try.func15 (by kernel_rfl) rfl #[.pointer (some ⟨g304, 0, none⟩)] rfl (by (try simp only [List.map_toArray, List.map_cons, List.map_nil]); first | done | rfl | (simp only [List.length_drop, List.length_take]; rfl)) ?_; (with_reducible refine (power_Battery_Left.calls g304 t299 t324 t325 t326 t327 t328 t329 true t331 t332 t333 t334 w _ ?side1 ?side2 A16.out).mono ?_); (case side1 => repeat (first | (with_reducible first | exact HI304.out | apply IsS63.alloc | apply IsS63.drewN | apply IsS63.drew | apply IsS63.set_1 | apply IsS63.set_2 | apply IsS63.set_3 | apply IsS63.set_4) | exact HI304.out)); (case side2 => repeat (first | (with_reducible first | exact HB.out | apply below_alloc | apply pw_below_drewN | apply below_drew1 | refine below_set ?_ (IsS63.ge HI304.out)) | exact HB.out)); rintro e w24 ⟨rfl, hi, hb, hk⟩; refine ⟨_, rfl, ?_⟩; have n0_ := Aside0.mk (hb); have n1_ := Aside0.mk (hi); clear HB; clear HI304; have HB := n0_; have HI304 := n1_; clear n0_ n1_; (try clear hb); (try clear hb2); (try clear hk); (try clear hi)) | ((with_reducible refine gate_dst (N := 6) rfl ?_); refine box_event ?hg (N := 6) ?hd (cs := #[.int .i64 0, .int .i64 0]) (t := 31) ?hr ?_; (case hd => rfl); (case hg => rfl); (case hr => first | (go_simp; done) | (go_simp; rfl)); intro gb335 hg w25 hbox hb; have n0_ := Aside0.mk (IsS63.below (by repeat (first | (with_reducible first | exact HI304.out | apply IsS63.alloc | apply IsS63.drewN | apply IsS63.drew | apply IsS63.set_1 | apply IsS63.set_2 | apply IsS63.set_3 | apply IsS63.set_4) | exact HI304.out)) hb); have n1_ := Aside0.mk (below_step (by repeat (first | (with_reducible first | exact HB.out | apply below_alloc | apply pw_below_drewN | apply below_drew1 | refine below_set ?_ (IsS63.ge HI304.out)) | exact HB.out)) hb); have n2_ := Aside0.mk (hbox); have n3_ := Aside0.mk ((by rw [hg]; exact (below_size (by repeat (first | (with_reducible first | exact HB.out | apply below_alloc | apply pw_below_drewN | apply below_drew1 | refine below_set ?_ (IsS63.ge HI304.out)) | exact HB.out))) : w.heap.size ≤ gb335)); have n4_ := Aside0.mk ((by rw [hg]; exact (below_size (by repeat (first | (with_reducible first | exact HB.out | apply below_alloc | apply pw_below_drewN | apply below_drew1 | refine below_set ?_ (IsS63.ge HI304.out)) | exact HB.out))) : w.heap.size ≤ gb335)); have n5_ := Aside0.mk ((by rw [hg]; exact IsS63.lt (show IsS63 w _ g304 t299 t331 t332 t333 t334 from by repeat (first | (with_reducible first | exact HI304.out | apply IsS63.alloc | apply IsS63.drewN | apply IsS63.drew | apply IsS63.set_1 | apply IsS63.set_2 | apply IsS63.set_3 | apply IsS63.set_4) | exact HI304.out)) : g304 < gb335)); have n6_ := Aside0.mk ((by rw [hg]; exact Nat.ne_of_lt (IsS63.lt (show IsS63 w _ g304 t299 t331 t332 t333 t334 from by repeat (first | (with_reducible first | exact HI304.out | apply IsS63.alloc | apply IsS63.drewN | apply IsS63.drew | apply IsS63.set_1 | apply IsS63.set_2 | apply IsS63.set_3 | apply IsS63.set_4) | exact HI304.out))) : g304 ≠ gb335)); have n7_ := Aside0.mk ((by rw [hg]; exact Nat.ne_of_gt (IsS63.lt (show IsS63 w _ g304 t299 t331 t332 t333 t334 from by repeat (first | (with_reducible first | exact HI304.out | apply IsS63.alloc | apply IsS63.drewN | apply IsS63.drew | apply IsS63.set_1 | apply IsS63.set_2 | apply IsS63.set_3 | apply IsS63.set_4) | exact HI304.out))) : gb335 ≠ g304)); clear HI304; clear HB; have HI304 := n0_; have HB := n1_; have BK335 := n2_; have GW335 := n3_; have GE335 := n4_; have NL304_335 := n5_; have NB304_335 := n6_; have NB335_304 := n7_; clear n0_ n1_ n2_ n3_ n4_ n5_ n6_ n7_; clear hb hbox hg; have hnb26 := NB335_304.out; have hnc26 := NB304_335.out; have hcz27_0 := blk_cells2 (w := w25) (g := gb335) BK335.out; have hfz27_0 := blk_frozen BK335.out) | (go_at_call 16; (with_reducible refine (power_Battery_Tier.calls kj5 g304 t299 t331 t332 t333 t334 0 0 t336 t337 t338 t339 t340 w _ ?side1 ?side2 A20.out).mono ?_); (case side1 => repeat (first | (with_reducible first | exact HI304.out | apply IsS63.alloc | apply IsS63.drewN | apply IsS63.drew | apply IsS63.set_1 | apply IsS63.set_2 | apply IsS63.set_3 | apply IsS63.set_4 | apply IsS63.farb NL304_335.out) | exact HI304.out)); (case side2 => repeat (first | (with_reducible first | exact HB.out | apply below_alloc | apply pw_below_drewN | apply below_drew1 | refine below_set ?_ (IsS63.ge HI304.out) | refine below_set ?_ GE335.out) | exact HB.out)); rintro e w28 ⟨rfl, hi, hb, hk⟩; have n0_ := Aside0.mk (KeepBut.blk hk (g' := gb335) (o := .cells #[.int .i64 t328, .int .i64 t329] 31 (0, 0)) (by (with_reducible repeat (first | refine blk_drewN ?_ _ | refine blk_drew ?_ | refine blk_alloc ?_ _)); refine blk_put (cs := #[.int .i64 t328, .int .i64 0]) ?_ 1 _ rfl; (with_reducible repeat (first | refine blk_drewN ?_ _ | refine blk_drew ?_ | refine blk_alloc ?_ _)); refine blk_put (cs := #[.int .i64 0, .int .i64 0]) ?_ 0 _ rfl; (with_reducible repeat (first | refine blk_drewN ?_ _ | refine blk_drew ?_ | refine blk_alloc ?_ _)); exact BK335.out) NB335_304.out (by simp)); have n1_ := Aside0.mk (hb); have n2_ := Aside0.mk (hi); clear BK335; clear HB; clear HI304; have BK335 := n0_; have HB := n1_; have HI304 := n2_; clear n0_ n1_ n2_; (try clear hb); (try clear hb2); (try clear hk); (try clear hi); clear A20))
                  go_ret
                  exact ⟨by first | rfl | (simp [errW_none, errW_some] <;> rfl) | (simp [*, errW_none, errW_some] <;> rfl), by repeat (first | (with_reducible first | exact HB.out | apply below_alloc | apply pw_below_drewN | apply below_drew1 | refine below_set ?_ (IsS63.ge HI304.out) | refine below_set ?_ GE335.out) | exact HB.out)⟩
                · rw [if_neg c19] at H
                  exact absurd H (by simp)
              · replace c18 := Bool.eq_false_iff.mpr c18
                subst c18
                have H1 : (none) = some r := by rw [if_neg (show ¬ (false = true) by decide)] at H; exact H
                clear H
                have H := H1
                clear H1
                exact absurd H (by simp)
            · rw [if_neg c17] at H
              exact absurd H (by simp)
  · rw [if_neg c3] at H
    have c3b0 : (t305 == 0) = false := beq_eq_false_iff_ne.mpr c3
    have c3b1 : (t305 != 0) = true := bne_iff_ne.mpr c3
    replace H := Option.bind_eq_some_iff.mp H
    obtain ⟨⟨t341, t342, t343, t344, t345, t347⟩, A290, H⟩ := H
    replace H : (if t347 = 0 then (none) else (none)) = some r := H
    have A29 := Aside0.mk A290
    clear A290
    by_cases c30 : t347 = 0
    · rw [if_pos c30] at H
      have c30b0 : (t347 == 0) = true := beq_iff_eq.mpr c30
      have c30b1 : (t347 != 0) = false := bne_eq_false_iff_eq.mpr c30
      clear c30
      exact absurd H (by simp)
    · rw [if_neg c30] at H
      have c30b0 : (t347 == 0) = false := beq_eq_false_iff_ne.mpr c30
      have c30b1 : (t347 != 0) = true := bne_iff_ne.mpr c30
      exact absurd H (by simp)

/-! ### windhoverlaw14_PowerRises: function 5 -/
mutual
def windhoverlaw14_PowerRises.l0 : Nat → Int → Int → List Int → Int → Bool → Int → Int → List Int → Int → Bool → Int → Int → Option (Bool)
  | 0, _, _, _, _, _, _, _, _, _, _, _, _ => none
  | k + 1, x2, x11, x355000, x355001, x355002, x355003, x355004, x363000, x363001, x363002, x363003, x363004 => if x11 ≤ 536870912 then (windhoverlaw14_PowerRises.l1 k x2 x11 0 x355000 x355001 x355002 x355003 x355004 x363000 x363001 x363002 x363003 x363004) else ((windhoverlaw14_awake.f k).bind fun t397 => (some t397))
def windhoverlaw14_PowerRises.l1 : Nat → Int → Int → Int → List Int → Int → Bool → Int → Int → List Int → Int → Bool → Int → Int → Option (Bool)
  | 0, _, _, _, _, _, _, _, _, _, _, _, _, _ => none
  | k + 1, x2, x11, x12, x355000, x355001, x355002, x355003, x355004, x363000, x363001, x363002, x363003, x363004 => if x12 ≤ 536870912 then ((power_Battery_Tier.f k x355000 x355001 x355002 x355003 x355004 x11 x12).bind fun bt377 => ((power_Battery_Tier.f k x363000 x363001 x363002 x363003 x363004 x11 x12).bind fun bt382 => (if bt382.1 > bt377.1 then (none) else ((power_Battery_Tier.f k x355000 bt377.2.1 bt377.2.2.1 bt377.2.2.2.1 bt377.2.2.2.2 (wrap64 (x11 + x2)) x12).bind fun bt387 => (if bt387.1 < bt377.1 then (none) else ((power_Battery_Tier.f k x355000 bt387.2.1 bt387.2.2.1 bt387.2.2.2.1 bt387.2.2.2.2 x11 (wrap64 (x12 + x2))).bind fun bt392 => (if bt392.1 < bt377.1 then (none) else (windhoverlaw14_PowerRises.l1 k x2 x11 (wrap64 ((wrap64 (16 * x12)) + 5000)) x355000 bt392.2.1 bt392.2.2.1 bt392.2.2.2.1 bt392.2.2.2.2 x363000 bt382.2.1 bt382.2.2.1 bt382.2.2.2.1 bt382.2.2.2.2)))))))) else (windhoverlaw14_PowerRises.l0 k x2 (wrap64 ((wrap64 (4 * x11)) + 1000)) x355000 x355001 x355002 x355003 x355004 x363000 x363001 x363002 x363003 x363004)
end
def windhoverlaw14_PowerRises.f (k : Nat) (l0 : List Int) (a1 : Int) (a2 : Int) : Option (Bool) := (power_New.f k l0).bind fun bt349 => (if bt349.2.2.2.2.2 = 0 then ((power_New.f k l0).bind fun bt357 => (if bt357.2.2.2.2.2 = 0 then (if bt349.2.2.2.2.2 = bt357.2.2.2.2.2 then (if a2 < 0 then ((windhoverlaw14_awake.f k).bind fun t365 => (some t365)) else (if a2 > 1099511627776 then ((windhoverlaw14_awake.f k).bind fun t366 => (some t366)) else (if a1 < 0 then ((windhoverlaw14_awake.f k).bind fun t367 => (some t367)) else (if a1 > 1099511627776 then ((windhoverlaw14_awake.f k).bind fun t368 => (some t368)) else ((power_Battery_Step.f k bt349.1 bt349.2.1 bt349.2.2.1 bt349.2.2.2.1 bt349.2.2.2.2.1 true a1).bind fun bt369 => ((power_Battery_Step.f k bt357.1 bt357.2.1 bt357.2.2.1 bt357.2.2.2.1 bt357.2.2.2.2.1 true (wrap64 (a1 + a2))).bind fun bt373 => (windhoverlaw14_PowerRises.l0 k a2 0 bt349.1 bt369.1 bt369.2.1 bt369.2.2.1 bt369.2.2.2 bt357.1 bt373.1 bt373.2.1 bt373.2.2.1 bt373.2.2.2))))))) else (none)) else (if bt349.2.2.2.2.2 = bt357.2.2.2.2.2 then (none) else (none)))) else ((power_New.f k l0).bind fun bt398 => (if bt398.2.2.2.2.2 = 0 then (if bt349.2.2.2.2.2 = bt398.2.2.2.2.2 then (none) else (none)) else (if bt349.2.2.2.2.2 = bt398.2.2.2.2.2 then ((windhoverlaw14_awake.f k).bind fun t406 => (some t406)) else (none)))))
theorem windhoverlaw14_PowerRises.mono_l : ∀ k, (∀ y0 y1 y2 y3 y4 y5 y6 y7 y8 y9 y10 y11, LeO (windhoverlaw14_PowerRises.l0 k y0 y1 y2 y3 y4 y5 y6 y7 y8 y9 y10 y11) (windhoverlaw14_PowerRises.l0 (k + 1) y0 y1 y2 y3 y4 y5 y6 y7 y8 y9 y10 y11)) ∧ (∀ y0 y1 y2 y3 y4 y5 y6 y7 y8 y9 y10 y11 y12, LeO (windhoverlaw14_PowerRises.l1 k y0 y1 y2 y3 y4 y5 y6 y7 y8 y9 y10 y11 y12) (windhoverlaw14_PowerRises.l1 (k + 1) y0 y1 y2 y3 y4 y5 y6 y7 y8 y9 y10 y11 y12))
  | 0 => ⟨fun _ _ _ _ _ _ _ _ _ _ _ _ r h => by simp [windhoverlaw14_PowerRises.l0] at h, fun _ _ _ _ _ _ _ _ _ _ _ _ _ r h => by simp [windhoverlaw14_PowerRises.l1] at h⟩
  | k + 1 => by
    obtain ⟨ih0, ih1⟩ := windhoverlaw14_PowerRises.mono_l k
    refine ⟨?_, ?_⟩
    · intro y0 y1 y2 y3 y4 y5 y6 y7 y8 y9 y10 y11
      unfold windhoverlaw14_PowerRises.l0
      repeat' first
      | (with_reducible exact ih0 _ _ _ _ _ _ _ _ _ _ _ _)
      | (with_reducible exact ih1 _ _ _ _ _ _ _ _ _ _ _ _ _)
      | (with_reducible exact power_Battery_Step.mono _ _ _ _ _ _ _ _)
      | (with_reducible exact power_Battery_Tier.mono _ _ _ _ _ _ _ _)
      | (with_reducible exact power_New.mono _ _)
      | (with_reducible exact windhoverlaw14_awake.mono _)
      | (with_reducible exact LeO.refl _)
      | (with_reducible exact LeO.none _)
      | (with_reducible refine LeO.ite ?_ ?_)
      | (with_reducible refine LeO.bind ?_ (fun _ => ?_))
      | exact ih0 _ _ _ _ _ _ _ _ _ _ _ _
      | exact ih1 _ _ _ _ _ _ _ _ _ _ _ _ _
      | exact power_Battery_Step.mono _ _ _ _ _ _ _ _
      | exact power_Battery_Tier.mono _ _ _ _ _ _ _ _
      | exact power_New.mono _ _
      | exact windhoverlaw14_awake.mono _
      | exact LeO.none _
      | refine LeO.ite ?_ ?_
      | refine LeO.bind ?_ (fun _ => ?_)
    · intro y0 y1 y2 y3 y4 y5 y6 y7 y8 y9 y10 y11 y12
      unfold windhoverlaw14_PowerRises.l1
      repeat' first
      | (with_reducible exact ih0 _ _ _ _ _ _ _ _ _ _ _ _)
      | (with_reducible exact ih1 _ _ _ _ _ _ _ _ _ _ _ _ _)
      | (with_reducible exact power_Battery_Step.mono _ _ _ _ _ _ _ _)
      | (with_reducible exact power_Battery_Tier.mono _ _ _ _ _ _ _ _)
      | (with_reducible exact power_New.mono _ _)
      | (with_reducible exact windhoverlaw14_awake.mono _)
      | (with_reducible exact LeO.refl _)
      | (with_reducible exact LeO.none _)
      | (with_reducible refine LeO.ite ?_ ?_)
      | (with_reducible refine LeO.bind ?_ (fun _ => ?_))
      | exact ih0 _ _ _ _ _ _ _ _ _ _ _ _
      | exact ih1 _ _ _ _ _ _ _ _ _ _ _ _ _
      | exact power_Battery_Step.mono _ _ _ _ _ _ _ _
      | exact power_Battery_Tier.mono _ _ _ _ _ _ _ _
      | exact power_New.mono _ _
      | exact windhoverlaw14_awake.mono _
      | exact LeO.none _
      | refine LeO.ite ?_ ?_
      | refine LeO.bind ?_ (fun _ => ?_)
theorem windhoverlaw14_PowerRises.mono : ∀ a0 a1 a2 k, LeO (windhoverlaw14_PowerRises.f k a0 a1 a2) (windhoverlaw14_PowerRises.f (k + 1) a0 a1 a2) := by
  intro a0 a1 a2 k
  obtain ⟨ih0, ih1⟩ := windhoverlaw14_PowerRises.mono_l k
  unfold windhoverlaw14_PowerRises.f
  repeat' first
      | (with_reducible exact ih0 _ _ _ _ _ _ _ _ _ _ _ _)
      | (with_reducible exact ih1 _ _ _ _ _ _ _ _ _ _ _ _ _)
      | (with_reducible exact power_Battery_Step.mono _ _ _ _ _ _ _ _)
      | (with_reducible exact power_Battery_Tier.mono _ _ _ _ _ _ _ _)
      | (with_reducible exact power_New.mono _ _)
      | (with_reducible exact windhoverlaw14_awake.mono _)
      | (with_reducible exact LeO.refl _)
      | (with_reducible exact LeO.none _)
      | (with_reducible refine LeO.ite ?_ ?_)
      | (with_reducible refine LeO.bind ?_ (fun _ => ?_))
      | exact ih0 _ _ _ _ _ _ _ _ _ _ _ _
      | exact ih1 _ _ _ _ _ _ _ _ _ _ _ _ _
      | exact power_Battery_Step.mono _ _ _ _ _ _ _ _
      | exact power_Battery_Tier.mono _ _ _ _ _ _ _ _
      | exact power_New.mono _ _
      | exact windhoverlaw14_awake.mono _
      | exact LeO.none _
      | refine LeO.ite ?_ ?_
      | refine LeO.bind ?_ (fun _ => ?_)
set_option maxHeartbeats 8000000 in
set_option maxRecDepth 100000 in
theorem windhoverlaw14_PowerRises.calls (k : Nat) (A0 : Option Addr) (c0 : Nat) (l0 : List Int) (a1 : Int) (a2 : Int) (r : Bool) (w : World) (hr0 : Kd.C (Kd.int .i64) w A0 l0.length l0) (hc0 : l0.length ≤ c0) (h : windhoverlaw14_PowerRises.f k l0 a1 a2 = some r) :
    Calls Try.prog 5 #[.slice A0 l0.length c0, .int .i64 a1, .int .i64 a2] w fun e w' => e = .returned (.bool r) ∧ Below w.heap.size w w' := by
  have hu42 := Try.underlying42
  have HR0 := Aside0.mk hr0
  have HC0 := Aside0.mk hc0
  clear hr0 hc0
  have HB := Aside0.mk (Below.refl w.heap.size w)
  have H : ((power_New.f k l0).bind fun bt349 => (if bt349.2.2.2.2.2 = 0 then ((power_New.f k l0).bind fun bt357 => (if bt357.2.2.2.2.2 = 0 then (if bt349.2.2.2.2.2 = bt357.2.2.2.2.2 then (if a2 < 0 then ((windhoverlaw14_awake.f k).bind fun t365 => (some t365)) else (if a2 > 1099511627776 then ((windhoverlaw14_awake.f k).bind fun t366 => (some t366)) else (if a1 < 0 then ((windhoverlaw14_awake.f k).bind fun t367 => (some t367)) else (if a1 > 1099511627776 then ((windhoverlaw14_awake.f k).bind fun t368 => (some t368)) else ((power_Battery_Step.f k bt349.1 bt349.2.1 bt349.2.2.1 bt349.2.2.2.1 bt349.2.2.2.2.1 true a1).bind fun bt369 => ((power_Battery_Step.f k bt357.1 bt357.2.1 bt357.2.2.1 bt357.2.2.2.1 bt357.2.2.2.2.1 true (wrap64 (a1 + a2))).bind fun bt373 => (windhoverlaw14_PowerRises.l0 k a2 0 bt349.1 bt369.1 bt369.2.1 bt369.2.2.1 bt369.2.2.2 bt357.1 bt373.1 bt373.2.1 bt373.2.2.1 bt373.2.2.2))))))) else (none)) else (if bt349.2.2.2.2.2 = bt357.2.2.2.2.2 then (none) else (none)))) else ((power_New.f k l0).bind fun bt398 => (if bt398.2.2.2.2.2 = 0 then (if bt349.2.2.2.2.2 = bt398.2.2.2.2.2 then (none) else (none)) else (if bt349.2.2.2.2.2 = bt398.2.2.2.2.2 then ((windhoverlaw14_awake.f k).bind fun t406 => (some t406)) else (none)))))) = some r := h
  clear h
  replace H := Option.bind_eq_some_iff.mp H
  obtain ⟨⟨t349, t350, t351, t352, t353, t355⟩, A40, H⟩ := H
  replace H : (if t355 = 0 then ((power_New.f k l0).bind fun bt357 => (if bt357.2.2.2.2.2 = 0 then (if t355 = bt357.2.2.2.2.2 then (if a2 < 0 then ((windhoverlaw14_awake.f k).bind fun t365 => (some t365)) else (if a2 > 1099511627776 then ((windhoverlaw14_awake.f k).bind fun t366 => (some t366)) else (if a1 < 0 then ((windhoverlaw14_awake.f k).bind fun t367 => (some t367)) else (if a1 > 1099511627776 then ((windhoverlaw14_awake.f k).bind fun t368 => (some t368)) else ((power_Battery_Step.f k t349 t350 t351 t352 t353 true a1).bind fun bt369 => ((power_Battery_Step.f k bt357.1 bt357.2.1 bt357.2.2.1 bt357.2.2.2.1 bt357.2.2.2.2.1 true (wrap64 (a1 + a2))).bind fun bt373 => (windhoverlaw14_PowerRises.l0 k a2 0 t349 bt369.1 bt369.2.1 bt369.2.2.1 bt369.2.2.2 bt357.1 bt373.1 bt373.2.1 bt373.2.2.1 bt373.2.2.2))))))) else (none)) else (if t355 = bt357.2.2.2.2.2 then (none) else (none)))) else ((power_New.f k l0).bind fun bt398 => (if bt398.2.2.2.2.2 = 0 then (if t355 = bt398.2.2.2.2.2 then (none) else (none)) else (if t355 = bt398.2.2.2.2.2 then ((windhoverlaw14_awake.f k).bind fun t406 => (some t406)) else (none))))) = some r := H
  have A4 := Aside0.mk A40
  clear A40
  by_cases c5 : t355 = 0
  · rw [if_pos c5] at H
    have c5b0 : (t355 == 0) = true := beq_iff_eq.mpr c5
    have c5b1 : (t355 != 0) = false := bne_eq_false_iff_eq.mpr c5
    clear c5
    replace H := Option.bind_eq_some_iff.mp H
    obtain ⟨⟨t357, t358, t359, t360, t361, t363⟩, A60, H⟩ := H
    replace H : (if t363 = 0 then (if t355 = t363 then (if a2 < 0 then ((windhoverlaw14_awake.f k).bind fun t365 => (some t365)) else (if a2 > 1099511627776 then ((windhoverlaw14_awake.f k).bind fun t366 => (some t366)) else (if a1 < 0 then ((windhoverlaw14_awake.f k).bind fun t367 => (some t367)) else (if a1 > 1099511627776 then ((windhoverlaw14_awake.f k).bind fun t368 => (some t368)) else ((power_Battery_Step.f k t349 t350 t351 t352 t353 true a1).bind fun bt369 => ((power_Battery_Step.f k t357 t358 t359 t360 t361 true (wrap64 (a1 + a2))).bind fun bt373 => (windhoverlaw14_PowerRises.l0 k a2 0 t349 bt369.1 bt369.2.1 bt369.2.2.1 bt369.2.2.2 t357 bt373.1 bt373.2.1 bt373.2.2.1 bt373.2.2.2))))))) else (none)) else (if t355 = t363 then (none) else (none))) = some r := H
    have A6 := Aside0.mk A60
    clear A60
    by_cases c7 : t363 = 0
    · rw [if_pos c7] at H
      have c7b0 : (t363 == 0) = true := beq_iff_eq.mpr c7
      have c7b1 : (t363 != 0) = false := bne_eq_false_iff_eq.mpr c7
      clear c7
      by_cases c8 : t355 = t363
      · rw [if_pos c8] at H
        have c8b0 : (t355 == t363) = true := beq_iff_eq.mpr c8
        have c8b1 : (t355 != t363) = false := bne_eq_false_iff_eq.mpr c8
        clear c8
        by_cases c9 : a2 < 0
        · rw [if_pos c9] at H
          have c9b0 : decide (a2 < 0) = true := decide_eq_true c9
          clear c9
          replace H := Option.bind_eq_some_iff.mp H
          obtain ⟨t365, A100, H⟩ := H
          replace H : (some t365) = some r := H
          have A10 := Aside0.mk A100
          clear A100
          obtain rfl := Option.some.inj H
          go_enter Try.func5, Try.ntmps5
          go_wp2_with (first | ((with_reducible refine gate_callee (f := 8) rfl ?_); refine goesL_ (some 16) rfl rfl Try.func8 (by kernel_rfl) rfl #[.slice A0 l0.length c0] rfl (by (try simp only [List.map_toArray, List.map_cons, List.map_nil]); first | done | rfl | (simp only [List.length_drop, List.length_take]; rfl)) ?_; (with_reducible refine (power_New.callsNew k _ _ l0 t349 t350 t351 t352 t353 t355 w _ ?side1 ?side2 ?side3 A4.out (by assumption)).mono ?_); (case side1 => repeat (first | (with_reducible first | exact HB.out | apply below_alloc | apply pw_below_drewN | apply below_drew1) | exact HB.out)); (case side2 => repeat (first | exact HR0.out | (with_reducible refine Kd.C_alloc ?_ _) | (with_reducible refine Kd.C_drewN ?_ _) | (with_reducible refine Kd.C_drew ?_))); (case side3 => exact HC0.out); rintro e w11 ⟨g354, rfl, hi, hb, hb2, hn⟩; refine ⟨_, rfl, ?_⟩; have n0_ := Aside0.mk (hb); have n1_ := Aside0.mk (hi); clear HB; have HB := n0_; have HI354 := n1_; clear n0_ n1_; (try clear hb); (try clear hb2); (try clear hk); (try clear hi)) | ((with_reducible refine gate_callee (f := 8) rfl ?_); refine goesL_ (some 21) rfl rfl Try.func8 (by kernel_rfl) rfl #[.slice A0 l0.length c0] rfl (by (try simp only [List.map_toArray, List.map_cons, List.map_nil]); first | done | rfl | (simp only [List.length_drop, List.length_take]; rfl)) ?_; (with_reducible refine (power_New.callsNew k _ _ l0 t357 t358 t359 t360 t361 t363 w _ ?side1 ?side2 ?side3 A6.out (by assumption)).mono ?_); (case side1 => repeat (first | (with_reducible first | exact HB.out | apply below_alloc | apply pw_below_drewN | apply below_drew1 | refine below_set ?_ (IsS63.ge HI354.out)) | exact HB.out)); (case side2 => repeat (first | exact (Kd.C_below HR0.out HB.out) | (with_reducible refine Kd.C_alloc ?_ _) | (with_reducible refine Kd.C_drewN ?_ _) | (with_reducible refine Kd.C_drew ?_))); (case side3 => exact HC0.out); rintro e w12 ⟨g362, rfl, hi, hb, hb2, hn⟩; refine ⟨_, rfl, ?_⟩; have n0_ := Aside0.mk (IsS63.below (by repeat (first | (with_reducible first | exact HI354.out | apply IsS63.alloc | apply IsS63.drewN | apply IsS63.drew | apply IsS63.set_1 | apply IsS63.set_2 | apply IsS63.set_3 | apply IsS63.set_4) | exact HI354.out)) hb2); have n1_ := Aside0.mk (hb); have n2_ := Aside0.mk (hi); have n3_ := Aside0.mk ((Nat.ne_of_lt (Nat.lt_of_lt_of_le (IsS63.lt (show IsS63 w _ g354 t349 t350 t351 t352 t353 from by repeat (first | (with_reducible first | exact HI354.out | apply IsS63.alloc | apply IsS63.drewN | apply IsS63.drew | apply IsS63.set_1 | apply IsS63.set_2 | apply IsS63.set_3 | apply IsS63.set_4) | exact HI354.out))) hn) : g354 ≠ g362)); have n4_ := Aside0.mk ((Nat.ne_of_gt (Nat.lt_of_lt_of_le (IsS63.lt (show IsS63 w _ g354 t349 t350 t351 t352 t353 from by repeat (first | (with_reducible first | exact HI354.out | apply IsS63.alloc | apply IsS63.drewN | apply IsS63.drew | apply IsS63.set_1 | apply IsS63.set_2 | apply IsS63.set_3 | apply IsS63.set_4) | exact HI354.out))) hn) : g362 ≠ g354)); clear HI354; clear HB; have HI354 := n0_; have HB := n1_; have HI362 := n2_; have NS354_362 := n3_; have NS362_354 := n4_; clear n0_ n1_ n2_ n3_ n4_; (try clear hb); (try clear hb2); (try clear hk); (try clear hi)) | ((with_reducible refine gate_callee (f := 11) rfl ?_); refine goesL_ (some 59) rfl rfl Try.func11 (by kernel_rfl) rfl #[] rfl (by (try simp only [List.map_toArray, List.map_cons, List.map_nil]); first | done | rfl | (simp only [List.length_drop, List.length_take]; rfl)) ?_; (with_reducible refine (windhoverlaw14_awake.calls k  t365 _ A10.out).mono ?_); rintro e w13 ⟨rfl, hb⟩; refine ⟨_, rfl, ?_⟩; have n0_ := Aside0.mk (IsS63.below (by repeat (first | (with_reducible first | exact HI354.out | apply IsS63.alloc | apply IsS63.drewN | apply IsS63.drew | apply IsS63.set_1 | apply IsS63.set_2 | apply IsS63.set_3 | apply IsS63.set_4) | exact HI354.out)) hb); have n1_ := Aside0.mk (IsS63.below (by repeat (first | (with_reducible first | exact HI362.out | apply IsS63.alloc | apply IsS63.drewN | apply IsS63.drew | apply IsS63.set_1 | apply IsS63.set_2 | apply IsS63.set_3 | apply IsS63.set_4) | exact HI362.out)) hb); have n2_ := Aside0.mk (below_step (by repeat (first | (with_reducible first | exact HB.out | apply below_alloc | apply pw_below_drewN | apply below_drew1 | refine below_set ?_ (IsS63.ge HI354.out) | refine below_set ?_ (IsS63.ge HI362.out)) | exact HB.out)) hb); clear HI354; clear HI362; clear HB; have HI354 := n0_; have HI362 := n1_; have HB := n2_; clear n0_ n1_ n2_; (try clear hb); (try clear hb2); (try clear hk); (try clear hi)))
          go_ret
          exact ⟨by first | rfl | (simp [errW_none, errW_some] <;> rfl) | (simp [*, errW_none, errW_some] <;> rfl), by repeat (first | (with_reducible first | exact HB.out | apply below_alloc | apply pw_below_drewN | apply below_drew1 | refine below_set ?_ (IsS63.ge HI354.out) | refine below_set ?_ (IsS63.ge HI362.out)) | exact HB.out)⟩
        · rw [if_neg c9] at H
          have c9b0 : decide (a2 < 0) = false := decide_eq_false c9
          clear c9
          by_cases c14 : a2 > 1099511627776
          · rw [if_pos c14] at H
            have c14b0 : decide (1099511627776 < a2) = true := decide_eq_true c14
            clear c14
            replace H := Option.bind_eq_some_iff.mp H
            obtain ⟨t366, A150, H⟩ := H
            replace H : (some t366) = some r := H
            have A15 := Aside0.mk A150
            clear A150
            obtain rfl := Option.some.inj H
            go_enter Try.func5, Try.ntmps5
            go_wp2_with (first | ((with_reducible refine gate_callee (f := 8) rfl ?_); refine goesL_ (some 16) rfl rfl Try.func8 (by kernel_rfl) rfl #[.slice A0 l0.length c0] rfl (by (try simp only [List.map_toArray, List.map_cons, List.map_nil]); first | done | rfl | (simp only [List.length_drop, List.length_take]; rfl)) ?_; (with_reducible refine (power_New.callsNew k _ _ l0 t349 t350 t351 t352 t353 t355 w _ ?side1 ?side2 ?side3 A4.out (by assumption)).mono ?_); (case side1 => repeat (first | (with_reducible first | exact HB.out | apply below_alloc | apply pw_below_drewN | apply below_drew1) | exact HB.out)); (case side2 => repeat (first | exact HR0.out | (with_reducible refine Kd.C_alloc ?_ _) | (with_reducible refine Kd.C_drewN ?_ _) | (with_reducible refine Kd.C_drew ?_))); (case side3 => exact HC0.out); rintro e w16 ⟨g354, rfl, hi, hb, hb2, hn⟩; refine ⟨_, rfl, ?_⟩; have n0_ := Aside0.mk (hb); have n1_ := Aside0.mk (hi); clear HB; have HB := n0_; have HI354 := n1_; clear n0_ n1_; (try clear hb); (try clear hb2); (try clear hk); (try clear hi)) | ((with_reducible refine gate_callee (f := 8) rfl ?_); refine goesL_ (some 21) rfl rfl Try.func8 (by kernel_rfl) rfl #[.slice A0 l0.length c0] rfl (by (try simp only [List.map_toArray, List.map_cons, List.map_nil]); first | done | rfl | (simp only [List.length_drop, List.length_take]; rfl)) ?_; (with_reducible refine (power_New.callsNew k _ _ l0 t357 t358 t359 t360 t361 t363 w _ ?side1 ?side2 ?side3 A6.out (by assumption)).mono ?_); (case side1 => repeat (first | (with_reducible first | exact HB.out | apply below_alloc | apply pw_below_drewN | apply below_drew1 | refine below_set ?_ (IsS63.ge HI354.out)) | exact HB.out)); (case side2 => repeat (first | exact (Kd.C_below HR0.out HB.out) | (with_reducible refine Kd.C_alloc ?_ _) | (with_reducible refine Kd.C_drewN ?_ _) | (with_reducible refine Kd.C_drew ?_))); (case side3 => exact HC0.out); rintro e w17 ⟨g362, rfl, hi, hb, hb2, hn⟩; refine ⟨_, rfl, ?_⟩; have n0_ := Aside0.mk (IsS63.below (by repeat (first | (with_reducible first | exact HI354.out | apply IsS63.alloc | apply IsS63.drewN | apply IsS63.drew | apply IsS63.set_1 | apply IsS63.set_2 | apply IsS63.set_3 | apply IsS63.set_4) | exact HI354.out)) hb2); have n1_ := Aside0.mk (hb); have n2_ := Aside0.mk (hi); have n3_ := Aside0.mk ((Nat.ne_of_lt (Nat.lt_of_lt_of_le (IsS63.lt (show IsS63 w _ g354 t349 t350 t351 t352 t353 from by repeat (first | (with_reducible first | exact HI354.out | apply IsS63.alloc | apply IsS63.drewN | apply IsS63.drew | apply IsS63.set_1 | apply IsS63.set_2 | apply IsS63.set_3 | apply IsS63.set_4) | exact HI354.out))) hn) : g354 ≠ g362)); have n4_ := Aside0.mk ((Nat.ne_of_gt (Nat.lt_of_lt_of_le (IsS63.lt (show IsS63 w _ g354 t349 t350 t351 t352 t353 from by repeat (first | (with_reducible first | exact HI354.out | apply IsS63.alloc | apply IsS63.drewN | apply IsS63.drew | apply IsS63.set_1 | apply IsS63.set_2 | apply IsS63.set_3 | apply IsS63.set_4) | exact HI354.out))) hn) : g362 ≠ g354)); clear HI354; clear HB; have HI354 := n0_; have HB := n1_; have HI362 := n2_; have NS354_362 := n3_; have NS362_354 := n4_; clear n0_ n1_ n2_ n3_ n4_; (try clear hb); (try clear hb2); (try clear hk); (try clear hi)) | ((with_reducible refine gate_callee (f := 11) rfl ?_); refine goesL_ (some 59) rfl rfl Try.func11 (by kernel_rfl) rfl #[] rfl (by (try simp only [List.map_toArray, List.map_cons, List.map_nil]); first | done | rfl | (simp only [List.length_drop, List.length_take]; rfl)) ?_; (with_reducible refine (windhoverlaw14_awake.calls k  t366 _ A15.out).mono ?_); rintro e w18 ⟨rfl, hb⟩; refine ⟨_, rfl, ?_⟩; have n0_ := Aside0.mk (IsS63.below (by repeat (first | (with_reducible first | exact HI354.out | apply IsS63.alloc | apply IsS63.drewN | apply IsS63.drew | apply IsS63.set_1 | apply IsS63.set_2 | apply IsS63.set_3 | apply IsS63.set_4) | exact HI354.out)) hb); have n1_ := Aside0.mk (IsS63.below (by repeat (first | (with_reducible first | exact HI362.out | apply IsS63.alloc | apply IsS63.drewN | apply IsS63.drew | apply IsS63.set_1 | apply IsS63.set_2 | apply IsS63.set_3 | apply IsS63.set_4) | exact HI362.out)) hb); have n2_ := Aside0.mk (below_step (by repeat (first | (with_reducible first | exact HB.out | apply below_alloc | apply pw_below_drewN | apply below_drew1 | refine below_set ?_ (IsS63.ge HI354.out) | refine below_set ?_ (IsS63.ge HI362.out)) | exact HB.out)) hb); clear HI354; clear HI362; clear HB; have HI354 := n0_; have HI362 := n1_; have HB := n2_; clear n0_ n1_ n2_; (try clear hb); (try clear hb2); (try clear hk); (try clear hi)))
            go_ret
            exact ⟨by first | rfl | (simp [errW_none, errW_some] <;> rfl) | (simp [*, errW_none, errW_some] <;> rfl), by repeat (first | (with_reducible first | exact HB.out | apply below_alloc | apply pw_below_drewN | apply below_drew1 | refine below_set ?_ (IsS63.ge HI354.out) | refine below_set ?_ (IsS63.ge HI362.out)) | exact HB.out)⟩
          · rw [if_neg c14] at H
            have c14b0 : decide (1099511627776 < a2) = false := decide_eq_false c14
            clear c14
            by_cases c19 : a1 < 0
            · rw [if_pos c19] at H
              have c19b0 : decide (a1 < 0) = true := decide_eq_true c19
              clear c19
              replace H := Option.bind_eq_some_iff.mp H
              obtain ⟨t367, A200, H⟩ := H
              replace H : (some t367) = some r := H
              have A20 := Aside0.mk A200
              clear A200
              obtain rfl := Option.some.inj H
              go_enter Try.func5, Try.ntmps5
              go_wp2_with (first | ((with_reducible refine gate_callee (f := 8) rfl ?_); refine goesL_ (some 16) rfl rfl Try.func8 (by kernel_rfl) rfl #[.slice A0 l0.length c0] rfl (by (try simp only [List.map_toArray, List.map_cons, List.map_nil]); first | done | rfl | (simp only [List.length_drop, List.length_take]; rfl)) ?_; (with_reducible refine (power_New.callsNew k _ _ l0 t349 t350 t351 t352 t353 t355 w _ ?side1 ?side2 ?side3 A4.out (by assumption)).mono ?_); (case side1 => repeat (first | (with_reducible first | exact HB.out | apply below_alloc | apply pw_below_drewN | apply below_drew1) | exact HB.out)); (case side2 => repeat (first | exact HR0.out | (with_reducible refine Kd.C_alloc ?_ _) | (with_reducible refine Kd.C_drewN ?_ _) | (with_reducible refine Kd.C_drew ?_))); (case side3 => exact HC0.out); rintro e w21 ⟨g354, rfl, hi, hb, hb2, hn⟩; refine ⟨_, rfl, ?_⟩; have n0_ := Aside0.mk (hb); have n1_ := Aside0.mk (hi); clear HB; have HB := n0_; have HI354 := n1_; clear n0_ n1_; (try clear hb); (try clear hb2); (try clear hk); (try clear hi)) | ((with_reducible refine gate_callee (f := 8) rfl ?_); refine goesL_ (some 21) rfl rfl Try.func8 (by kernel_rfl) rfl #[.slice A0 l0.length c0] rfl (by (try simp only [List.map_toArray, List.map_cons, List.map_nil]); first | done | rfl | (simp only [List.length_drop, List.length_take]; rfl)) ?_; (with_reducible refine (power_New.callsNew k _ _ l0 t357 t358 t359 t360 t361 t363 w _ ?side1 ?side2 ?side3 A6.out (by assumption)).mono ?_); (case side1 => repeat (first | (with_reducible first | exact HB.out | apply below_alloc | apply pw_below_drewN | apply below_drew1 | refine below_set ?_ (IsS63.ge HI354.out)) | exact HB.out)); (case side2 => repeat (first | exact (Kd.C_below HR0.out HB.out) | (with_reducible refine Kd.C_alloc ?_ _) | (with_reducible refine Kd.C_drewN ?_ _) | (with_reducible refine Kd.C_drew ?_))); (case side3 => exact HC0.out); rintro e w22 ⟨g362, rfl, hi, hb, hb2, hn⟩; refine ⟨_, rfl, ?_⟩; have n0_ := Aside0.mk (IsS63.below (by repeat (first | (with_reducible first | exact HI354.out | apply IsS63.alloc | apply IsS63.drewN | apply IsS63.drew | apply IsS63.set_1 | apply IsS63.set_2 | apply IsS63.set_3 | apply IsS63.set_4) | exact HI354.out)) hb2); have n1_ := Aside0.mk (hb); have n2_ := Aside0.mk (hi); have n3_ := Aside0.mk ((Nat.ne_of_lt (Nat.lt_of_lt_of_le (IsS63.lt (show IsS63 w _ g354 t349 t350 t351 t352 t353 from by repeat (first | (with_reducible first | exact HI354.out | apply IsS63.alloc | apply IsS63.drewN | apply IsS63.drew | apply IsS63.set_1 | apply IsS63.set_2 | apply IsS63.set_3 | apply IsS63.set_4) | exact HI354.out))) hn) : g354 ≠ g362)); have n4_ := Aside0.mk ((Nat.ne_of_gt (Nat.lt_of_lt_of_le (IsS63.lt (show IsS63 w _ g354 t349 t350 t351 t352 t353 from by repeat (first | (with_reducible first | exact HI354.out | apply IsS63.alloc | apply IsS63.drewN | apply IsS63.drew | apply IsS63.set_1 | apply IsS63.set_2 | apply IsS63.set_3 | apply IsS63.set_4) | exact HI354.out))) hn) : g362 ≠ g354)); clear HI354; clear HB; have HI354 := n0_; have HB := n1_; have HI362 := n2_; have NS354_362 := n3_; have NS362_354 := n4_; clear n0_ n1_ n2_ n3_ n4_; (try clear hb); (try clear hb2); (try clear hk); (try clear hi)) | ((with_reducible refine gate_callee (f := 11) rfl ?_); refine goesL_ (some 59) rfl rfl Try.func11 (by kernel_rfl) rfl #[] rfl (by (try simp only [List.map_toArray, List.map_cons, List.map_nil]); first | done | rfl | (simp only [List.length_drop, List.length_take]; rfl)) ?_; (with_reducible refine (windhoverlaw14_awake.calls k  t367 _ A20.out).mono ?_); rintro e w23 ⟨rfl, hb⟩; refine ⟨_, rfl, ?_⟩; have n0_ := Aside0.mk (IsS63.below (by repeat (first | (with_reducible first | exact HI354.out | apply IsS63.alloc | apply IsS63.drewN | apply IsS63.drew | apply IsS63.set_1 | apply IsS63.set_2 | apply IsS63.set_3 | apply IsS63.set_4) | exact HI354.out)) hb); have n1_ := Aside0.mk (IsS63.below (by repeat (first | (with_reducible first | exact HI362.out | apply IsS63.alloc | apply IsS63.drewN | apply IsS63.drew | apply IsS63.set_1 | apply IsS63.set_2 | apply IsS63.set_3 | apply IsS63.set_4) | exact HI362.out)) hb); have n2_ := Aside0.mk (below_step (by repeat (first | (with_reducible first | exact HB.out | apply below_alloc | apply pw_below_drewN | apply below_drew1 | refine below_set ?_ (IsS63.ge HI354.out) | refine below_set ?_ (IsS63.ge HI362.out)) | exact HB.out)) hb); clear HI354; clear HI362; clear HB; have HI354 := n0_; have HI362 := n1_; have HB := n2_; clear n0_ n1_ n2_; (try clear hb); (try clear hb2); (try clear hk); (try clear hi)))
              go_ret
              exact ⟨by first | rfl | (simp [errW_none, errW_some] <;> rfl) | (simp [*, errW_none, errW_some] <;> rfl), by repeat (first | (with_reducible first | exact HB.out | apply below_alloc | apply pw_below_drewN | apply below_drew1 | refine below_set ?_ (IsS63.ge HI354.out) | refine below_set ?_ (IsS63.ge HI362.out)) | exact HB.out)⟩
            · rw [if_neg c19] at H
              have c19b0 : decide (a1 < 0) = false := decide_eq_false c19
              clear c19
              by_cases c24 : a1 > 1099511627776
              · rw [if_pos c24] at H
                have c24b0 : decide (1099511627776 < a1) = true := decide_eq_true c24
                clear c24
                replace H := Option.bind_eq_some_iff.mp H
                obtain ⟨t368, A250, H⟩ := H
                replace H : (some t368) = some r := H
                have A25 := Aside0.mk A250
                clear A250
                obtain rfl := Option.some.inj H
                go_enter Try.func5, Try.ntmps5
                go_wp2_with (first | ((with_reducible refine gate_callee (f := 8) rfl ?_); refine goesL_ (some 16) rfl rfl Try.func8 (by kernel_rfl) rfl #[.slice A0 l0.length c0] rfl (by (try simp only [List.map_toArray, List.map_cons, List.map_nil]); first | done | rfl | (simp only [List.length_drop, List.length_take]; rfl)) ?_; (with_reducible refine (power_New.callsNew k _ _ l0 t349 t350 t351 t352 t353 t355 w _ ?side1 ?side2 ?side3 A4.out (by assumption)).mono ?_); (case side1 => repeat (first | (with_reducible first | exact HB.out | apply below_alloc | apply pw_below_drewN | apply below_drew1) | exact HB.out)); (case side2 => repeat (first | exact HR0.out | (with_reducible refine Kd.C_alloc ?_ _) | (with_reducible refine Kd.C_drewN ?_ _) | (with_reducible refine Kd.C_drew ?_))); (case side3 => exact HC0.out); rintro e w26 ⟨g354, rfl, hi, hb, hb2, hn⟩; refine ⟨_, rfl, ?_⟩; have n0_ := Aside0.mk (hb); have n1_ := Aside0.mk (hi); clear HB; have HB := n0_; have HI354 := n1_; clear n0_ n1_; (try clear hb); (try clear hb2); (try clear hk); (try clear hi)) | ((with_reducible refine gate_callee (f := 8) rfl ?_); refine goesL_ (some 21) rfl rfl Try.func8 (by kernel_rfl) rfl #[.slice A0 l0.length c0] rfl (by (try simp only [List.map_toArray, List.map_cons, List.map_nil]); first | done | rfl | (simp only [List.length_drop, List.length_take]; rfl)) ?_; (with_reducible refine (power_New.callsNew k _ _ l0 t357 t358 t359 t360 t361 t363 w _ ?side1 ?side2 ?side3 A6.out (by assumption)).mono ?_); (case side1 => repeat (first | (with_reducible first | exact HB.out | apply below_alloc | apply pw_below_drewN | apply below_drew1 | refine below_set ?_ (IsS63.ge HI354.out)) | exact HB.out)); (case side2 => repeat (first | exact (Kd.C_below HR0.out HB.out) | (with_reducible refine Kd.C_alloc ?_ _) | (with_reducible refine Kd.C_drewN ?_ _) | (with_reducible refine Kd.C_drew ?_))); (case side3 => exact HC0.out); rintro e w27 ⟨g362, rfl, hi, hb, hb2, hn⟩; refine ⟨_, rfl, ?_⟩; have n0_ := Aside0.mk (IsS63.below (by repeat (first | (with_reducible first | exact HI354.out | apply IsS63.alloc | apply IsS63.drewN | apply IsS63.drew | apply IsS63.set_1 | apply IsS63.set_2 | apply IsS63.set_3 | apply IsS63.set_4) | exact HI354.out)) hb2); have n1_ := Aside0.mk (hb); have n2_ := Aside0.mk (hi); have n3_ := Aside0.mk ((Nat.ne_of_lt (Nat.lt_of_lt_of_le (IsS63.lt (show IsS63 w _ g354 t349 t350 t351 t352 t353 from by repeat (first | (with_reducible first | exact HI354.out | apply IsS63.alloc | apply IsS63.drewN | apply IsS63.drew | apply IsS63.set_1 | apply IsS63.set_2 | apply IsS63.set_3 | apply IsS63.set_4) | exact HI354.out))) hn) : g354 ≠ g362)); have n4_ := Aside0.mk ((Nat.ne_of_gt (Nat.lt_of_lt_of_le (IsS63.lt (show IsS63 w _ g354 t349 t350 t351 t352 t353 from by repeat (first | (with_reducible first | exact HI354.out | apply IsS63.alloc | apply IsS63.drewN | apply IsS63.drew | apply IsS63.set_1 | apply IsS63.set_2 | apply IsS63.set_3 | apply IsS63.set_4) | exact HI354.out))) hn) : g362 ≠ g354)); clear HI354; clear HB; have HI354 := n0_; have HB := n1_; have HI362 := n2_; have NS354_362 := n3_; have NS362_354 := n4_; clear n0_ n1_ n2_ n3_ n4_; (try clear hb); (try clear hb2); (try clear hk); (try clear hi)) | ((with_reducible refine gate_callee (f := 11) rfl ?_); refine goesL_ (some 59) rfl rfl Try.func11 (by kernel_rfl) rfl #[] rfl (by (try simp only [List.map_toArray, List.map_cons, List.map_nil]); first | done | rfl | (simp only [List.length_drop, List.length_take]; rfl)) ?_; (with_reducible refine (windhoverlaw14_awake.calls k  t368 _ A25.out).mono ?_); rintro e w28 ⟨rfl, hb⟩; refine ⟨_, rfl, ?_⟩; have n0_ := Aside0.mk (IsS63.below (by repeat (first | (with_reducible first | exact HI354.out | apply IsS63.alloc | apply IsS63.drewN | apply IsS63.drew | apply IsS63.set_1 | apply IsS63.set_2 | apply IsS63.set_3 | apply IsS63.set_4) | exact HI354.out)) hb); have n1_ := Aside0.mk (IsS63.below (by repeat (first | (with_reducible first | exact HI362.out | apply IsS63.alloc | apply IsS63.drewN | apply IsS63.drew | apply IsS63.set_1 | apply IsS63.set_2 | apply IsS63.set_3 | apply IsS63.set_4) | exact HI362.out)) hb); have n2_ := Aside0.mk (below_step (by repeat (first | (with_reducible first | exact HB.out | apply below_alloc | apply pw_below_drewN | apply below_drew1 | refine below_set ?_ (IsS63.ge HI354.out) | refine below_set ?_ (IsS63.ge HI362.out)) | exact HB.out)) hb); clear HI354; clear HI362; clear HB; have HI354 := n0_; have HI362 := n1_; have HB := n2_; clear n0_ n1_ n2_; (try clear hb); (try clear hb2); (try clear hk); (try clear hi)))
                go_ret
                exact ⟨by first | rfl | (simp [errW_none, errW_some] <;> rfl) | (simp [*, errW_none, errW_some] <;> rfl), by repeat (first | (with_reducible first | exact HB.out | apply below_alloc | apply pw_below_drewN | apply below_drew1 | refine below_set ?_ (IsS63.ge HI354.out) | refine below_set ?_ (IsS63.ge HI362.out)) | exact HB.out)⟩
              · rw [if_neg c24] at H
                have c24b0 : decide (1099511627776 < a1) = false := decide_eq_false c24
                clear c24
                replace H := Option.bind_eq_some_iff.mp H
                obtain ⟨⟨t369, t370, t371, t372⟩, A290, H⟩ := H
                replace H : ((power_Battery_Step.f k t357 t358 t359 t360 t361 true (wrap64 (a1 + a2))).bind fun bt373 => (windhoverlaw14_PowerRises.l0 k a2 0 t349 t369 t370 t371 t372 t357 bt373.1 bt373.2.1 bt373.2.2.1 bt373.2.2.2)) = some r := H
                have A29 := Aside0.mk A290
                clear A290
                replace H := Option.bind_eq_some_iff.mp H
                obtain ⟨⟨t373, t374, t375, t376⟩, A300, H⟩ := H
                replace H : (windhoverlaw14_PowerRises.l0 k a2 0 t349 t369 t370 t371 t372 t357 t373 t374 t375 t376) = some r := H
                have A30 := Aside0.mk A300
                clear A300
                have H' := Aside0.mk H
                clear H
                go_enter Try.func5, Try.ntmps5
                go_wp2_with (first | ((with_reducible refine gate_callee (f := 8) rfl ?_); refine goesL_ (some 16) rfl rfl Try.func8 (by kernel_rfl) rfl #[.slice A0 l0.length c0] rfl (by (try simp only [List.map_toArray, List.map_cons, List.map_nil]); first | done | rfl | (simp only [List.length_drop, List.length_take]; rfl)) ?_; (with_reducible refine (power_New.callsNew k _ _ l0 t349 t350 t351 t352 t353 t355 w _ ?side1 ?side2 ?side3 A4.out (by assumption)).mono ?_); (case side1 => repeat (first | (with_reducible first | exact HB.out | apply below_alloc | apply pw_below_drewN | apply below_drew1) | exact HB.out)); (case side2 => repeat (first | exact HR0.out | (with_reducible refine Kd.C_alloc ?_ _) | (with_reducible refine Kd.C_drewN ?_ _) | (with_reducible refine Kd.C_drew ?_))); (case side3 => exact HC0.out); rintro e w31 ⟨g354, rfl, hi, hb, hb2, hn⟩; refine ⟨_, rfl, ?_⟩; have n0_ := Aside0.mk (hb); have n1_ := Aside0.mk (hi); clear HB; have HB := n0_; have HI354 := n1_; clear n0_ n1_; (try clear hb); (try clear hb2); (try clear hk); (try clear hi)) | ((with_reducible refine gate_callee (f := 8) rfl ?_); refine goesL_ (some 21) rfl rfl Try.func8 (by kernel_rfl) rfl #[.slice A0 l0.length c0] rfl (by (try simp only [List.map_toArray, List.map_cons, List.map_nil]); first | done | rfl | (simp only [List.length_drop, List.length_take]; rfl)) ?_; (with_reducible refine (power_New.callsNew k _ _ l0 t357 t358 t359 t360 t361 t363 w _ ?side1 ?side2 ?side3 A6.out (by assumption)).mono ?_); (case side1 => repeat (first | (with_reducible first | exact HB.out | apply below_alloc | apply pw_below_drewN | apply below_drew1 | refine below_set ?_ (IsS63.ge HI354.out)) | exact HB.out)); (case side2 => repeat (first | exact (Kd.C_below HR0.out HB.out) | (with_reducible refine Kd.C_alloc ?_ _) | (with_reducible refine Kd.C_drewN ?_ _) | (with_reducible refine Kd.C_drew ?_))); (case side3 => exact HC0.out); rintro e w32 ⟨g362, rfl, hi, hb, hb2, hn⟩; refine ⟨_, rfl, ?_⟩; have n0_ := Aside0.mk (IsS63.below (by repeat (first | (with_reducible first | exact HI354.out | apply IsS63.alloc | apply IsS63.drewN | apply IsS63.drew | apply IsS63.set_1 | apply IsS63.set_2 | apply IsS63.set_3 | apply IsS63.set_4) | exact HI354.out)) hb2); have n1_ := Aside0.mk (hb); have n2_ := Aside0.mk (hi); have n3_ := Aside0.mk ((Nat.ne_of_lt (Nat.lt_of_lt_of_le (IsS63.lt (show IsS63 w _ g354 t349 t350 t351 t352 t353 from by repeat (first | (with_reducible first | exact HI354.out | apply IsS63.alloc | apply IsS63.drewN | apply IsS63.drew | apply IsS63.set_1 | apply IsS63.set_2 | apply IsS63.set_3 | apply IsS63.set_4) | exact HI354.out))) hn) : g354 ≠ g362)); have n4_ := Aside0.mk ((Nat.ne_of_gt (Nat.lt_of_lt_of_le (IsS63.lt (show IsS63 w _ g354 t349 t350 t351 t352 t353 from by repeat (first | (with_reducible first | exact HI354.out | apply IsS63.alloc | apply IsS63.drewN | apply IsS63.drew | apply IsS63.set_1 | apply IsS63.set_2 | apply IsS63.set_3 | apply IsS63.set_4) | exact HI354.out))) hn) : g362 ≠ g354)); clear HI354; clear HB; have HI354 := n0_; have HB := n1_; have HI362 := n2_; have NS354_362 := n3_; have NS362_354 := n4_; clear n0_ n1_ n2_ n3_ n4_; (try clear hb); (try clear hb2); (try clear hk); (try clear hi)) | ((with_reducible refine gate_callee (f := 13) rfl ?_); refine goesL_ (some 63) rfl rfl Try.func13 (by kernel_rfl) rfl #[.pointer (some ⟨g354, 0, none⟩), .agg #[.bool true, .int .i64 a1]] rfl (by (try simp only [List.map_toArray, List.map_cons, List.map_nil]); first | done | rfl | (simp only [List.length_drop, List.length_take]; rfl)) ?_; (with_reducible refine (power_Battery_Step.calls k g354 t349 t350 t351 t352 t353 true a1 t369 t370 t371 t372 w _ ?side1 ?side2 A29.out).mono ?_); (case side1 => repeat (first | (with_reducible first | exact HI354.out | apply IsS63.alloc | apply IsS63.drewN | apply IsS63.drew | apply IsS63.set_1 | apply IsS63.set_2 | apply IsS63.set_3 | apply IsS63.set_4) | exact HI354.out)); (case side2 => repeat (first | (with_reducible first | exact HB.out | apply below_alloc | apply pw_below_drewN | apply below_drew1 | refine below_set ?_ (IsS63.ge HI354.out) | refine below_set ?_ (IsS63.ge HI362.out)) | exact HB.out)); rintro e w33 ⟨rfl, hi, hb, hk⟩; refine ⟨_, rfl, ?_⟩; have n0_ := Aside0.mk (IsS63.keep (show IsS63 w _ g362 t357 t358 t359 t360 t361 from by repeat (first | (with_reducible first | exact HI362.out | apply IsS63.alloc | apply IsS63.drewN | apply IsS63.drew | apply IsS63.set_1 | apply IsS63.set_2 | apply IsS63.set_3 | apply IsS63.set_4) | exact HI362.out)) (show IsS63 w _ g354 t349 t350 t351 t352 t353 from by repeat (first | (with_reducible first | exact HI354.out | apply IsS63.alloc | apply IsS63.drewN | apply IsS63.drew | apply IsS63.set_1 | apply IsS63.set_2 | apply IsS63.set_3 | apply IsS63.set_4) | exact HI354.out)) hk NS362_354.out); have n1_ := Aside0.mk (hb); have n2_ := Aside0.mk (hi); clear HI362; clear HB; clear HI354; have HI362 := n0_; have HB := n1_; have HI354 := n2_; clear n0_ n1_ n2_; (try clear hb); (try clear hb2); (try clear hk); (try clear hi)) | ((with_reducible refine gate_callee (f := 13) rfl ?_); refine goesL_ (some 69) rfl rfl Try.func13 (by kernel_rfl) rfl #[.pointer (some ⟨g362, 0, none⟩), .agg #[.bool true, .int .i64 (wrap64 (a1 + a2))]] rfl (by (try simp only [List.map_toArray, List.map_cons, List.map_nil]); first | done | rfl | (simp only [List.length_drop, List.length_take]; rfl)) ?_; (with_reducible refine (power_Battery_Step.calls k g362 t357 t358 t359 t360 t361 true (wrap64 (a1 + a2)) t373 t374 t375 t376 w _ ?side1 ?side2 A30.out).mono ?_); (case side1 => repeat (first | (with_reducible first | exact HI362.out | apply IsS63.alloc | apply IsS63.drewN | apply IsS63.drew | apply IsS63.set_1 | apply IsS63.set_2 | apply IsS63.set_3 | apply IsS63.set_4) | exact HI362.out)); (case side2 => repeat (first | (with_reducible first | exact HB.out | apply below_alloc | apply pw_below_drewN | apply below_drew1 | refine below_set ?_ (IsS63.ge HI354.out) | refine below_set ?_ (IsS63.ge HI362.out)) | exact HB.out)); rintro e w34 ⟨rfl, hi, hb, hk⟩; refine ⟨_, rfl, ?_⟩; have n0_ := Aside0.mk (IsS63.keep (show IsS63 w _ g354 t349 t369 t370 t371 t372 from by repeat (first | (with_reducible first | exact HI354.out | apply IsS63.alloc | apply IsS63.drewN | apply IsS63.drew | apply IsS63.set_1 | apply IsS63.set_2 | apply IsS63.set_3 | apply IsS63.set_4) | exact HI354.out)) (show IsS63 w _ g362 t357 t358 t359 t360 t361 from by repeat (first | (with_reducible first | exact HI362.out | apply IsS63.alloc | apply IsS63.drewN | apply IsS63.drew | apply IsS63.set_1 | apply IsS63.set_2 | apply IsS63.set_3 | apply IsS63.set_4) | exact HI362.out)) hk NS354_362.out); have n1_ := Aside0.mk (hb); have n2_ := Aside0.mk (hi); clear HI354; clear HB; clear HI362; have HI354 := n0_; have HB := n1_; have HI362 := n2_; clear n0_ n1_ n2_; (try clear hb); (try clear hb2); (try clear hk); (try clear hi)))
                go_loopg [11] k (fun kq v11 w' => ∃ (x11_1 : Int) (x355001_1 : Int) (x355002_1 : Bool) (x355003_1 : Int) (x355004_1 : Int) (x363001_1 : Int) (x363002_1 : Bool) (x363003_1 : Int) (x363004_1 : Int), v11 = .int .i64 x11_1 ∧ Aside0 (windhoverlaw14_PowerRises.l0 kq a2 x11_1 t349 x355001_1 x355002_1 x355003_1 x355004_1 t357 x363001_1 x363002_1 x363003_1 x363004_1 = some r) ∧ Aside0 (kq ≤ k) ∧ Aside0 (IsS63 w w' g354 t349 x355001_1 x355002_1 x355003_1 x355004_1) ∧ Aside0 (IsS63 w w' g362 t357 x363001_1 x363002_1 x363003_1 x363004_1) ∧ Aside0 (Below w.heap.size w w'))
                case atStart => exact ⟨(0), (t369), (t370), (t371), (t372), (t373), (t374), (t375), (t376), (by first | rfl | (simp; done) | (simp [*]; done)), H', ⟨Nat.le_refl _⟩, ⟨by repeat (first | (with_reducible first | exact HI354.out | apply IsS63.alloc | apply IsS63.drewN | apply IsS63.drew | apply IsS63.set_1 | apply IsS63.set_2 | apply IsS63.set_3 | apply IsS63.set_4) | exact HI354.out)⟩, ⟨by repeat (first | (with_reducible first | exact HI362.out | apply IsS63.alloc | apply IsS63.drewN | apply IsS63.drew | apply IsS63.set_1 | apply IsS63.set_2 | apply IsS63.set_3 | apply IsS63.set_4) | exact HI362.out)⟩, ⟨by repeat (first | (with_reducible first | exact HB.out | apply below_alloc | apply pw_below_drewN | apply below_drew1 | refine below_set ?_ (IsS63.ge HI354.out) | refine below_set ?_ (IsS63.ge HI362.out)) | exact HB.out)⟩⟩
                case round =>
                  clear H'
                  try clear c1
                  try clear c2
                  try clear p2
                  try clear c5
                  try clear c5b0
                  try clear c5b1
                  try clear p6
                  try clear c7
                  try clear c7b0
                  try clear c7b1
                  try clear c8
                  try clear c8b0
                  try clear c8b1
                  try clear c9
                  try clear c9b0
                  try clear c11
                  try clear c13
                  try clear c14
                  try clear c14b0
                  try clear c19
                  try clear c19b0
                  try clear c24
                  try clear c24b0
                  obtain ⟨x11_1, x355001_1, x355002_1, x355003_1, x355004_1, x363001_1, x363002_1, x363003_1, x363004_1, rfl, HA, HK1, HI354, HI362, HB⟩ := hrel
                  cases gk with
                  | zero => exact absurd HA.out (by simp [windhoverlaw14_PowerRises.l0])
                  | succ k1 =>
                    have H := HA.out
                    clear HA
                    simp only [windhoverlaw14_PowerRises.l0] at H
                    by_cases c35 : x11_1 ≤ 536870912
                    · rw [if_pos c35] at H
                      have c35b0 : decide (x11_1 ≤ 536870912) = true := decide_eq_true c35
                      clear c35
                      have H' := Aside0.mk H
                      clear H
                      go_wp2
                      go_loopg [12] k1 (fun kq v12 w' => ∃ (x12_2 : Int) (x355001_2 : Int) (x355002_2 : Bool) (x355003_2 : Int) (x355004_2 : Int) (x363001_2 : Int) (x363002_2 : Bool) (x363003_2 : Int) (x363004_2 : Int), v12 = .int .i64 x12_2 ∧ Aside0 (windhoverlaw14_PowerRises.l1 kq a2 x11_1 x12_2 t349 x355001_2 x355002_2 x355003_2 x355004_2 t357 x363001_2 x363002_2 x363003_2 x363004_2 = some r) ∧ Aside0 (kq ≤ k1) ∧ Aside0 (IsS63 w w' g354 t349 x355001_2 x355002_2 x355003_2 x355004_2) ∧ Aside0 (IsS63 w w' g362 t357 x363001_2 x363002_2 x363003_2 x363004_2) ∧ Aside0 (Below w.heap.size w w'))
                      case atStart => exact ⟨(0), (x355001_1), (x355002_1), (x355003_1), (x355004_1), (x363001_1), (x363002_1), (x363003_1), (x363004_1), (by first | rfl | (simp; done) | (simp [*]; done)), H', ⟨Nat.le_refl _⟩, ⟨by repeat (first | (with_reducible first | exact HI354.out | apply IsS63.alloc | apply IsS63.drewN | apply IsS63.drew | apply IsS63.set_1 | apply IsS63.set_2 | apply IsS63.set_3 | apply IsS63.set_4) | exact HI354.out)⟩, ⟨by repeat (first | (with_reducible first | exact HI362.out | apply IsS63.alloc | apply IsS63.drewN | apply IsS63.drew | apply IsS63.set_1 | apply IsS63.set_2 | apply IsS63.set_3 | apply IsS63.set_4) | exact HI362.out)⟩, ⟨by repeat (first | (with_reducible first | exact HB.out | apply below_alloc | apply pw_below_drewN | apply below_drew1 | refine below_set ?_ (IsS63.ge HI354.out) | refine below_set ?_ (IsS63.ge HI362.out)) | exact HB.out)⟩⟩
                      case round =>
                        clear H'
                        try clear c1
                        try clear c2
                        try clear p2
                        try clear c3
                        try clear c5
                        try clear c5b0
                        try clear c5b1
                        try clear p6
                        try clear c7
                        try clear c7b0
                        try clear c7b1
                        try clear c8
                        try clear c8b0
                        try clear c8b1
                        try clear c9
                        try clear c9b0
                        try clear c11
                        try clear c13
                        try clear c14
                        try clear c14b0
                        try clear c19
                        try clear c19b0
                        try clear c24
                        try clear c24b0
                        try clear c35
                        try clear c35b0
                        try clear p2
                        try clear p6
                        obtain ⟨x12_2, x355001_2, x355002_2, x355003_2, x355004_2, x363001_2, x363002_2, x363003_2, x363004_2, rfl, HA, HK2, HI354, HI362, HB⟩ := hrel
                        cases gk with
                        | zero => exact absurd HA.out (by simp [windhoverlaw14_PowerRises.l1])
                        | succ k2 =>
                          have H := HA.out
                          clear HA
                          simp only [windhoverlaw14_PowerRises.l1] at H
                          by_cases c36 : x12_2 ≤ 536870912
                          · rw [if_pos c36] at H
                            have c36b0 : decide (x12_2 ≤ 536870912) = true := decide_eq_true c36
                            clear c36
                            replace H := Option.bind_eq_some_iff.mp H
                            obtain ⟨⟨t377, t378, t379, t380, t381⟩, A370, H⟩ := H
                            replace H : ((power_Battery_Tier.f k2 t357 x363001_2 x363002_2 x363003_2 x363004_2 x11_1 x12_2).bind fun bt382 => (if bt382.1 > t377 then (none) else ((power_Battery_Tier.f k2 t349 t378 t379 t380 t381 (wrap64 (x11_1 + a2)) x12_2).bind fun bt387 => (if bt387.1 < t377 then (none) else ((power_Battery_Tier.f k2 t349 bt387.2.1 bt387.2.2.1 bt387.2.2.2.1 bt387.2.2.2.2 x11_1 (wrap64 (x12_2 + a2))).bind fun bt392 => (if bt392.1 < t377 then (none) else (windhoverlaw14_PowerRises.l1 k2 a2 x11_1 (wrap64 ((wrap64 (16 * x12_2)) + 5000)) t349 bt392.2.1 bt392.2.2.1 bt392.2.2.2.1 bt392.2.2.2.2 t357 bt382.2.1 bt382.2.2.1 bt382.2.2.2.1 bt382.2.2.2.2))))))) = some r := H
                            have A37 := Aside0.mk A370
                            clear A370
                            replace H := Option.bind_eq_some_iff.mp H
                            obtain ⟨⟨t382, t383, t384, t385, t386⟩, A380, H⟩ := H
                            replace H : (if t382 > t377 then (none) else ((power_Battery_Tier.f k2 t349 t378 t379 t380 t381 (wrap64 (x11_1 + a2)) x12_2).bind fun bt387 => (if bt387.1 < t377 then (none) else ((power_Battery_Tier.f k2 t349 bt387.2.1 bt387.2.2.1 bt387.2.2.2.1 bt387.2.2.2.2 x11_1 (wrap64 (x12_2 + a2))).bind fun bt392 => (if bt392.1 < t377 then (none) else (windhoverlaw14_PowerRises.l1 k2 a2 x11_1 (wrap64 ((wrap64 (16 * x12_2)) + 5000)) t349 bt392.2.1 bt392.2.2.1 bt392.2.2.2.1 bt392.2.2.2.2 t357 t383 t384 t385 t386)))))) = some r := H
                            have A38 := Aside0.mk A380
                            clear A380
                            by_cases c39 : t382 > t377
                            · rw [if_pos c39] at H
                              exact absurd H (by simp)
                            · rw [if_neg c39] at H
                              have c39b0 : decide (t377 < t382) = false := decide_eq_false c39
                              clear c39
                              replace H := Option.bind_eq_some_iff.mp H
                              obtain ⟨⟨t387, t388, t389, t390, t391⟩, A400, H⟩ := H
                              replace H : (if t387 < t377 then (none) else ((power_Battery_Tier.f k2 t349 t388 t389 t390 t391 x11_1 (wrap64 (x12_2 + a2))).bind fun bt392 => (if bt392.1 < t377 then (none) else (windhoverlaw14_PowerRises.l1 k2 a2 x11_1 (wrap64 ((wrap64 (16 * x12_2)) + 5000)) t349 bt392.2.1 bt392.2.2.1 bt392.2.2.2.1 bt392.2.2.2.2 t357 t383 t384 t385 t386)))) = some r := H
                              have A40 := Aside0.mk A400
                              clear A400
                              by_cases c41 : t387 < t377
                              · rw [if_pos c41] at H
                                exact absurd H (by simp)
                              · rw [if_neg c41] at H
                                have c41b0 : decide (t387 < t377) = false := decide_eq_false c41
                                clear c41
                                replace H := Option.bind_eq_some_iff.mp H
                                obtain ⟨⟨t392, t393, t394, t395, t396⟩, A420, H⟩ := H
                                replace H : (if t392 < t377 then (none) else (windhoverlaw14_PowerRises.l1 k2 a2 x11_1 (wrap64 ((wrap64 (16 * x12_2)) + 5000)) t349 t393 t394 t395 t396 t357 t383 t384 t385 t386)) = some r := H
                                have A42 := Aside0.mk A420
                                clear A420
                                by_cases c43 : t392 < t377
                                · rw [if_pos c43] at H
                                  exact absurd H (by simp)
                                · rw [if_neg c43] at H
                                  have c43b0 : decide (t392 < t377) = false := decide_eq_false c43
                                  clear c43
                                  have H' := Aside0.mk H
                                  clear H
                                  go_wp2_with (first | ((with_reducible refine gate_callee (f := 16) rfl ?_); refine goesL_ (some 83) rfl rfl Try.func16 (by kernel_rfl) rfl #[.pointer (some ⟨g354, 0, none⟩), .int .i64 x11_1, .int .i64 x12_2] rfl (by (try simp only [List.map_toArray, List.map_cons, List.map_nil]); first | done | rfl | (simp only [List.length_drop, List.length_take]; rfl)) ?_; (with_reducible refine (power_Battery_Tier.calls k2 g354 t349 x355001_2 x355002_2 x355003_2 x355004_2 x11_1 x12_2 t377 t378 t379 t380 t381 w _ ?side1 ?side2 A37.out).mono ?_); (case side1 => repeat (first | (with_reducible first | exact HI354.out | apply IsS63.alloc | apply IsS63.drewN | apply IsS63.drew | apply IsS63.set_1 | apply IsS63.set_2 | apply IsS63.set_3 | apply IsS63.set_4) | exact HI354.out)); (case side2 => repeat (first | (with_reducible first | exact HB.out | apply below_alloc | apply pw_below_drewN | apply below_drew1 | refine below_set ?_ (IsS63.ge HI354.out) | refine below_set ?_ (IsS63.ge HI362.out)) | exact HB.out)); rintro e w44 ⟨rfl, hi, hb, hk⟩; refine ⟨_, rfl, ?_⟩; have n0_ := Aside0.mk (IsS63.keep (show IsS63 w _ g362 t357 x363001_2 x363002_2 x363003_2 x363004_2 from by repeat (first | (with_reducible first | exact HI362.out | apply IsS63.alloc | apply IsS63.drewN | apply IsS63.drew | apply IsS63.set_1 | apply IsS63.set_2 | apply IsS63.set_3 | apply IsS63.set_4) | exact HI362.out)) (show IsS63 w _ g354 t349 x355001_2 x355002_2 x355003_2 x355004_2 from by repeat (first | (with_reducible first | exact HI354.out | apply IsS63.alloc | apply IsS63.drewN | apply IsS63.drew | apply IsS63.set_1 | apply IsS63.set_2 | apply IsS63.set_3 | apply IsS63.set_4) | exact HI354.out)) hk NS362_354.out); have n1_ := Aside0.mk (hb); have n2_ := Aside0.mk (hi); clear HI362; clear HB; clear HI354; have HI362 := n0_; have HB := n1_; have HI354 := n2_; clear n0_ n1_ n2_; (try clear hb); (try clear hb2); (try clear hk); (try clear hi)) | ((with_reducible refine gate_callee (f := 16) rfl ?_); refine goesL_ (some 87) rfl rfl Try.func16 (by kernel_rfl) rfl #[.pointer (some ⟨g362, 0, none⟩), .int .i64 x11_1, .int .i64 x12_2] rfl (by (try simp only [List.map_toArray, List.map_cons, List.map_nil]); first | done | rfl | (simp only [List.length_drop, List.length_take]; rfl)) ?_; (with_reducible refine (power_Battery_Tier.calls k2 g362 t357 x363001_2 x363002_2 x363003_2 x363004_2 x11_1 x12_2 t382 t383 t384 t385 t386 w _ ?side1 ?side2 A38.out).mono ?_); (case side1 => repeat (first | (with_reducible first | exact HI362.out | apply IsS63.alloc | apply IsS63.drewN | apply IsS63.drew | apply IsS63.set_1 | apply IsS63.set_2 | apply IsS63.set_3 | apply IsS63.set_4) | exact HI362.out)); (case side2 => repeat (first | (with_reducible first | exact HB.out | apply below_alloc | apply pw_below_drewN | apply below_drew1 | refine below_set ?_ (IsS63.ge HI354.out) | refine below_set ?_ (IsS63.ge HI362.out)) | exact HB.out)); rintro e w45 ⟨rfl, hi, hb, hk⟩; refine ⟨_, rfl, ?_⟩; have n0_ := Aside0.mk (IsS63.keep (show IsS63 w _ g354 t349 t378 t379 t380 t381 from by repeat (first | (with_reducible first | exact HI354.out | apply IsS63.alloc | apply IsS63.drewN | apply IsS63.drew | apply IsS63.set_1 | apply IsS63.set_2 | apply IsS63.set_3 | apply IsS63.set_4) | exact HI354.out)) (show IsS63 w _ g362 t357 x363001_2 x363002_2 x363003_2 x363004_2 from by repeat (first | (with_reducible first | exact HI362.out | apply IsS63.alloc | apply IsS63.drewN | apply IsS63.drew | apply IsS63.set_1 | apply IsS63.set_2 | apply IsS63.set_3 | apply IsS63.set_4) | exact HI362.out)) hk NS354_362.out); have n1_ := Aside0.mk (hb); have n2_ := Aside0.mk (hi); clear HI354; clear HB; clear HI362; have HI354 := n0_; have HB := n1_; have HI362 := n2_; clear n0_ n1_ n2_; (try clear hb); (try clear hb2); (try clear hk); (try clear hi)) | (go_at_call 16; (with_reducible refine (power_Battery_Tier.calls k2 g354 t349 t378 t379 t380 t381 (wrap64 (x11_1 + a2)) x12_2 t387 t388 t389 t390 t391 w _ ?side1 ?side2 A40.out).mono ?_); (case side1 => repeat (first | (with_reducible first | exact HI354.out | apply IsS63.alloc | apply IsS63.drewN | apply IsS63.drew | apply IsS63.set_1 | apply IsS63.set_2 | apply IsS63.set_3 | apply IsS63.set_4) | exact HI354.out)); (case side2 => repeat (first | (with_reducible first | exact HB.out | apply below_alloc | apply pw_below_drewN | apply below_drew1 | refine below_set ?_ (IsS63.ge HI354.out) | refine below_set ?_ (IsS63.ge HI362.out)) | exact HB.out)); rintro e w46 ⟨rfl, hi, hb, hk⟩; have n0_ := Aside0.mk (IsS63.keep (show IsS63 w _ g362 t357 t383 t384 t385 t386 from by repeat (first | (with_reducible first | exact HI362.out | apply IsS63.alloc | apply IsS63.drewN | apply IsS63.drew | apply IsS63.set_1 | apply IsS63.set_2 | apply IsS63.set_3 | apply IsS63.set_4) | exact HI362.out)) (show IsS63 w _ g354 t349 t378 t379 t380 t381 from by repeat (first | (with_reducible first | exact HI354.out | apply IsS63.alloc | apply IsS63.drewN | apply IsS63.drew | apply IsS63.set_1 | apply IsS63.set_2 | apply IsS63.set_3 | apply IsS63.set_4) | exact HI354.out)) hk NS362_354.out); have n1_ := Aside0.mk (hb); have n2_ := Aside0.mk (hi); clear HI362; clear HB; clear HI354; have HI362 := n0_; have HB := n1_; have HI354 := n2_; clear n0_ n1_ n2_; (try clear hb); (try clear hb2); (try clear hk); (try clear hi); clear A40) | (go_at_call 16; (with_reducible refine (power_Battery_Tier.calls k2 g354 t349 t388 t389 t390 t391 x11_1 (wrap64 (x12_2 + a2)) t392 t393 t394 t395 t396 w _ ?side1 ?side2 A42.out).mono ?_); (case side1 => repeat (first | (with_reducible first | exact HI354.out | apply IsS63.alloc | apply IsS63.drewN | apply IsS63.drew | apply IsS63.set_1 | apply IsS63.set_2 | apply IsS63.set_3 | apply IsS63.set_4) | exact HI354.out)); (case side2 => repeat (first | (with_reducible first | exact HB.out | apply below_alloc | apply pw_below_drewN | apply below_drew1 | refine below_set ?_ (IsS63.ge HI354.out) | refine below_set ?_ (IsS63.ge HI362.out)) | exact HB.out)); rintro e w47 ⟨rfl, hi, hb, hk⟩; have n0_ := Aside0.mk (IsS63.keep (show IsS63 w _ g362 t357 t383 t384 t385 t386 from by repeat (first | (with_reducible first | exact HI362.out | apply IsS63.alloc | apply IsS63.drewN | apply IsS63.drew | apply IsS63.set_1 | apply IsS63.set_2 | apply IsS63.set_3 | apply IsS63.set_4) | exact HI362.out)) (show IsS63 w _ g354 t349 t388 t389 t390 t391 from by repeat (first | (with_reducible first | exact HI354.out | apply IsS63.alloc | apply IsS63.drewN | apply IsS63.drew | apply IsS63.set_1 | apply IsS63.set_2 | apply IsS63.set_3 | apply IsS63.set_4) | exact HI354.out)) hk NS362_354.out); have n1_ := Aside0.mk (hb); have n2_ := Aside0.mk (hi); clear HI362; clear HB; clear HI354; have HI362 := n0_; have HB := n1_; have HI354 := n2_; clear n0_ n1_ n2_; (try clear hb); (try clear hb2); (try clear hk); (try clear hi); clear A42))
                                  go_roundg k2
                                  case measure => have := HK1.out; have := HK2.out; omega
                                  case rel => exact ⟨(wrap64 ((wrap64 (16 * x12_2)) + 5000)), (t393), (t394), (t395), (t396), (t383), (t384), (t385), (t386), (by first | rfl | (simp; done) | (simp [*]; done)), H', ⟨by have := HK1.out; have := HK2.out; omega⟩, ⟨by repeat (first | (with_reducible first | exact HI354.out | apply IsS63.alloc | apply IsS63.drewN | apply IsS63.drew | apply IsS63.set_1 | apply IsS63.set_2 | apply IsS63.set_3 | apply IsS63.set_4) | exact HI354.out)⟩, ⟨by repeat (first | (with_reducible first | exact HI362.out | apply IsS63.alloc | apply IsS63.drewN | apply IsS63.drew | apply IsS63.set_1 | apply IsS63.set_2 | apply IsS63.set_3 | apply IsS63.set_4) | exact HI362.out)⟩, ⟨by repeat (first | (with_reducible first | exact HB.out | apply below_alloc | apply pw_below_drewN | apply below_drew1 | refine below_set ?_ (IsS63.ge HI354.out) | refine below_set ?_ (IsS63.ge HI362.out)) | exact HB.out)⟩⟩
                          · rw [if_neg c36] at H
                            have c36b0 : decide (x12_2 ≤ 536870912) = false := decide_eq_false c36
                            clear c36
                            have H' := Aside0.mk H
                            clear H
                            go_wp2
                            go_roundg k2
                            case measure => have := HK1.out; have := HK2.out; omega
                            case rel => exact ⟨(wrap64 ((wrap64 (4 * x11_1)) + 1000)), (x355001_2), (x355002_2), (x355003_2), (x355004_2), (x363001_2), (x363002_2), (x363003_2), (x363004_2), (by first | rfl | (simp; done) | (simp [*]; done)), H', ⟨by have := HK1.out; have := HK2.out; omega⟩, ⟨by repeat (first | (with_reducible first | exact HI354.out | apply IsS63.alloc | apply IsS63.drewN | apply IsS63.drew | apply IsS63.set_1 | apply IsS63.set_2 | apply IsS63.set_3 | apply IsS63.set_4) | exact HI354.out)⟩, ⟨by repeat (first | (with_reducible first | exact HI362.out | apply IsS63.alloc | apply IsS63.drewN | apply IsS63.drew | apply IsS63.set_1 | apply IsS63.set_2 | apply IsS63.set_3 | apply IsS63.set_4) | exact HI362.out)⟩, ⟨by repeat (first | (with_reducible first | exact HB.out | apply below_alloc | apply pw_below_drewN | apply below_drew1 | refine below_set ?_ (IsS63.ge HI354.out) | refine below_set ?_ (IsS63.ge HI362.out)) | exact HB.out)⟩⟩
                    · rw [if_neg c35] at H
                      have c35b0 : decide (x11_1 ≤ 536870912) = false := decide_eq_false c35
                      clear c35
                      replace H := Option.bind_eq_some_iff.mp H
                      obtain ⟨t397, A480, H⟩ := H
                      replace H : (some t397) = some r := H
                      have A48 := Aside0.mk A480
                      clear A480
                      obtain rfl := Option.some.inj H
                      go_wp2_with (first | ((with_reducible refine gate_callee (f := 11) rfl ?_); refine goesL_ (some 110) rfl rfl Try.func11 (by kernel_rfl) rfl #[] rfl (by (try simp only [List.map_toArray, List.map_cons, List.map_nil]); first | done | rfl | (simp only [List.length_drop, List.length_take]; rfl)) ?_; (with_reducible refine (windhoverlaw14_awake.calls k1  t397 _ A48.out).mono ?_); rintro e w49 ⟨rfl, hb⟩; refine ⟨_, rfl, ?_⟩; have n0_ := Aside0.mk (IsS63.below (by repeat (first | (with_reducible first | exact HI354.out | apply IsS63.alloc | apply IsS63.drewN | apply IsS63.drew | apply IsS63.set_1 | apply IsS63.set_2 | apply IsS63.set_3 | apply IsS63.set_4) | exact HI354.out)) hb); have n1_ := Aside0.mk (IsS63.below (by repeat (first | (with_reducible first | exact HI362.out | apply IsS63.alloc | apply IsS63.drewN | apply IsS63.drew | apply IsS63.set_1 | apply IsS63.set_2 | apply IsS63.set_3 | apply IsS63.set_4) | exact HI362.out)) hb); have n2_ := Aside0.mk (below_step (by repeat (first | (with_reducible first | exact HB.out | apply below_alloc | apply pw_below_drewN | apply below_drew1 | refine below_set ?_ (IsS63.ge HI354.out) | refine below_set ?_ (IsS63.ge HI362.out)) | exact HB.out)) hb); clear HI354; clear HI362; clear HB; have HI354 := n0_; have HI362 := n1_; have HB := n2_; clear n0_ n1_ n2_; (try clear hb); (try clear hb2); (try clear hk); (try clear hi)))
                      go_ret
                      exact ⟨by first | rfl | (simp [errW_none, errW_some] <;> rfl) | (simp [*, errW_none, errW_some] <;> rfl), by repeat (first | (with_reducible first | exact HB.out | apply below_alloc | apply pw_below_drewN | apply below_drew1 | refine below_set ?_ (IsS63.ge HI354.out) | refine below_set ?_ (IsS63.ge HI362.out)) | exact HB.out)⟩
      · rw [if_neg c8] at H
        exact absurd H (by simp)
    · rw [if_neg c7] at H
      have c7b0 : (t363 == 0) = false := beq_eq_false_iff_ne.mpr c7
      have c7b1 : (t363 != 0) = true := bne_iff_ne.mpr c7
      by_cases c50 : t355 = t363
      · rw [if_pos c50] at H
        exact absurd H (by simp)
      · rw [if_neg c50] at H
        exact absurd H (by simp)
  · rw [if_neg c5] at H
    have c5b0 : (t355 == 0) = false := beq_eq_false_iff_ne.mpr c5
    have c5b1 : (t355 != 0) = true := bne_iff_ne.mpr c5
    replace H := Option.bind_eq_some_iff.mp H
    obtain ⟨⟨t398, t399, t400, t401, t402, t404⟩, A510, H⟩ := H
    replace H : (if t404 = 0 then (if t355 = t404 then (none) else (none)) else (if t355 = t404 then ((windhoverlaw14_awake.f k).bind fun t406 => (some t406)) else (none))) = some r := H
    have A51 := Aside0.mk A510
    clear A510
    by_cases c52 : t404 = 0
    · rw [if_pos c52] at H
      have c52b0 : (t404 == 0) = true := beq_iff_eq.mpr c52
      have c52b1 : (t404 != 0) = false := bne_eq_false_iff_eq.mpr c52
      clear c52
      by_cases c53 : t355 = t404
      · rw [if_pos c53] at H
        exact absurd H (by simp)
      · rw [if_neg c53] at H
        exact absurd H (by simp)
    · rw [if_neg c52] at H
      have c52b0 : (t404 == 0) = false := beq_eq_false_iff_ne.mpr c52
      have c52b1 : (t404 != 0) = true := bne_iff_ne.mpr c52
      by_cases c54 : t355 = t404
      · rw [if_pos c54] at H
        have c54b0 : (t355 == t404) = true := beq_iff_eq.mpr c54
        have c54b1 : (t355 != t404) = false := bne_eq_false_iff_eq.mpr c54
        clear c54
        replace H := Option.bind_eq_some_iff.mp H
        obtain ⟨t406, A550, H⟩ := H
        replace H : (some t406) = some r := H
        have A55 := Aside0.mk A550
        clear A550
        obtain rfl := Option.some.inj H
        go_enter Try.func5, Try.ntmps5
        go_wp2_with (first | ((with_reducible refine gate_callee (f := 8) rfl ?_); refine goesL_ (some 16) rfl rfl Try.func8 (by kernel_rfl) rfl #[.slice A0 l0.length c0] rfl (by (try simp only [List.map_toArray, List.map_cons, List.map_nil]); first | done | rfl | (simp only [List.length_drop, List.length_take]; rfl)) ?_; (with_reducible refine (power_New.callsNil k _ _ l0 t349 t350 t351 t352 t353 t355 _ ?side1 ?side2 A4.out (by assumption)).mono ?_); (case side1 => repeat (first | exact HR0.out | (with_reducible refine Kd.C_alloc ?_ _) | (with_reducible refine Kd.C_drewN ?_ _) | (with_reducible refine Kd.C_drew ?_))); (case side2 => exact HC0.out); rintro e w56 ⟨rfl, hb⟩; refine ⟨_, rfl, ?_⟩; have n0_ := Aside0.mk (below_step (by repeat (first | (with_reducible first | exact HB.out | apply below_alloc | apply pw_below_drewN | apply below_drew1) | exact HB.out)) hb); clear HB; have HB := n0_; clear n0_; (try clear hb); (try clear hb2); (try clear hk); (try clear hi)) | ((with_reducible refine gate_callee (f := 8) rfl ?_); refine goesL_ (some 21) rfl rfl Try.func8 (by kernel_rfl) rfl #[.slice A0 l0.length c0] rfl (by (try simp only [List.map_toArray, List.map_cons, List.map_nil]); first | done | rfl | (simp only [List.length_drop, List.length_take]; rfl)) ?_; (with_reducible refine (power_New.callsNil k _ _ l0 t398 t399 t400 t401 t402 t404 _ ?side1 ?side2 A51.out (by assumption)).mono ?_); (case side1 => repeat (first | exact (Kd.C_below HR0.out HB.out) | (with_reducible refine Kd.C_alloc ?_ _) | (with_reducible refine Kd.C_drewN ?_ _) | (with_reducible refine Kd.C_drew ?_))); (case side2 => exact HC0.out); rintro e w57 ⟨rfl, hb⟩; refine ⟨_, rfl, ?_⟩; have n0_ := Aside0.mk (below_step (by repeat (first | (with_reducible first | exact HB.out | apply below_alloc | apply pw_below_drewN | apply below_drew1) | exact HB.out)) hb); clear HB; have HB := n0_; clear n0_; (try clear hb); (try clear hb2); (try clear hk); (try clear hi)) | ((with_reducible refine gate_callee (f := 11) rfl ?_); refine goesL_ (some 59) rfl rfl Try.func11 (by kernel_rfl) rfl #[] rfl (by (try simp only [List.map_toArray, List.map_cons, List.map_nil]); first | done | rfl | (simp only [List.length_drop, List.length_take]; rfl)) ?_; (with_reducible refine (windhoverlaw14_awake.calls k  t406 _ A55.out).mono ?_); rintro e w58 ⟨rfl, hb⟩; refine ⟨_, rfl, ?_⟩; have n0_ := Aside0.mk (below_step (by repeat (first | (with_reducible first | exact HB.out | apply below_alloc | apply pw_below_drewN | apply below_drew1) | exact HB.out)) hb); clear HB; have HB := n0_; clear n0_; (try clear hb); (try clear hb2); (try clear hk); (try clear hi)))
        go_ret
        exact ⟨by first | rfl | (simp [errW_none, errW_some] <;> rfl) | (simp [*, errW_none, errW_some] <;> rfl), by repeat (first | (with_reducible first | exact HB.out | apply below_alloc | apply pw_below_drewN | apply below_drew1) | exact HB.out)⟩
      · rw [if_neg c54] at H
        exact absurd H (by simp)

/-- THE ONE PURE STATEMENT of windhoverlaw14_PowerRises: yours. -/
def windhoverlaw14_PowerRises.Pure : Prop := ∀ (l0 : List Int) (a1 : Int) (a2 : Int), l0.length ≤ maxLen → l0.length * 8 ≤ 140737488351232 → (∀ x ∈ l0, (Lit.int .i64 x).wf = true) → (Lit.int .i64 a1).wf = true → (Lit.int .i64 a2).wf = true → ∃ k, windhoverlaw14_PowerRises.f k l0 a1 a2 = some true
theorem windhoverlaw14_PowerRises.walk (P : windhoverlaw14_PowerRises.Pure) (a0 : Option Addr) (len0 cap0 : Nat) (z0 : List Int) (a1 : Int) (a2 : Int) (w : World) (w0 : (a0 = none ∧ len0 = 0 ∧ cap0 = 0 ∧ z0 = []) ∨ ∃ x, a0 = some x ∧ len0 ≤ cap0 ∧ cap0 ≤ maxLen ∧ z0.length = cap0 ∧ (∀ i, i < z0.length → w.cell? (x.add i) = some (.int .i64 (z0.getD i 0))) ∧ ∀ n ∈ z0, (Lit.int .i64 n).wf = true) (y0 : len0 * 8 ≤ 140737488351232) (w1 : (Lit.int .i64 a1).wf = true) (w2 : (Lit.int .i64 a2).wf = true) :
    Calls Try.prog 5 #[.slice a0 len0 cap0, .int .i64 a1, .int .i64 a2] w fun e w' => e = .returned (.bool true) ∧ Below w.heap.size w w' := by
  obtain ⟨l0, rfl, hr0, hm0, hw0, hc0⟩ := ReadsInt.ofRowC w0
  obtain ⟨k, h⟩ := P l0 a1 a2 hm0 y0 hw0 w1 w2
  refine (windhoverlaw14_PowerRises.calls k _ _ l0 a1 a2 true w (Kd.C_of_reads (d := (0 : Int)) (h1 := fun _ => rfl) hr0) hc0 h).mono ?_
  rintro e w' ⟨rfl, hd⟩
  exact ⟨rfl, hd⟩

end Go.Proofs.Ytmmlahckcgjofaa.PPowerRises
