-- WRITTEN BY wip/tools/aprint.py of this claim's repository over the kit's words: not typed by hand
import Derived.Test.YtmmlahckcgjofaaPPowerNilx0
import Derived.Test.YtmmlahckcgjofaaPPowerNilx1
import Derived.Test.YtmmlahckcgjofaaPPowerNilx4
import Derived.Test.YtmmlahckcgjofaaPPowerNilx5
namespace Go.Proofs.Ytmmlahckcgjofaa.PPowerNil
open Go.RowKit Go.Proofs.YtmmlahckcgjofaaW.PrintWords Go.Proofs.YtmmlahckcgjofaaW.PrintLast Go.Proofs.YtmmlahckcgjofaaW.PrintMore
attribute [local go_sem] max2_int min2_int max_two min_two max_three min_three max_four min_four   -- for this text's walks alone
set_option linter.unusedVariables false
set_option linter.unusedSimpArgs false

attribute [local go_sem high] eqA31
/-! ### windhoverlaw14_awake: function 11 -/
def windhoverlaw14_awake.j0 : Nat → Bool → List Int → Int → Bool → Int → Int → Option (Bool)
  | 0, _, _, _, _, _, _ => none
  | k + 1, x26, x305000, x305001, x305002, x305003, x305004 => if x26 = true then (none) else ((power_Battery_Tier.f k x305000 x305001 x305002 x305003 x305004 0 0).bind fun bt315 => ((power_Battery_Step.f k x305000 bt315.2.1 bt315.2.2.1 bt315.2.2.2.1 bt315.2.2.2.2 true 10000).bind fun bt320 => ((power_Battery_Step.f k x305000 bt320.1 bt320.2.1 bt320.2.2.1 bt320.2.2.2 false 0).bind fun bt324 => ((power_Battery_Left.f x305000 bt324.1 bt324.2.1 bt324.2.2.1 bt324.2.2.2).bind fun bt328 => (if bt315.1 = 2 then (if bt328.2.2.1 = true then (if (bt328.1 == 9896 && (bt328.2.1 == 10100)) = true then ((power_Battery_Tier.f k x305000 bt328.2.2.2.1 bt328.2.2.2.2.1 bt328.2.2.2.2.2.1 bt328.2.2.2.2.2.2 0 0).bind fun bt336 => (some (bt336.1 == 1))) else (none)) else (none)) else (none))))))
def windhoverlaw14_awake.f (k : Nat)  : Option (Bool) := (params_Defaults.f k).bind fun t296 => ((power_New.f k t296).bind fun bt299 => (if bt299.2.2.2.2.2 = 0 then ((power_New.f k ([] : List Int)).bind fun bt307 => (if bt307.2.2.2.2.2 = 0 then (none) else (if bt307.2.2.2.2.2 = 3 then (windhoverlaw14_awake.j0 k false bt299.1 bt299.2.1 bt299.2.2.1 bt299.2.2.2.1 bt299.2.2.2.2.1) else (windhoverlaw14_awake.j0 k true bt299.1 bt299.2.1 bt299.2.2.1 bt299.2.2.2.1 bt299.2.2.2.2.1)))) else ((power_New.f k ([] : List Int)).bind fun bt341 => (if bt341.2.2.2.2.2 = 0 then (none) else (none)))))
theorem windhoverlaw14_awake.mono_l : ∀ k, (∀ y0 y1 y2 y3 y4 y5, LeO (windhoverlaw14_awake.j0 k y0 y1 y2 y3 y4 y5) (windhoverlaw14_awake.j0 (k + 1) y0 y1 y2 y3 y4 y5))
  | 0 => fun _ _ _ _ _ _ r h => by simp [windhoverlaw14_awake.j0] at h
  | k + 1 => by
    have ih0 := windhoverlaw14_awake.mono_l k
    · intro y0 y1 y2 y3 y4 y5
      unfold windhoverlaw14_awake.j0
      repeat' first
      | (with_reducible exact ih0 _ _ _ _ _ _)
      | (with_reducible exact params_Defaults.mono _)
      | (with_reducible exact power_Battery_Step.mono _ _ _ _ _ _ _ _)
      | (with_reducible exact power_Battery_Tier.mono _ _ _ _ _ _ _ _)
      | (with_reducible exact power_New.mono _ _)
      | (with_reducible exact LeO.refl _)
      | (with_reducible exact LeO.none _)
      | (with_reducible refine LeO.ite ?_ ?_)
      | (with_reducible refine LeO.bind ?_ (fun _ => ?_))
      | exact ih0 _ _ _ _ _ _
      | exact params_Defaults.mono _
      | exact power_Battery_Step.mono _ _ _ _ _ _ _ _
      | exact power_Battery_Tier.mono _ _ _ _ _ _ _ _
      | exact power_New.mono _ _
      | exact LeO.none _
      | refine LeO.ite ?_ ?_
      | refine LeO.bind ?_ (fun _ => ?_)
theorem windhoverlaw14_awake.mono : ∀ k, LeO (windhoverlaw14_awake.f k ) (windhoverlaw14_awake.f (k + 1) ) := by
  intro  k
  have ih0 := windhoverlaw14_awake.mono_l k
  unfold windhoverlaw14_awake.f
  repeat' first
      | (with_reducible exact ih0 _ _ _ _ _ _)
      | (with_reducible exact params_Defaults.mono _)
      | (with_reducible exact power_Battery_Step.mono _ _ _ _ _ _ _ _)
      | (with_reducible exact power_Battery_Tier.mono _ _ _ _ _ _ _ _)
      | (with_reducible exact power_New.mono _ _)
      | (with_reducible exact LeO.refl _)
      | (with_reducible exact LeO.none _)
      | (with_reducible refine LeO.ite ?_ ?_)
      | (with_reducible refine LeO.bind ?_ (fun _ => ?_))
      | exact ih0 _ _ _ _ _ _
      | exact params_Defaults.mono _
      | exact power_Battery_Step.mono _ _ _ _ _ _ _ _
      | exact power_Battery_Tier.mono _ _ _ _ _ _ _ _
      | exact power_New.mono _ _
      | exact LeO.none _
      | refine LeO.ite ?_ ?_
      | refine LeO.bind ?_ (fun _ => ?_)
set_option maxHeartbeats 8000000 in
set_option maxRecDepth 100000 in
theorem windhoverlaw14_awake.calls (k : Nat)  (r : Bool) (w : World) (h : windhoverlaw14_awake.f k  = some r) :
    Calls Try.prog 11 #[] w fun e w' => e = .returned (.bool r) ∧ Below w.heap.size w w' := by
  have hu42 := Try.underlying42
  have hu31 := Try.underlying31
  have HB := Aside0.mk (Below.refl w.heap.size w)
  have H : ((params_Defaults.f k).bind fun t296 => ((power_New.f k t296).bind fun bt299 => (if bt299.2.2.2.2.2 = 0 then ((power_New.f k ([] : List Int)).bind fun bt307 => (if bt307.2.2.2.2.2 = 0 then (none) else (if bt307.2.2.2.2.2 = 3 then (windhoverlaw14_awake.j0 k false bt299.1 bt299.2.1 bt299.2.2.1 bt299.2.2.2.1 bt299.2.2.2.2.1) else (windhoverlaw14_awake.j0 k true bt299.1 bt299.2.1 bt299.2.2.1 bt299.2.2.2.1 bt299.2.2.2.2.1)))) else ((power_New.f k ([] : List Int)).bind fun bt341 => (if bt341.2.2.2.2.2 = 0 then (none) else (none)))))) = some r := h
  clear h
  replace H := Option.bind_eq_some_iff.mp H
  obtain ⟨t296, A10, H⟩ := H
  replace H : ((power_New.f k t296).bind fun bt299 => (if bt299.2.2.2.2.2 = 0 then ((power_New.f k ([] : List Int)).bind fun bt307 => (if bt307.2.2.2.2.2 = 0 then (none) else (if bt307.2.2.2.2.2 = 3 then (windhoverlaw14_awake.j0 k false bt299.1 bt299.2.1 bt299.2.2.1 bt299.2.2.2.1 bt299.2.2.2.2.1) else (windhoverlaw14_awake.j0 k true bt299.1 bt299.2.1 bt299.2.2.1 bt299.2.2.2.1 bt299.2.2.2.2.1)))) else ((power_New.f k ([] : List Int)).bind fun bt341 => (if bt341.2.2.2.2.2 = 0 then (none) else (none))))) = some r := H
  have A1 := Aside0.mk A10
  clear A10
  replace H := Option.bind_eq_some_iff.mp H
  obtain ⟨⟨t299, t300, t301, t302, t303, t305⟩, A20, H⟩ := H
  replace H : (if t305 = 0 then ((power_New.f k ([] : List Int)).bind fun bt307 => (if bt307.2.2.2.2.2 = 0 then (none) else (if bt307.2.2.2.2.2 = 3 then (windhoverlaw14_awake.j0 k false t299 t300 t301 t302 t303) else (windhoverlaw14_awake.j0 k true t299 t300 t301 t302 t303)))) else ((power_New.f k ([] : List Int)).bind fun bt341 => (if bt341.2.2.2.2.2 = 0 then (none) else (none)))) = some r := H
  have A2 := Aside0.mk A20
  clear A20
  by_cases c3 : t305 = 0
  · rw [if_pos c3] at H
    have c3b0 : (t305 == 0) = true := beq_iff_eq.mpr c3
    have c3b1 : (t305 != 0) = false := bne_eq_false_iff_eq.mpr c3
    clear c3
    replace H := Option.bind_eq_some_iff.mp H
    obtain ⟨⟨t307, t308, t309, t310, t311, t313⟩, A40, H⟩ := H
    replace H : (if t313 = 0 then (none) else (if t313 = 3 then (windhoverlaw14_awake.j0 k false t299 t300 t301 t302 t303) else (windhoverlaw14_awake.j0 k true t299 t300 t301 t302 t303))) = some r := H
    have A4 := Aside0.mk A40
    clear A40
    by_cases c5 : t313 = 0
    · rw [if_pos c5] at H
      exact absurd H (by simp)
    · rw [if_neg c5] at H
      have c5b0 : (t313 == 0) = false := beq_eq_false_iff_ne.mpr c5
      have c5b1 : (t313 != 0) = true := bne_iff_ne.mpr c5
      have HC6 := Aside0.mk H
      clear H
      go_enter Try.func11, Try.ntmps11
      go_upto_region 3 with (first | ((with_reducible refine gate_callee (f := 22) rfl ?_); refine goesL_ (some 9) rfl rfl Try.func22 (by kernel_rfl) rfl #[] rfl (by (try simp only [List.map_toArray, List.map_cons, List.map_nil]); first | done | rfl | (simp only [List.length_drop, List.length_take]; rfl)) ?_; (with_reducible refine (params_Defaults.calls k  t296 _ A1.out).mono ?_); rintro e w7 ⟨v297, rfl, ho0, hb⟩; refine ⟨_, rfl, ?_⟩; have n0_ := Aside0.mk (Kd.R_lower ho0 (below_size (by repeat (first | (with_reducible first | exact HB.out | apply below_alloc | apply pw_below_drewN | apply below_drew1) | exact HB.out)))); have n1_ := Aside0.mk (below_step (by repeat (first | (with_reducible first | exact HB.out | apply below_alloc | apply pw_below_drewN | apply below_drew1) | exact HB.out)) hb); clear HB; have HO298 := n0_; have HB := n1_; clear n0_ n1_; (try clear hb); (try clear hb2); (try clear hk); (try clear hi); (try clear ho0); obtain ⟨Ao8, co8, eo8⟩ := Kd.R_slice HO298.out; subst eo8) | ((with_reducible refine gate_callee (f := 8) rfl ?_); refine goesL_ (some 10) rfl rfl Try.func8 (by kernel_rfl) rfl #[.slice Ao8 t296.length co8] rfl (by (try simp only [List.map_toArray, List.map_cons, List.map_nil]); first | done | rfl | (simp only [List.length_drop, List.length_take]; rfl)) ?_; (with_reducible refine (power_New.callsNew k _ _ t296 t299 t300 t301 t302 t303 t305 w _ ?side1 ?side2 ?side3 A2.out (by assumption)).mono ?_); (case side1 => repeat (first | (with_reducible first | exact HB.out | apply below_alloc | apply pw_below_drewN | apply below_drew1) | exact HB.out)); (case side2 => repeat (first | exact (Kd.R_reads' HO298.out).2.2 | (with_reducible refine Kd.C_alloc ?_ _) | (with_reducible refine Kd.C_drewN ?_ _) | (with_reducible refine Kd.C_drew ?_))); (case side3 => exact (Kd.R_reads' HO298.out).2.1); rintro e w9 ⟨g304, rfl, hi, hb, hb2⟩; refine ⟨_, rfl, ?_⟩; have n0_ := Aside0.mk (Kd.R_below (by (with_reducible repeat (first | apply Kd.R_alloc | apply Kd.R_drewN | apply Kd.R_drew)); exact HO298.out) hb2); have n1_ := Aside0.mk (hb); have n2_ := Aside0.mk (hi); clear HO298; clear HB; have HO298 := n0_; have HB := n1_; have HI304 := n2_; clear n0_ n1_ n2_; (try clear hb); (try clear hb2); (try clear hk); (try clear hi)) | ((with_reducible refine gate_callee (f := 8) rfl ?_); refine goesL_ (some 14) rfl rfl Try.func8 (by kernel_rfl) rfl #[.slice none 0 0] rfl (by (try simp only [List.map_toArray, List.map_cons, List.map_nil]); first | done | rfl | (simp only [List.length_drop, List.length_take]; rfl)) ?_; (refine (power_New.callsNil k _ _ ([] : List Int) t307 t308 t309 t310 t311 t313 _ ?side1 ?side2 A4.out (by assumption)).mono ?_); (case side1 => exact Kd.C_nil _ _); (case side2 => exact Nat.le_refl _); rintro e w10 ⟨rfl, hb⟩; refine ⟨_, rfl, ?_⟩; have n0_ := Aside0.mk (Kd.R_below (by (with_reducible repeat (first | apply Kd.R_alloc | apply Kd.R_drewN | apply Kd.R_drew)); exact HO298.out) hb); have n1_ := Aside0.mk (IsS63.below (by repeat (first | (with_reducible first | exact HI304.out | apply IsS63.alloc | apply IsS63.drewN | apply IsS63.drew | apply IsS63.set_1 | apply IsS63.set_2 | apply IsS63.set_3 | apply IsS63.set_4) | exact HI304.out)) hb); have n2_ := Aside0.mk (below_step (by repeat (first | (with_reducible first | exact HB.out | apply below_alloc | apply pw_below_drewN | apply below_drew1 | refine below_set ?_ (IsS63.ge HI304.out)) | exact HB.out)) hb); clear HO298; clear HI304; clear HB; have HO298 := n0_; have HI304 := n1_; have HB := n2_; clear n0_ n1_ n2_; (try clear hb); (try clear hb2); (try clear hk); (try clear hi)))
      (try simp only [Act.put, List.setIfInBounds_toArray, List.set_cons_zero, List.set_cons_succ])
      go_cut [26] (fun v26 wc => ∃ (kq : Nat) (x26_5 : Bool), v26 = .bool x26_5 ∧ Aside0 (windhoverlaw14_awake.j0 kq x26_5 t299 t300 t301 t302 t303 = some r) ∧ Aside0 (kq ≤ k) ∧ Aside0 (IsS63 w wc g304 t299 t300 t301 t302 t303) ∧ Aside0 (Below w.heap.size w wc))
      case first =>
        have H := HC6.out
        clear HC6
        by_cases c11 : t313 = 3
        · rw [if_pos c11] at H
          have c11b0 : (t313 == 3) = true := beq_iff_eq.mpr c11
          have c11b1 : (t313 != 3) = false := bne_eq_false_iff_eq.mpr c11
          clear c11
          (first | rw [c11b0] | (simp only [i64_w, i32_w]; rw [c11b0]) | skip)
          have H' := Aside0.mk H
          clear H
          go_wp2
          go_meet
          case rel => exact ⟨_, (false), (by first | rfl | (simp; done) | (simp [*]; done)), H', ⟨by first | omega | exact Nat.le_refl _⟩, ⟨by repeat (first | (with_reducible first | exact HI304.out | apply IsS63.alloc | apply IsS63.drewN | apply IsS63.drew | apply IsS63.set_1 | apply IsS63.set_2 | apply IsS63.set_3 | apply IsS63.set_4) | exact HI304.out)⟩, ⟨by repeat (first | (with_reducible first | exact HB.out | apply below_alloc | apply pw_below_drewN | apply below_drew1 | refine below_set ?_ (IsS63.ge HI304.out)) | exact HB.out)⟩⟩
        · rw [if_neg c11] at H
          have c11b0 : (t313 == 3) = false := beq_eq_false_iff_ne.mpr c11
          have c11b1 : (t313 != 3) = true := bne_iff_ne.mpr c11
          (first | rw [c11b0] | (simp only [i64_w, i32_w]; rw [c11b0]) | skip)
          have H' := Aside0.mk H
          clear H
          go_wp2
          go_meet
          case rel => exact ⟨_, (true), (by first | rfl | (simp; done) | (simp [*]; done)), H', ⟨by first | omega | exact Nat.le_refl _⟩, ⟨by repeat (first | (with_reducible first | exact HI304.out | apply IsS63.alloc | apply IsS63.drewN | apply IsS63.drew | apply IsS63.set_1 | apply IsS63.set_2 | apply IsS63.set_3 | apply IsS63.set_4) | exact HI304.out)⟩, ⟨by repeat (first | (with_reducible first | exact HB.out | apply below_alloc | apply pw_below_drewN | apply below_drew1 | refine below_set ?_ (IsS63.ge HI304.out)) | exact HB.out)⟩⟩
      case rest =>
        clear HC6
        try clear c1
        try clear c2
        try clear p2
        try clear c3
        try clear c3b0
        try clear c3b1
        try clear c5
        try clear c5b0
        try clear c5b1
        try clear c8
        try clear c11
        try clear c11b0
        try clear c11b1
        obtain ⟨kq, x26_5, rfl, HA, HJ5, HI304, HB⟩ := hcut
        cases kq with
        | zero => exact absurd HA.out (by simp [windhoverlaw14_awake.j0])
        | succ kj5 =>
          have H := HA.out
          clear HA
          simp only [windhoverlaw14_awake.j0] at H
          by_cases c12 : x26_5 = true
          · subst c12
            have H1 : (none) = some r := by rw [if_pos rfl] at H; exact H
            clear H
            have H := H1
            clear H1
            exact absurd H (by simp)
          · replace c12 := Bool.eq_false_iff.mpr c12
            subst c12
            have H1 : ((power_Battery_Tier.f kj5 t299 t300 t301 t302 t303 0 0).bind fun bt315 => ((power_Battery_Step.f kj5 t299 bt315.2.1 bt315.2.2.1 bt315.2.2.2.1 bt315.2.2.2.2 true 10000).bind fun bt320 => ((power_Battery_Step.f kj5 t299 bt320.1 bt320.2.1 bt320.2.2.1 bt320.2.2.2 false 0).bind fun bt324 => ((power_Battery_Left.f t299 bt324.1 bt324.2.1 bt324.2.2.1 bt324.2.2.2).bind fun bt328 => (if bt315.1 = 2 then (if bt328.2.2.1 = true then (if (bt328.1 == 9896 && (bt328.2.1 == 10100)) = true then ((power_Battery_Tier.f kj5 t299 bt328.2.2.2.1 bt328.2.2.2.2.1 bt328.2.2.2.2.2.1 bt328.2.2.2.2.2.2 0 0).bind fun bt336 => (some (bt336.1 == 1))) else (none)) else (none)) else (none)))))) = some r := by rw [if_neg (show ¬ (false = true) by decide)] at H; exact H
            clear H
            have H := H1
            clear H1
            replace H := Option.bind_eq_some_iff.mp H
            obtain ⟨⟨t315, t316, t317, t318, t319⟩, A130, H⟩ := H
            replace H : ((power_Battery_Step.f kj5 t299 t316 t317 t318 t319 true 10000).bind fun bt320 => ((power_Battery_Step.f kj5 t299 bt320.1 bt320.2.1 bt320.2.2.1 bt320.2.2.2 false 0).bind fun bt324 => ((power_Battery_Left.f t299 bt324.1 bt324.2.1 bt324.2.2.1 bt324.2.2.2).bind fun bt328 => (if t315 = 2 then (if bt328.2.2.1 = true then (if (bt328.1 == 9896 && (bt328.2.1 == 10100)) = true then ((power_Battery_Tier.f kj5 t299 bt328.2.2.2.1 bt328.2.2.2.2.1 bt328.2.2.2.2.2.1 bt328.2.2.2.2.2.2 0 0).bind fun bt336 => (some (bt336.1 == 1))) else (none)) else (none)) else (none))))) = some r := H
            have A13 := Aside0.mk A130
            clear A130
            replace H := Option.bind_eq_some_iff.mp H
            obtain ⟨⟨t320, t321, t322, t323⟩, A140, H⟩ := H
            replace H : ((power_Battery_Step.f kj5 t299 t320 t321 t322 t323 false 0).bind fun bt324 => ((power_Battery_Left.f t299 bt324.1 bt324.2.1 bt324.2.2.1 bt324.2.2.2).bind fun bt328 => (if t315 = 2 then (if bt328.2.2.1 = true then (if (bt328.1 == 9896 && (bt328.2.1 == 10100)) = true then ((power_Battery_Tier.f kj5 t299 bt328.2.2.2.1 bt328.2.2.2.2.1 bt328.2.2.2.2.2.1 bt328.2.2.2.2.2.2 0 0).bind fun bt336 => (some (bt336.1 == 1))) else (none)) else (none)) else (none)))) = some r := H
            have A14 := Aside0.mk A140
            clear A140
            replace H := Option.bind_eq_some_iff.mp H
            obtain ⟨⟨t324, t325, t326, t327⟩, A150, H⟩ := H
            replace H : ((power_Battery_Left.f t299 t324 t325 t326 t327).bind fun bt328 => (if t315 = 2 then (if bt328.2.2.1 = true then (if (bt328.1 == 9896 && (bt328.2.1 == 10100)) = true then ((power_Battery_Tier.f kj5 t299 bt328.2.2.2.1 bt328.2.2.2.2.1 bt328.2.2.2.2.2.1 bt328.2.2.2.2.2.2 0 0).bind fun bt336 => (some (bt336.1 == 1))) else (none)) else (none)) else (none))) = some r := H
            have A15 := Aside0.mk A150
            clear A150
            replace H := Option.bind_eq_some_iff.mp H
            obtain ⟨⟨t328, t329, t330, t331, t332, t333, t334⟩, A160, H⟩ := H
            replace H : (if t315 = 2 then (if t330 = true then (if (t328 == 9896 && (t329 == 10100)) = true then ((power_Battery_Tier.f kj5 t299 t331 t332 t333 t334 0 0).bind fun bt336 => (some (bt336.1 == 1))) else (none)) else (none)) else (none)) = some r := H
            have A16 := Aside0.mk A160
            clear A160
            by_cases c17 : t315 = 2
            · rw [if_pos c17] at H
              have c17b0 : (t315 == 2) = true := beq_iff_eq.mpr c17
              have c17b1 : (t315 != 2) = false := bne_eq_false_iff_eq.mpr c17
              clear c17
              by_cases c18 : t330 = true
              · subst c18
                have H1 : (if (t328 == 9896 && (t329 == 10100)) = true then ((power_Battery_Tier.f kj5 t299 t331 t332 t333 t334 0 0).bind fun bt336 => (some (bt336.1 == 1))) else (none)) = some r := by rw [if_pos rfl] at H; exact H
                clear H
                have H := H1
                clear H1
                by_cases c19 : (t328 == 9896 && (t329 == 10100)) = true
                · rw [if_pos c19] at H
                  have c19b0 : (t328 == 9896 && (t329 == 10100)) = true := c19
                  (try (have c19b1 : decide (t328 = 9896 && (t329 == 10100)) = true := by simpa using c19))
                  (try (have c19b2 : (t328 == 9896 && (t329 == 10100)) = true := by simpa using c19))
                  clear c19
                  replace H := Option.bind_eq_some_iff.mp H
                  obtain ⟨⟨t336, t337, t338, t339, t340⟩, A200, H⟩ := H
                  replace H : (some (t336 == 1)) = some r := H
                  have A20 := Aside0.mk A200
                  clear A200
                  obtain rfl := Option.some.inj H
                  go_wp2_with (first | ((with_reducible refine gate_callee (f := 16) rfl ?_); refine goesL_ (some 28) rfl rfl Try.func16 (by kernel_rfl) rfl #[.pointer (some ⟨g304, 0, none⟩), .int .i64 0, .int .i64 0] rfl (by (try simp only [List.map_toArray, List.map_cons, List.map_nil]); first | done | rfl | (simp only [List.length_drop, List.length_take]; rfl)) ?_; (with_reducible refine (power_Battery_Tier.calls kj5 g304 t299 t300 t301 t302 t303 0 0 t315 t316 t317 t318 t319 w _ ?side1 ?side2 A13.out).mono ?_); (case side1 => repeat (first | (with_reducible first | exact HI304.out | apply IsS63.alloc | apply IsS63.drewN | apply IsS63.drew | apply IsS63.set_1 | apply IsS63.set_2 | apply IsS63.set_3 | apply IsS63.set_4) | exact HI304.out)); (case side2 => repeat (first | (with_reducible first | exact HB.out | apply below_alloc | apply pw_below_drewN | apply below_drew1 | refine below_set ?_ (IsS63.ge HI304.out)) | exact HB.out)); rintro e w21 ⟨rfl, hi, hb, hk⟩; refine ⟨_, rfl, ?_⟩; have n0_ := Aside0.mk (hb); have n1_ := Aside0.mk (hi); clear HB; clear HI304; have HB := n0_; have HI304 := n1_; clear n0_ n1_; (try clear hb); (try clear hb2); (try clear hk); (try clear hi)) | ((with_reducible refine gate_callee (f := 13) rfl ?_); refine goesL_ (some 31) rfl rfl Try.func13 (by kernel_rfl) rfl #[.pointer (some ⟨g304, 0, none⟩), .agg #[.bool true, .int .i64 10000]] rfl (by (try simp only [List.map_toArray, List.map_cons, List.map_nil]); first | done | rfl | (simp only [List.length_drop, List.length_take]; rfl)) ?_; (with_reducible refine (power_Battery_Step.calls kj5 g304 t299 t316 t317 t318 t319 true 10000 t320 t321 t322 t323 w _ ?side1 ?side2 A14.out).mono ?_); (case side1 => repeat (first | (with_reducible first | exact HI304.out | apply IsS63.alloc | apply IsS63.drewN | apply IsS63.drew | apply IsS63.set_1 | apply IsS63.set_2 | apply IsS63.set_3 | apply IsS63.set_4) | exact HI304.out)); (case side2 => repeat (first | (with_reducible first | exact HB.out | apply below_alloc | apply pw_below_drewN | apply below_drew1 | refine below_set ?_ (IsS63.ge HI304.out)) | exact HB.out)); rintro e w22 ⟨rfl, hi, hb, hk⟩; refine ⟨_, rfl, ?_⟩; have n0_ := Aside0.mk (hb); have n1_ := Aside0.mk (hi); clear HB; clear HI304; have HB := n0_; have HI304 := n1_; clear n0_ n1_; (try clear hb); (try clear hb2); (try clear hk); (try clear hi)) | ((with_reducible refine gate_callee (f := 13) rfl ?_); refine goesL_ (some 34) rfl rfl Try.func13 (by kernel_rfl) rfl #[.pointer (some ⟨g304, 0, none⟩), .agg #[.bool false, .int .i64 0]] rfl (by (try simp only [List.map_toArray, List.map_cons, List.map_nil]); first | done | rfl | (simp only [List.length_drop, List.length_take]; rfl)) ?_; (with_reducible refine (power_Battery_Step.calls kj5 g304 t299 t320 t321 t322 t323 false 0 t324 t325 t326 t327 w _ ?side1 ?side2 A15.out).mono ?_); (case side1 => repeat (first | (with_reducible first | exact HI304.out | apply IsS63.alloc | apply IsS63.drewN | apply IsS63.drew | apply IsS63.set_1 | apply IsS63.set_2 | apply IsS63.set_3 | apply IsS63.set_4) | exact HI304.out)); (case side2 => repeat (first | (with_reducible first | exact HB.out | apply below_alloc | apply pw_below_drewN | apply below_drew1 | refine below_set ?_ (IsS63.ge HI304.out)) | exact HB.out)); rintro e w23 ⟨rfl, hi, hb, hk⟩; refine ⟨_, rfl, ?_⟩; have n0_ := Aside0.mk (hb); have n1_ := Aside0.mk (hi); clear HB; clear HI304; have HB := n0_; have HI304 := n1_; clear n0_ n1_; (try clear hb); (try clear hb2); (try clear hk); (try clear hi)) | ((with_reducible refine gate_callee (f := 15) rfl ?_); refine goesL_ (some 37) rfl rfl Try.func15 (by kernel_rfl) rfl #[.pointer (some ⟨g304, 0, none⟩)] rfl (by (try simp only [List.map_toArray, List.map_cons, List.map_nil]); first | done | rfl | (simp only [List.length_drop, List.length_take]; rfl)) ?_; (with_reducible refine (power_Battery_Left.calls g304 t299 t324 t325 t326 t327 t328 t329 true t331 t332 t333 t334 w _ ?side1 ?side2 A16.out).mono ?_); (case side1 => repeat (first | (with_reducible first | exact HI304.out | apply IsS63.alloc | apply IsS63.drewN | apply IsS63.drew | apply IsS63.set_1 | apply IsS63.set_2 | apply IsS63.set_3 | apply IsS63.set_4) | exact HI304.out)); (case side2 => repeat (first | (with_reducible first | exact HB.out | apply below_alloc | apply pw_below_drewN | apply below_drew1 | refine below_set ?_ (IsS63.ge HI304.out)) | exact HB.out)); rintro e w24 ⟨rfl, hi, hb, hk⟩; refine ⟨_, rfl, ?_⟩; have n0_ := Aside0.mk (hb); have n1_ := Aside0.mk (hi); clear HB; clear HI304; have HB := n0_; have HI304 := n1_; clear n0_ n1_; (try clear hb); (try clear hb2); (try clear hk); (try clear hi)) | ((with_reducible refine gate_dst (N := 6) rfl ?_); refine box_event ?hg (N := 6) ?hd (cs := #[.int .i64 0, .int .i64 0]) (t := 31) ?hr ?_; (case hd => rfl); (case hg => rfl); (case hr => first | (go_simp; done) | (go_simp; rfl)); intro gb335 hg w25 hbox hb; have n0_ := Aside0.mk (IsS63.below (by repeat (first | (with_reducible first | exact HI304.out | apply IsS63.alloc | apply IsS63.drewN | apply IsS63.drew | apply IsS63.set_1 | apply IsS63.set_2 | apply IsS63.set_3 | apply IsS63.set_4) | exact HI304.out)) hb); have n1_ := Aside0.mk (below_step (by repeat (first | (with_reducible first | exact HB.out | apply below_alloc | apply pw_below_drewN | apply below_drew1 | refine below_set ?_ (IsS63.ge HI304.out)) | exact HB.out)) hb); have n2_ := Aside0.mk (hbox); have n3_ := Aside0.mk ((by rw [hg]; exact (below_size (by repeat (first | (with_reducible first | exact HB.out | apply below_alloc | apply pw_below_drewN | apply below_drew1 | refine below_set ?_ (IsS63.ge HI304.out)) | exact HB.out))) : w.heap.size ≤ gb335)); have n4_ := Aside0.mk ((by rw [hg]; exact (below_size (by repeat (first | (with_reducible first | exact HB.out | apply below_alloc | apply pw_below_drewN | apply below_drew1 | refine below_set ?_ (IsS63.ge HI304.out)) | exact HB.out))) : w.heap.size ≤ gb335)); have n5_ := Aside0.mk ((by rw [hg]; exact IsS63.lt (show IsS63 w _ g304 t299 t331 t332 t333 t334 from by repeat (first | (with_reducible first | exact HI304.out | apply IsS63.alloc | apply IsS63.drewN | apply IsS63.drew | apply IsS63.set_1 | apply IsS63.set_2 | apply IsS63.set_3 | apply IsS63.set_4) | exact HI304.out)) : g304 < gb335)); have n6_ := Aside0.mk ((by rw [hg]; exact Nat.ne_of_lt (IsS63.lt (show IsS63 w _ g304 t299 t331 t332 t333 t334 from by repeat (first | (with_reducible first | exact HI304.out | apply IsS63.alloc | apply IsS63.drewN | apply IsS63.drew | apply IsS63.set_1 | apply IsS63.set_2 | apply IsS63.set_3 | apply IsS63.set_4) | exact HI304.out))) : g304 ≠ gb335)); have n7_ := Aside0.mk ((by rw [hg]; exact Nat.ne_of_gt (IsS63.lt (show IsS63 w _ g304 t299 t331 t332 t333 t334 from by repeat (first | (with_reducible first | exact HI304.out | apply IsS63.alloc | apply IsS63.drewN | apply IsS63.drew | apply IsS63.set_1 | apply IsS63.set_2 | apply IsS63.set_3 | apply IsS63.set_4) | exact HI304.out))) : gb335 ≠ g304)); clear HI304; clear HB; have HI304 := n0_; have HB := n1_; have BK335 := n2_; have GW335 := n3_; have GE335 := n4_; have NL304_335 := n5_; have NB304_335 := n6_; have NB335_304 := n7_; clear n0_ n1_ n2_ n3_ n4_ n5_ n6_ n7_; clear hb hbox hg; have hnb26 := NB335_304.out; have hnc26 := NB304_335.out; have hcz27_0 := blk_cells2 (w := w25) (g := gb335) BK335.out; have hfz27_0 := blk_frozen BK335.out) | (go_at_call 16; (with_reducible refine (power_Battery_Tier.calls kj5 g304 t299 t331 t332 t333 t334 0 0 t336 t337 t338 t339 t340 w _ ?side1 ?side2 A20.out).mono ?_); (case side1 => repeat (first | (with_reducible first | exact HI304.out | apply IsS63.alloc | apply IsS63.drewN | apply IsS63.drew | apply IsS63.set_1 | apply IsS63.set_2 | apply IsS63.set_3 | apply IsS63.set_4 | apply IsS63.farb NL304_335.out) | exact HI304.out)); (case side2 => repeat (first | (with_reducible first | exact HB.out | apply below_alloc | apply pw_below_drewN | apply below_drew1 | refine below_set ?_ (IsS63.ge HI304.out) | refine below_set ?_ GE335.out) | exact HB.out)); rintro e w28 ⟨rfl, hi, hb, hk⟩; have n0_ := Aside0.mk (KeepBut.blk hk (g' := gb335) (o := .cells #[.int .i64 t328, .int .i64 t329] 31 (0, 0)) (by (with_reducible repeat (first | refine blk_drewN ?_ _ | refine blk_drew ?_ | refine blk_alloc ?_ _)); refine blk_put (cs := #[.int .i64 t328, .int .i64 0]) ?_ 1 _ rfl; (with_reducible repeat (first | refine blk_drewN ?_ _ | refine blk_drew ?_ | refine blk_alloc ?_ _)); refine blk_put (cs := #[.int .i64 0, .int .i64 0]) ?_ 0 _ rfl; (with_reducible repeat (first | refine blk_drewN ?_ _ | refine blk_drew ?_ | refine blk_alloc ?_ _)); exact BK335.out) NB335_304.out (by simp)); have n1_ := Aside0.mk (hb); have n2_ := Aside0.mk (hi); clear BK335; clear HB; clear HI304; have BK335 := n0_; have HB := n1_; have HI304 := n2_; clear n0_ n1_ n2_; (try clear hb); (try clear hb2); (try clear hk); (try clear hi); clear A20))
                  go_ret
                  exact ⟨by first | rfl | (simp [errW_none, errW_some] <;> rfl) | (simp [*, errW_none, errW_some] <;> rfl), by repeat (first | (with_reducible first | exact HB.out | apply below_alloc | apply pw_below_drewN | apply below_drew1 | refine below_set ?_ (IsS63.ge HI304.out) | refine below_set ?_ GE335.out) | exact HB.out)⟩
                · rw [if_neg c19] at H
                  exact absurd H (by simp)
              · replace c18 := Bool.eq_false_iff.mpr c18
                subst c18
                have H1 : (none) = some r := by rw [if_neg (show ¬ (false = true) by decide)] at H; exact H
                clear H
                have H := H1
                clear H1
                exact absurd H (by simp)
            · rw [if_neg c17] at H
              exact absurd H (by simp)
  · rw [if_neg c3] at H
    have c3b0 : (t305 == 0) = false := beq_eq_false_iff_ne.mpr c3
    have c3b1 : (t305 != 0) = true := bne_iff_ne.mpr c3
    replace H := Option.bind_eq_some_iff.mp H
    obtain ⟨⟨t341, t342, t343, t344, t345, t347⟩, A290, H⟩ := H
    replace H : (if t347 = 0 then (none) else (none)) = some r := H
    have A29 := Aside0.mk A290
    clear A290
    by_cases c30 : t347 = 0
    · rw [if_pos c30] at H
      have c30b0 : (t347 == 0) = true := beq_iff_eq.mpr c30
      have c30b1 : (t347 != 0) = false := bne_eq_false_iff_eq.mpr c30
      clear c30
      exact absurd H (by simp)
    · rw [if_neg c30] at H
      have c30b0 : (t347 == 0) = false := beq_eq_false_iff_ne.mpr c30
      have c30b1 : (t347 != 0) = true := bne_iff_ne.mpr c30
      exact absurd H (by simp)

/-! ### power_Battery_Step_nil: function 78 -/
def power_Battery_Step_nil.f  (a1_0 : Bool) (a1_1 : Int) : Option (Unit) := some ()
set_option maxHeartbeats 8000000 in
set_option maxRecDepth 100000 in
theorem power_Battery_Step_nil.calls  (a1_0 : Bool) (a1_1 : Int) (w : World) (h : power_Battery_Step_nil.f a1_0 a1_1 = some ()) :
    Calls Try.prog 13 #[.pointer none, .agg #[.bool a1_0, .int .i64 a1_1]] w fun e w' => e = .returned (.tuple #[]) ∧ Below w.heap.size w w' := by
  have hu42 := Try.underlying42
  have hu31 := Try.underlying31
  have HB := Aside0.mk (Below.refl w.heap.size w)
  have H : (some ()) = some () := h
  clear h
  go_enter Try.func13, Try.ntmps13
  go_wp2_with (first | ((with_reducible refine gate_dst (N := 3) rfl ?_); refine box_event ?hg (N := 3) ?hd (cs := #[.bool a1_0, .int .i64 a1_1]) (t := 42) ?hr ?_; (case hd => rfl); (case hg => rfl); (case hr => first | (go_simp; done) | (go_simp; rfl)); intro gb349 hg w3 hbox hb; have n0_ := Aside0.mk (below_step (by repeat (first | (with_reducible first | exact HB.out | apply below_alloc | apply pw_below_drewN | apply below_drew1) | exact HB.out)) hb); have n1_ := Aside0.mk (hbox); have n2_ := Aside0.mk ((by rw [hg]; exact (below_size (by repeat (first | (with_reducible first | exact HB.out | apply below_alloc | apply pw_below_drewN | apply below_drew1) | exact HB.out))) : w.heap.size ≤ gb349)); have n3_ := Aside0.mk ((by rw [hg]; exact (below_size (by repeat (first | (with_reducible first | exact HB.out | apply below_alloc | apply pw_below_drewN | apply below_drew1) | exact HB.out))) : w.heap.size ≤ gb349)); clear HB; have HB := n0_; have BK349 := n1_; have GW349 := n2_; have GE349 := n3_; clear n0_ n1_ n2_ n3_; clear hb hbox hg))
  first | go_end0 | ((try simp only [Exit.inBlock, Exit.then]); refine bodyPost_ret (results_none rfl _ _ _) rfl ?_)
  exact ⟨by first | rfl | (simp [errW_none, errW_some] <;> rfl) | (simp [*, errW_none, errW_some] <;> rfl), by repeat (first | (with_reducible first | exact HB.out | apply below_alloc | apply pw_below_drewN | apply below_drew1 | refine below_set ?_ GE349.out) | exact HB.out)⟩

/-! ### power_Battery_Left_nil: function 79 -/
def power_Battery_Left_nil.f  : Option (Int × Int × Bool) := some (0, 0, false)
set_option maxHeartbeats 8000000 in
set_option maxRecDepth 100000 in
theorem power_Battery_Left_nil.calls  (r1 : Int) (r2 : Int) (r3 : Bool) (w : World) (h : power_Battery_Left_nil.f  = some (r1, r2, r3)) :
    Calls Try.prog 15 #[.pointer none] w fun e w' => e = .returned (.tuple #[.agg #[.int .i64 r1, .int .i64 r2], .bool r3]) ∧ Below w.heap.size w w' := by
  have hu31 := Try.underlying31
  have HB := Aside0.mk (Below.refl w.heap.size w)
  have H : (some (0, 0, false)) = some (r1, r2, r3) := h
  clear h
  simp only [Option.some.injEq, Prod.mk.injEq] at H
  obtain ⟨rfl, rfl, rfl⟩ := H
  go_enter Try.func15, Try.ntmps15
  go_wp2_with (first | ((with_reducible refine gate_dst (N := 2) rfl ?_); refine box_event ?hg (N := 2) ?hd (cs := #[.int .i64 0, .int .i64 0]) (t := 31) ?hr ?_; (case hd => rfl); (case hg => rfl); (case hr => first | (go_simp; done) | (go_simp; rfl)); intro gb349 hg w2 hbox hb; have n0_ := Aside0.mk (below_step (by repeat (first | (with_reducible first | exact HB.out | apply below_alloc | apply pw_below_drewN | apply below_drew1) | exact HB.out)) hb); have n1_ := Aside0.mk (hbox); have n2_ := Aside0.mk ((by rw [hg]; exact (below_size (by repeat (first | (with_reducible first | exact HB.out | apply below_alloc | apply pw_below_drewN | apply below_drew1) | exact HB.out))) : w.heap.size ≤ gb349)); have n3_ := Aside0.mk ((by rw [hg]; exact (below_size (by repeat (first | (with_reducible first | exact HB.out | apply below_alloc | apply pw_below_drewN | apply below_drew1) | exact HB.out))) : w.heap.size ≤ gb349)); clear HB; have HB := n0_; have BK349 := n1_; have GW349 := n2_; have GE349 := n3_; clear n0_ n1_ n2_ n3_; clear hb hbox hg; have hcz3_0 := blk_cells2 (w := w2) (g := gb349) BK349.out; have hfz3_0 := blk_frozen BK349.out))
  refine bodyPost_ret (results_ct rfl _ _ gb349 31 #[.int .i64 0, .int .i64 0] (0, 0) _ rfl (by (with_reducible repeat (first | refine blk_drewN ?_ _ | refine blk_drew ?_ | refine blk_alloc ?_ _)); refine blk_put (cs := #[.int .i64 0, .int .i64 0]) ?_ 1 _ rfl; (with_reducible repeat (first | refine blk_drewN ?_ _ | refine blk_drew ?_ | refine blk_alloc ?_ _)); refine blk_put (cs := #[.int .i64 0, .int .i64 0]) ?_ 0 _ rfl; (with_reducible repeat (first | refine blk_drewN ?_ _ | refine blk_drew ?_ | refine blk_alloc ?_ _)); exact BK349.out) Try.underlying31 rfl (by kernel_rfl)) rfl ?_
  exact ⟨by first | rfl | (simp [errW_none, errW_some] <;> rfl) | (simp [*, errW_none, errW_some] <;> rfl), by repeat (first | (with_reducible first | exact HB.out | apply below_alloc | apply pw_below_drewN | apply below_drew1 | refine below_set ?_ GE349.out) | exact HB.out)⟩

/-! ### power_Battery_Tier_nil: function 80 -/
def power_Battery_Tier_nil.f  (a1 : Int) (a2 : Int) : Option (Int) := some 0
set_option maxHeartbeats 8000000 in
set_option maxRecDepth 100000 in
theorem power_Battery_Tier_nil.calls  (a1 : Int) (a2 : Int) (r : Int) (w : World) (h : power_Battery_Tier_nil.f a1 a2 = some r) :
    Calls Try.prog 16 #[.pointer none, .int .i64 a1, .int .i64 a2] w fun e w' => e = .returned (.int .u8 r) ∧ Below w.heap.size w w' := by
  have HB := Aside0.mk (Below.refl w.heap.size w)
  have H : (some 0) = some r := h
  clear h
  obtain rfl := Option.some.inj H
  go_enter Try.func16, Try.ntmps16
  go_wp2
  go_ret
  exact ⟨by first | rfl | (simp [errW_none, errW_some] <;> rfl) | (simp [*, errW_none, errW_some] <;> rfl), by repeat (first | (with_reducible first | exact HB.out | apply below_alloc | apply pw_below_drewN | apply below_drew1) | exact HB.out)⟩

/-! ### windhoverlaw14_PowerNil: function 6 -/
def windhoverlaw14_PowerNil.f (k : Nat) (a0_0 : Bool) (a0_1 : Int) : Option (Bool) := (power_Battery_Step_nil.f a0_0 a0_1).bind fun _ => ((power_Battery_Left_nil.f).bind fun bt350 => (if (bt350.1 == 0 && (bt350.2.1 == 0)) = true then (if bt350.2.2 = true then (none) else ((power_Battery_Tier_nil.f a0_1 a0_1).bind fun t354 => (if t354 = 0 then ((windhoverlaw14_awake.f k).bind fun t355 => (some t355)) else (none)))) else (none)))
theorem windhoverlaw14_PowerNil.mono : ∀ a0 a1 k, LeO (windhoverlaw14_PowerNil.f k a0 a1) (windhoverlaw14_PowerNil.f (k + 1) a0 a1) := by
  intro a0 a1 k
  unfold windhoverlaw14_PowerNil.f
  repeat' first
      | (with_reducible exact windhoverlaw14_awake.mono _)
      | (with_reducible exact LeO.refl _)
      | (with_reducible exact LeO.none _)
      | (with_reducible refine LeO.ite ?_ ?_)
      | (with_reducible refine LeO.bind ?_ (fun _ => ?_))
      | exact windhoverlaw14_awake.mono _
      | exact LeO.none _
      | refine LeO.ite ?_ ?_
      | refine LeO.bind ?_ (fun _ => ?_)
set_option maxHeartbeats 8000000 in
set_option maxRecDepth 100000 in
theorem windhoverlaw14_PowerNil.calls (k : Nat) (a0_0 : Bool) (a0_1 : Int) (r : Bool) (w : World) (h : windhoverlaw14_PowerNil.f k a0_0 a0_1 = some r) :
    Calls Try.prog 6 #[.agg #[.bool a0_0, .int .i64 a0_1]] w fun e w' => e = .returned (.bool r) ∧ Below w.heap.size w w' := by
  have hu42 := Try.underlying42
  have hu31 := Try.underlying31
  have HB := Aside0.mk (Below.refl w.heap.size w)
  have H : ((power_Battery_Step_nil.f a0_0 a0_1).bind fun _ => ((power_Battery_Left_nil.f).bind fun bt350 => (if (bt350.1 == 0 && (bt350.2.1 == 0)) = true then (if bt350.2.2 = true then (none) else ((power_Battery_Tier_nil.f a0_1 a0_1).bind fun t354 => (if t354 = 0 then ((windhoverlaw14_awake.f k).bind fun t355 => (some t355)) else (none)))) else (none)))) = some r := h
  clear h
  replace H := Option.bind_eq_some_iff.mp H
  obtain ⟨_, A20, H⟩ := H
  replace H : ((power_Battery_Left_nil.f).bind fun bt350 => (if (bt350.1 == 0 && (bt350.2.1 == 0)) = true then (if bt350.2.2 = true then (none) else ((power_Battery_Tier_nil.f a0_1 a0_1).bind fun t354 => (if t354 = 0 then ((windhoverlaw14_awake.f k).bind fun t355 => (some t355)) else (none)))) else (none))) = some r := H
  have A2 := Aside0.mk A20
  clear A20
  replace H := Option.bind_eq_some_iff.mp H
  obtain ⟨⟨t350, t351, t352⟩, A30, H⟩ := H
  replace H : (if (t350 == 0 && (t351 == 0)) = true then (if t352 = true then (none) else ((power_Battery_Tier_nil.f a0_1 a0_1).bind fun t354 => (if t354 = 0 then ((windhoverlaw14_awake.f k).bind fun t355 => (some t355)) else (none)))) else (none)) = some r := H
  have A3 := Aside0.mk A30
  clear A30
  by_cases c4 : (t350 == 0 && (t351 == 0)) = true
  · rw [if_pos c4] at H
    have c4b0 : (t350 == 0 && (t351 == 0)) = true := c4
    (try (have c4b1 : decide (t350 = 0 && (t351 == 0)) = true := by simpa using c4))
    (try (have c4b2 : (t350 == 0 && (t351 == 0)) = true := by simpa using c4))
    clear c4
    by_cases c5 : t352 = true
    · subst c5
      have H1 : (none) = some r := by rw [if_pos rfl] at H; exact H
      clear H
      have H := H1
      clear H1
      exact absurd H (by simp)
    · replace c5 := Bool.eq_false_iff.mpr c5
      subst c5
      have H1 : ((power_Battery_Tier_nil.f a0_1 a0_1).bind fun t354 => (if t354 = 0 then ((windhoverlaw14_awake.f k).bind fun t355 => (some t355)) else (none))) = some r := by rw [if_neg (show ¬ (false = true) by decide)] at H; exact H
      clear H
      have H := H1
      clear H1
      replace H := Option.bind_eq_some_iff.mp H
      obtain ⟨t354, A60, H⟩ := H
      replace H : (if t354 = 0 then ((windhoverlaw14_awake.f k).bind fun t355 => (some t355)) else (none)) = some r := H
      have A6 := Aside0.mk A60
      clear A60
      by_cases c7 : t354 = 0
      · rw [if_pos c7] at H
        have c7b0 : (t354 == 0) = true := beq_iff_eq.mpr c7
        have c7b1 : (t354 != 0) = false := bne_eq_false_iff_eq.mpr c7
        clear c7
        replace H := Option.bind_eq_some_iff.mp H
        obtain ⟨t355, A80, H⟩ := H
        replace H : (some t355) = some r := H
        have A8 := Aside0.mk A80
        clear A80
        obtain rfl := Option.some.inj H
        go_enter Try.func6, Try.ntmps6
        go_wp2_with (first | ((with_reducible refine gate_dst (N := 1) rfl ?_); refine box_event ?hg (N := 1) ?hd (cs := #[.bool a0_0, .int .i64 a0_1]) (t := 42) ?hr ?_; (case hd => rfl); (case hg => rfl); (case hr => first | (go_simp; done) | (go_simp; rfl)); intro gb349 hg w9 hbox hb; have n0_ := Aside0.mk (below_step (by repeat (first | (with_reducible first | exact HB.out | apply below_alloc | apply pw_below_drewN | apply below_drew1) | exact HB.out)) hb); have n1_ := Aside0.mk (hbox); have n2_ := Aside0.mk ((by rw [hg]; exact (below_size (by repeat (first | (with_reducible first | exact HB.out | apply below_alloc | apply pw_below_drewN | apply below_drew1) | exact HB.out))) : w.heap.size ≤ gb349)); have n3_ := Aside0.mk ((by rw [hg]; exact (below_size (by repeat (first | (with_reducible first | exact HB.out | apply below_alloc | apply pw_below_drewN | apply below_drew1) | exact HB.out))) : w.heap.size ≤ gb349)); clear HB; have HB := n0_; have BK349 := n1_; have GW349 := n2_; have GE349 := n3_; clear n0_ n1_ n2_ n3_; clear hb hbox hg; have hcz10_0 := blk_cells2 (w := w9) (g := gb349) BK349.out; have hfz10_0 := blk_frozen BK349.out) | ((with_reducible refine gate_callee (f := 13) rfl ?_); refine goesL_ (some 8) rfl rfl Try.func13 (by kernel_rfl) rfl #[.pointer none, .agg #[.bool a0_0, .int .i64 a0_1]] rfl (by (try simp only [List.map_toArray, List.map_cons, List.map_nil]); first | done | rfl | (simp only [List.length_drop, List.length_take]; rfl)) ?_; (with_reducible refine (power_Battery_Step_nil.calls a0_0 a0_1  _ A2.out).mono ?_); rintro e w11 ⟨rfl, hb⟩; refine ⟨_, rfl, ?_⟩; have n0_ := Aside0.mk (blk_below (g := gb349) (o := .cells #[.bool a0_0, .int .i64 a0_1] 42 (0, 0)) (by (with_reducible repeat (first | refine blk_drewN ?_ _ | refine blk_drew ?_ | refine blk_alloc ?_ _)); exact BK349.out) hb); have n1_ := Aside0.mk (below_step (by repeat (first | (with_reducible first | exact HB.out | apply below_alloc | apply pw_below_drewN | apply below_drew1 | refine below_set ?_ GE349.out) | exact HB.out)) hb); clear BK349; clear HB; have BK349 := n0_; have HB := n1_; clear n0_ n1_; (try clear hb); (try clear hb2); (try clear hk); (try clear hi)) | ((with_reducible refine gate_callee (f := 15) rfl ?_); refine goesL_ (some 11) rfl rfl Try.func15 (by kernel_rfl) rfl #[.pointer none] rfl (by (try simp only [List.map_toArray, List.map_cons, List.map_nil]); first | done | rfl | (simp only [List.length_drop, List.length_take]; rfl)) ?_; (with_reducible refine (power_Battery_Left_nil.calls  t350 t351 false _ A3.out).mono ?_); rintro e w12 ⟨rfl, hb⟩; refine ⟨_, rfl, ?_⟩; have n0_ := Aside0.mk (blk_below (g := gb349) (o := .cells #[.bool a0_0, .int .i64 a0_1] 42 (0, 0)) (by (with_reducible repeat (first | refine blk_drewN ?_ _ | refine blk_drew ?_ | refine blk_alloc ?_ _)); exact BK349.out) hb); have n1_ := Aside0.mk (below_step (by repeat (first | (with_reducible first | exact HB.out | apply below_alloc | apply pw_below_drewN | apply below_drew1 | refine below_set ?_ GE349.out) | exact HB.out)) hb); clear BK349; clear HB; have BK349 := n0_; have HB := n1_; clear n0_ n1_; (try clear hb); (try clear hb2); (try clear hk); (try clear hi)) | ((with_reducible refine gate_dst (N := 4) rfl ?_); refine box_event ?hg (N := 4) ?hd (cs := #[.int .i64 0, .int .i64 0]) (t := 31) ?hr ?_; (case hd => rfl); (case hg => rfl); (case hr => first | (go_simp; done) | (go_simp; rfl)); intro gb353 hg w13 hbox hb; have n0_ := Aside0.mk (blk_below (g := gb349) (o := .cells #[.bool a0_0, .int .i64 a0_1] 42 (0, 0)) (by (with_reducible repeat (first | refine blk_drewN ?_ _ | refine blk_drew ?_ | refine blk_alloc ?_ _)); exact BK349.out) hb); have n1_ := Aside0.mk (below_step (by repeat (first | (with_reducible first | exact HB.out | apply below_alloc | apply pw_below_drewN | apply below_drew1 | refine below_set ?_ GE349.out) | exact HB.out)) hb); have n2_ := Aside0.mk (hbox); have n3_ := Aside0.mk ((by rw [hg]; exact (below_size (by repeat (first | (with_reducible first | exact HB.out | apply below_alloc | apply pw_below_drewN | apply below_drew1 | refine below_set ?_ GE349.out) | exact HB.out))) : w.heap.size ≤ gb353)); have n4_ := Aside0.mk ((by rw [hg]; exact (below_size (by repeat (first | (with_reducible first | exact HB.out | apply below_alloc | apply pw_below_drewN | apply below_drew1 | refine below_set ?_ GE349.out) | exact HB.out))) : w.heap.size ≤ gb353)); have n5_ := Aside0.mk ((by rw [hg]; exact Nat.ne_of_lt (blk_lt (g := gb349) (o := .cells #[.bool a0_0, .int .i64 a0_1] 42 (0, 0)) (by (with_reducible repeat (first | refine blk_drewN ?_ _ | refine blk_drew ?_ | refine blk_alloc ?_ _)); exact BK349.out)) : gb349 ≠ gb353)); have n6_ := Aside0.mk ((by rw [hg]; exact Nat.ne_of_gt (blk_lt (g := gb349) (o := .cells #[.bool a0_0, .int .i64 a0_1] 42 (0, 0)) (by (with_reducible repeat (first | refine blk_drewN ?_ _ | refine blk_drew ?_ | refine blk_alloc ?_ _)); exact BK349.out)) : gb353 ≠ gb349)); clear BK349; clear HB; have BK349 := n0_; have HB := n1_; have BK353 := n2_; have GW353 := n3_; have GE353 := n4_; have NB349_353 := n5_; have NB353_349 := n6_; clear n0_ n1_ n2_ n3_ n4_ n5_ n6_; clear hb hbox hg; have hnb14 := NB353_349.out; have hnc14 := NB349_353.out; have hcz15_0 := blk_cells2 (w := w13) (g := gb353) BK353.out; have hfz15_0 := blk_frozen BK353.out; have hcz16_0 := blk_cells2 (w := w13) (g := gb349) BK349.out; have hfz16_0 := blk_frozen BK349.out) | (go_at_call 16; (with_reducible refine (power_Battery_Tier_nil.calls a0_1 a0_1 t354 _ A6.out).mono ?_); rintro e w17 ⟨rfl, hb⟩; have n0_ := Aside0.mk (blk_below (g := gb349) (o := .cells #[.bool a0_0, .int .i64 a0_1] 42 (0, 0)) (by (with_reducible repeat (first | refine blk_drewN ?_ _ | refine blk_drew ?_ | refine blk_alloc ?_ _)); refine blk_far ?_ NB349_353.out _; (with_reducible repeat (first | refine blk_drewN ?_ _ | refine blk_drew ?_ | refine blk_alloc ?_ _)); refine blk_far ?_ NB349_353.out _; (with_reducible repeat (first | refine blk_drewN ?_ _ | refine blk_drew ?_ | refine blk_alloc ?_ _)); exact BK349.out) hb); have n1_ := Aside0.mk (blk_below (g := gb353) (o := .cells #[.int .i64 t350, .int .i64 t351] 31 (0, 0)) (by (with_reducible repeat (first | refine blk_drewN ?_ _ | refine blk_drew ?_ | refine blk_alloc ?_ _)); refine blk_put (cs := #[.int .i64 t350, .int .i64 0]) ?_ 1 _ rfl; (with_reducible repeat (first | refine blk_drewN ?_ _ | refine blk_drew ?_ | refine blk_alloc ?_ _)); refine blk_put (cs := #[.int .i64 0, .int .i64 0]) ?_ 0 _ rfl; (with_reducible repeat (first | refine blk_drewN ?_ _ | refine blk_drew ?_ | refine blk_alloc ?_ _)); exact BK353.out) hb); have n2_ := Aside0.mk (below_step (by repeat (first | (with_reducible first | exact HB.out | apply below_alloc | apply pw_below_drewN | apply below_drew1 | refine below_set ?_ GE349.out | refine below_set ?_ GE353.out) | exact HB.out)) hb); clear BK349; clear BK353; clear HB; have BK349 := n0_; have BK353 := n1_; have HB := n2_; clear n0_ n1_ n2_; (try clear hb); (try clear hb2); (try clear hk); (try clear hi)) | (go_at_call 11; (with_reducible refine (windhoverlaw14_awake.calls k  t355 _ A8.out).mono ?_); rintro e w18 ⟨rfl, hb⟩; have n0_ := Aside0.mk (blk_below (g := gb349) (o := .cells #[.bool a0_0, .int .i64 a0_1] 42 (0, 0)) (by (with_reducible repeat (first | refine blk_drewN ?_ _ | refine blk_drew ?_ | refine blk_alloc ?_ _)); exact BK349.out) hb); have n1_ := Aside0.mk (blk_below (g := gb353) (o := .cells #[.int .i64 t350, .int .i64 t351] 31 (0, 0)) (by (with_reducible repeat (first | refine blk_drewN ?_ _ | refine blk_drew ?_ | refine blk_alloc ?_ _)); exact BK353.out) hb); have n2_ := Aside0.mk (below_step (by repeat (first | (with_reducible first | exact HB.out | apply below_alloc | apply pw_below_drewN | apply below_drew1 | refine below_set ?_ GE349.out | refine below_set ?_ GE353.out) | exact HB.out)) hb); clear BK349; clear BK353; clear HB; have BK349 := n0_; have BK353 := n1_; have HB := n2_; clear n0_ n1_ n2_; (try clear hb); (try clear hb2); (try clear hk); (try clear hi)))
        go_ret
        exact ⟨by first | rfl | (simp [errW_none, errW_some] <;> rfl) | (simp [*, errW_none, errW_some] <;> rfl), by repeat (first | (with_reducible first | exact HB.out | apply below_alloc | apply pw_below_drewN | apply below_drew1 | refine below_set ?_ GE349.out | refine below_set ?_ GE353.out) | exact HB.out)⟩
      · rw [if_neg c7] at H
        exact absurd H (by simp)
  · rw [if_neg c4] at H
    exact absurd H (by simp)

/-- THE ONE PURE STATEMENT of windhoverlaw14_PowerNil: yours. -/
def windhoverlaw14_PowerNil.Pure : Prop := ∀ (a0_0 : Bool) (a0_1 : Int), (Lit.int .i64 a0_1).wf = true → ∃ k, windhoverlaw14_PowerNil.f k a0_0 a0_1 = some true
theorem windhoverlaw14_PowerNil.walk (P : windhoverlaw14_PowerNil.Pure) (a0_0 : Bool) (a0_1 : Int) (w : World) (w0_1 : (Lit.int .i64 a0_1).wf = true) :
    Calls Try.prog 6 #[.agg #[.bool a0_0, .int .i64 a0_1]] w fun e w' => e = .returned (.bool true) ∧ Below w.heap.size w w' := by
  obtain ⟨k, h⟩ := P a0_0 a0_1 w0_1
  refine (windhoverlaw14_PowerNil.calls k a0_0 a0_1 true w h).mono ?_
  rintro e w' ⟨rfl, hd⟩
  exact ⟨rfl, hd⟩

end Go.Proofs.Ytmmlahckcgjofaa.PPowerNil
