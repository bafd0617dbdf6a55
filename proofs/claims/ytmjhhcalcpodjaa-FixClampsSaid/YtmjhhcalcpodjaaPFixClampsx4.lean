-- WRITTEN BY wip/tools/aprint.py of this claim's repository over the kit's words: not typed by hand
import Derived.Test.YtmjhhcalcpodjaaPFixClampsx0
import Derived.Test.YtmjhhcalcpodjaaPFixClampsx1
import Derived.Test.YtmjhhcalcpodjaaPFixClampsx2
import Derived.Test.YtmjhhcalcpodjaaPFixClampsx3
namespace Go.Proofs.Ytmjhhcalcpodjaa.PFixClamps
open Go.RowKit Go.Proofs.YtmjhhcalcpodjaaW.PrintWords Go.Proofs.YtmjhhcalcpodjaaW.PrintLast Go.Proofs.YtmjhhcalcpodjaaW.PrintMore
attribute [local go_sem] max2_int min2_int max_two min_two max_three min_three max_four min_four   -- for this text's walks alone
set_option linter.unusedVariables false
set_option linter.unusedSimpArgs false

/-! ### fix_Slew: function 28 -/
def fix_Slew.f (k : Nat) (a0 : Int) (a1 : Int) (a2 : Int) : Option (Int) := if a2 < 1 then (some a0) else (if a1 > a0 then ((fix_Add.f k a0 a2).bind fun t191 => (some (mn a1 t191))) else ((fix_Sub.f k a0 a2).bind fun t192 => (some (mx a1 t192))))
theorem fix_Slew.mono : ∀ a0 a1 a2 k, LeO (fix_Slew.f k a0 a1 a2) (fix_Slew.f (k + 1) a0 a1 a2) := by
  intro a0 a1 a2 k
  unfold fix_Slew.f
  repeat' first
      | (with_reducible exact fix_Add.mono _ _ _)
      | (with_reducible exact fix_Sub.mono _ _ _)
      | (with_reducible exact LeO.refl _)
      | (with_reducible exact LeO.none _)
      | (with_reducible refine LeO.ite ?_ ?_)
      | (with_reducible refine LeO.bind ?_ (fun _ => ?_))
      | exact fix_Add.mono _ _ _
      | exact fix_Sub.mono _ _ _
      | exact LeO.none _
      | refine LeO.ite ?_ ?_
      | refine LeO.bind ?_ (fun _ => ?_)
set_option maxHeartbeats 8000000 in
set_option maxRecDepth 100000 in
theorem fix_Slew.calls (k : Nat) (a0 : Int) (a1 : Int) (a2 : Int) (r : Int) (w : World) (h : fix_Slew.f k a0 a1 a2 = some r) :
    Calls Try.prog 28 #[.int .i64 a0, .int .i64 a1, .int .i64 a2] w fun e w' => e = .returned (.int .i64 r) ∧ Below w.heap.size w w' := by
  have HB := Aside0.mk (Below.refl w.heap.size w)
  have H : (if a2 < 1 then (some a0) else (if a1 > a0 then ((fix_Add.f k a0 a2).bind fun t191 => (some (mn a1 t191))) else ((fix_Sub.f k a0 a2).bind fun t192 => (some (mx a1 t192))))) = some r := h
  clear h
  by_cases c4 : a2 < 1
  · rw [if_pos c4] at H
    have c4b0 : decide (a2 < 1) = true := decide_eq_true c4
    clear c4
    obtain rfl := Option.some.inj H
    go_enter Try.func28, Try.ntmps28
    go_wp2
    go_ret
    exact ⟨by first | rfl | (simp [errW_none, errW_some] <;> rfl) | (simp [*, errW_none, errW_some] <;> rfl), by repeat (first | (with_reducible first | exact HB.out | apply below_alloc | apply pw_below_drewN | apply below_drew1) | exact HB.out)⟩
  · rw [if_neg c4] at H
    have c4b0 : decide (a2 < 1) = false := decide_eq_false c4
    clear c4
    by_cases c5 : a1 > a0
    · rw [if_pos c5] at H
      have c5b0 : decide (a0 < a1) = true := decide_eq_true c5
      clear c5
      replace H := Option.bind_eq_some_iff.mp H
      obtain ⟨t191, A60, H⟩ := H
      replace H : (some (mn a1 t191)) = some r := H
      have A6 := Aside0.mk A60
      clear A60
      obtain ⟨ji7, hji7⟩ : ∃ j_ : Int, (mn a1 t191) = j_ := ⟨_, rfl⟩
      replace H : (some ji7) = some r := by first | (rw [hji7] at H; exact H) | (simp only [hji7] at H ⊢; exact H)
      (try rw [hji7] at A6)
      have hji7_ : (if t191 < a1 then t191 else a1) = ji7 := hji7
      obtain rfl := Option.some.inj H
      go_enter Try.func28, Try.ntmps28
      go_wp2_with (first | ((with_reducible refine gate_callee (f := 10) rfl ?_); refine goesL_ (some 18) rfl rfl Try.func10 (by kernel_rfl) rfl #[.int .i64 a0, .int .i64 a2] rfl (by (try simp only [List.map_toArray, List.map_cons, List.map_nil]); first | done | rfl | (simp only [List.length_drop, List.length_take]; rfl)) ?_; (with_reducible refine (fix_Add.calls k a0 a2 t191 _ A6.out).mono ?_); rintro e w' ⟨rfl, ⟨nd, rfl⟩⟩; refine ⟨_, rfl, ?_⟩))
      go_ret
      exact ⟨by first | rfl | (simp [errW_none, errW_some] <;> rfl) | (simp only [← hji7]; first | rfl | (simp [errW_none, errW_some] <;> rfl)) | (simp [*, errW_none, errW_some] <;> rfl), by repeat (first | (with_reducible first | exact HB.out | apply below_alloc | apply pw_below_drewN | apply below_drew1) | exact HB.out)⟩
    · rw [if_neg c5] at H
      have c5b0 : decide (a0 < a1) = false := decide_eq_false c5
      clear c5
      replace H := Option.bind_eq_some_iff.mp H
      obtain ⟨t192, A80, H⟩ := H
      replace H : (some (mx a1 t192)) = some r := H
      have A8 := Aside0.mk A80
      clear A80
      obtain ⟨ji9, hji9⟩ : ∃ j_ : Int, (mx a1 t192) = j_ := ⟨_, rfl⟩
      replace H : (some ji9) = some r := by first | (rw [hji9] at H; exact H) | (simp only [hji9] at H ⊢; exact H)
      (try rw [hji9] at A8)
      have hji9_ : (if a1 < t192 then t192 else a1) = ji9 := hji9
      obtain rfl := Option.some.inj H
      go_enter Try.func28, Try.ntmps28
      go_wp2_with (first | ((with_reducible refine gate_callee (f := 12) rfl ?_); refine goesL_ (some 23) rfl rfl Try.func12 (by kernel_rfl) rfl #[.int .i64 a0, .int .i64 a2] rfl (by (try simp only [List.map_toArray, List.map_cons, List.map_nil]); first | done | rfl | (simp only [List.length_drop, List.length_take]; rfl)) ?_; (with_reducible refine (fix_Sub.calls k a0 a2 t192 _ A8.out).mono ?_); rintro e w' ⟨rfl, ⟨nd, rfl⟩⟩; refine ⟨_, rfl, ?_⟩))
      go_ret
      exact ⟨by first | rfl | (simp [errW_none, errW_some] <;> rfl) | (simp only [← hji9]; first | rfl | (simp [errW_none, errW_some] <;> rfl)) | (simp [*, errW_none, errW_some] <;> rfl), by repeat (first | (with_reducible first | exact HB.out | apply below_alloc | apply pw_below_drewN | apply below_drew1) | exact HB.out)⟩

/-! ### fix_Middle: function 30 -/
def fix_Middle.f (a0 : Int) (a1 : Int) : Option (Int) := some (wrap64 ((wrap64 ((a0 / 2) + (a1 / 2))) + (Go.bits .and .i64 (Go.bits .and .i64 a0 a1) 1)))
set_option maxHeartbeats 8000000 in
set_option maxRecDepth 100000 in
theorem fix_Middle.calls (a0 : Int) (a1 : Int) (r : Int) (w : World) (h : fix_Middle.f a0 a1 = some r) :
    Calls Try.prog 30 #[.int .i64 a0, .int .i64 a1] w fun e w' => e = .returned (.int .i64 r) ∧ Drawn0 w w' := by
  have H : (some (wrap64 ((wrap64 ((a0 / 2) + (a1 / 2))) + (Go.bits .and .i64 (Go.bits .and .i64 a0 a1) 1)))) = some r := h
  clear h
  obtain rfl := Option.some.inj H
  go_enter Try.func30, Try.ntmps30
  go_wp2
  go_ret
  exact ⟨by first | rfl | (simp; done) | (simp [*]; done), by repeat (first | exact Drawn0.refl _ | apply Drawn0.step)⟩

/-! ### windhoverlaw01_awake: function 16 -/
def windhoverlaw01_awake.f (k : Nat)  : Option (Bool) := (fix_MulDiv.f k 7 3 (-2)).bind fun bt193 => ((fix_Up.f (-7) 2).bind fun bt195 => ((fix_Down.f (-7) 2).bind fun bt197 => ((fix_Add.f k 2 3).bind fun t199 => (if t199 = 5 then ((fix_Sub.f k 2 5).bind fun t200 => (if t200 = (-3) then ((fix_Mul.f k 4 (-3)).bind fun t201 => (if t201 = (-12) then ((fix_Clamp.f 5 1 3).bind fun t202 => (if t202 = 3 then ((fix_Sqrt.f k 15).bind fun t203 => (if t203 = 3 then (if bt193.2 = 0 then (if bt193.1 = (-11) then (if bt195.2 = 0 then (if bt195.1 = (-3) then (if bt197.2 = 0 then (if bt197.1 = (-4) then ((fix_Slew.f k 0 10 3).bind fun t204 => (if t204 = 3 then ((fix_Middle.f (-1) 0).bind fun t205 => (some (t205 == (-1)))) else (none))) else (none)) else (none)) else (none)) else (none)) else (none)) else (none)) else (none))) else (none))) else (none))) else (none))) else (none)))))
theorem windhoverlaw01_awake.mono : ∀ k, LeO (windhoverlaw01_awake.f k ) (windhoverlaw01_awake.f (k + 1) ) := by
  intro  k
  unfold windhoverlaw01_awake.f
  repeat' first
      | (with_reducible exact fix_Add.mono _ _ _)
      | (with_reducible exact fix_Mul.mono _ _ _)
      | (with_reducible exact fix_MulDiv.mono _ _ _ _)
      | (with_reducible exact fix_Slew.mono _ _ _ _)
      | (with_reducible exact fix_Sqrt.mono _ _)
      | (with_reducible exact fix_Sub.mono _ _ _)
      | (with_reducible exact LeO.refl _)
      | (with_reducible exact LeO.none _)
      | (with_reducible refine LeO.ite ?_ ?_)
      | (with_reducible refine LeO.bind ?_ (fun _ => ?_))
      | exact fix_Add.mono _ _ _
      | exact fix_Mul.mono _ _ _
      | exact fix_MulDiv.mono _ _ _ _
      | exact fix_Slew.mono _ _ _ _
      | exact fix_Sqrt.mono _ _
      | exact fix_Sub.mono _ _ _
      | exact LeO.none _
      | refine LeO.ite ?_ ?_
      | refine LeO.bind ?_ (fun _ => ?_)
set_option maxHeartbeats 8000000 in
set_option maxRecDepth 100000 in
theorem windhoverlaw01_awake.calls (k : Nat)  (r : Bool) (w : World) (h : windhoverlaw01_awake.f k  = some r) :
    Calls Try.prog 16 #[] w fun e w' => e = .returned (.bool r) ∧ Below w.heap.size w w' := by
  have HB := Aside0.mk (Below.refl w.heap.size w)
  have H : ((fix_MulDiv.f k 7 3 (-2)).bind fun bt193 => ((fix_Up.f (-7) 2).bind fun bt195 => ((fix_Down.f (-7) 2).bind fun bt197 => ((fix_Add.f k 2 3).bind fun t199 => (if t199 = 5 then ((fix_Sub.f k 2 5).bind fun t200 => (if t200 = (-3) then ((fix_Mul.f k 4 (-3)).bind fun t201 => (if t201 = (-12) then ((fix_Clamp.f 5 1 3).bind fun t202 => (if t202 = 3 then ((fix_Sqrt.f k 15).bind fun t203 => (if t203 = 3 then (if bt193.2 = 0 then (if bt193.1 = (-11) then (if bt195.2 = 0 then (if bt195.1 = (-3) then (if bt197.2 = 0 then (if bt197.1 = (-4) then ((fix_Slew.f k 0 10 3).bind fun t204 => (if t204 = 3 then ((fix_Middle.f (-1) 0).bind fun t205 => (some (t205 == (-1)))) else (none))) else (none)) else (none)) else (none)) else (none)) else (none)) else (none)) else (none))) else (none))) else (none))) else (none))) else (none)))))) = some r := h
  clear h
  replace H := Option.bind_eq_some_iff.mp H
  obtain ⟨⟨t193, t194⟩, A10, H⟩ := H
  replace H : ((fix_Up.f (-7) 2).bind fun bt195 => ((fix_Down.f (-7) 2).bind fun bt197 => ((fix_Add.f k 2 3).bind fun t199 => (if t199 = 5 then ((fix_Sub.f k 2 5).bind fun t200 => (if t200 = (-3) then ((fix_Mul.f k 4 (-3)).bind fun t201 => (if t201 = (-12) then ((fix_Clamp.f 5 1 3).bind fun t202 => (if t202 = 3 then ((fix_Sqrt.f k 15).bind fun t203 => (if t203 = 3 then (if t194 = 0 then (if t193 = (-11) then (if bt195.2 = 0 then (if bt195.1 = (-3) then (if bt197.2 = 0 then (if bt197.1 = (-4) then ((fix_Slew.f k 0 10 3).bind fun t204 => (if t204 = 3 then ((fix_Middle.f (-1) 0).bind fun t205 => (some (t205 == (-1)))) else (none))) else (none)) else (none)) else (none)) else (none)) else (none)) else (none)) else (none))) else (none))) else (none))) else (none))) else (none))))) = some r := H
  have A1 := Aside0.mk A10
  clear A10
  replace H := Option.bind_eq_some_iff.mp H
  obtain ⟨⟨t195, t196⟩, A20, H⟩ := H
  replace H : ((fix_Down.f (-7) 2).bind fun bt197 => ((fix_Add.f k 2 3).bind fun t199 => (if t199 = 5 then ((fix_Sub.f k 2 5).bind fun t200 => (if t200 = (-3) then ((fix_Mul.f k 4 (-3)).bind fun t201 => (if t201 = (-12) then ((fix_Clamp.f 5 1 3).bind fun t202 => (if t202 = 3 then ((fix_Sqrt.f k 15).bind fun t203 => (if t203 = 3 then (if t194 = 0 then (if t193 = (-11) then (if t196 = 0 then (if t195 = (-3) then (if bt197.2 = 0 then (if bt197.1 = (-4) then ((fix_Slew.f k 0 10 3).bind fun t204 => (if t204 = 3 then ((fix_Middle.f (-1) 0).bind fun t205 => (some (t205 == (-1)))) else (none))) else (none)) else (none)) else (none)) else (none)) else (none)) else (none)) else (none))) else (none))) else (none))) else (none))) else (none)))) = some r := H
  have A2 := Aside0.mk A20
  clear A20
  replace H := Option.bind_eq_some_iff.mp H
  obtain ⟨⟨t197, t198⟩, A30, H⟩ := H
  replace H : ((fix_Add.f k 2 3).bind fun t199 => (if t199 = 5 then ((fix_Sub.f k 2 5).bind fun t200 => (if t200 = (-3) then ((fix_Mul.f k 4 (-3)).bind fun t201 => (if t201 = (-12) then ((fix_Clamp.f 5 1 3).bind fun t202 => (if t202 = 3 then ((fix_Sqrt.f k 15).bind fun t203 => (if t203 = 3 then (if t194 = 0 then (if t193 = (-11) then (if t196 = 0 then (if t195 = (-3) then (if t198 = 0 then (if t197 = (-4) then ((fix_Slew.f k 0 10 3).bind fun t204 => (if t204 = 3 then ((fix_Middle.f (-1) 0).bind fun t205 => (some (t205 == (-1)))) else (none))) else (none)) else (none)) else (none)) else (none)) else (none)) else (none)) else (none))) else (none))) else (none))) else (none))) else (none))) = some r := H
  have A3 := Aside0.mk A30
  clear A30
  replace H := Option.bind_eq_some_iff.mp H
  obtain ⟨t199, A40, H⟩ := H
  replace H : (if t199 = 5 then ((fix_Sub.f k 2 5).bind fun t200 => (if t200 = (-3) then ((fix_Mul.f k 4 (-3)).bind fun t201 => (if t201 = (-12) then ((fix_Clamp.f 5 1 3).bind fun t202 => (if t202 = 3 then ((fix_Sqrt.f k 15).bind fun t203 => (if t203 = 3 then (if t194 = 0 then (if t193 = (-11) then (if t196 = 0 then (if t195 = (-3) then (if t198 = 0 then (if t197 = (-4) then ((fix_Slew.f k 0 10 3).bind fun t204 => (if t204 = 3 then ((fix_Middle.f (-1) 0).bind fun t205 => (some (t205 == (-1)))) else (none))) else (none)) else (none)) else (none)) else (none)) else (none)) else (none)) else (none))) else (none))) else (none))) else (none))) else (none)) = some r := H
  have A4 := Aside0.mk A40
  clear A40
  by_cases c5 : t199 = 5
  · rw [if_pos c5] at H
    have c5b0 : (t199 == 5) = true := beq_iff_eq.mpr c5
    have c5b1 : (t199 != 5) = false := bne_eq_false_iff_eq.mpr c5
    clear c5
    replace H := Option.bind_eq_some_iff.mp H
    obtain ⟨t200, A60, H⟩ := H
    replace H : (if t200 = (-3) then ((fix_Mul.f k 4 (-3)).bind fun t201 => (if t201 = (-12) then ((fix_Clamp.f 5 1 3).bind fun t202 => (if t202 = 3 then ((fix_Sqrt.f k 15).bind fun t203 => (if t203 = 3 then (if t194 = 0 then (if t193 = (-11) then (if t196 = 0 then (if t195 = (-3) then (if t198 = 0 then (if t197 = (-4) then ((fix_Slew.f k 0 10 3).bind fun t204 => (if t204 = 3 then ((fix_Middle.f (-1) 0).bind fun t205 => (some (t205 == (-1)))) else (none))) else (none)) else (none)) else (none)) else (none)) else (none)) else (none)) else (none))) else (none))) else (none))) else (none)) = some r := H
    have A6 := Aside0.mk A60
    clear A60
    by_cases c7 : t200 = (-3)
    · rw [if_pos c7] at H
      have c7b0 : (t200 == (-3)) = true := beq_iff_eq.mpr c7
      have c7b1 : (t200 != (-3)) = false := bne_eq_false_iff_eq.mpr c7
      clear c7
      replace H := Option.bind_eq_some_iff.mp H
      obtain ⟨t201, A80, H⟩ := H
      replace H : (if t201 = (-12) then ((fix_Clamp.f 5 1 3).bind fun t202 => (if t202 = 3 then ((fix_Sqrt.f k 15).bind fun t203 => (if t203 = 3 then (if t194 = 0 then (if t193 = (-11) then (if t196 = 0 then (if t195 = (-3) then (if t198 = 0 then (if t197 = (-4) then ((fix_Slew.f k 0 10 3).bind fun t204 => (if t204 = 3 then ((fix_Middle.f (-1) 0).bind fun t205 => (some (t205 == (-1)))) else (none))) else (none)) else (none)) else (none)) else (none)) else (none)) else (none)) else (none))) else (none))) else (none)) = some r := H
      have A8 := Aside0.mk A80
      clear A80
      by_cases c9 : t201 = (-12)
      · rw [if_pos c9] at H
        have c9b0 : (t201 == (-12)) = true := beq_iff_eq.mpr c9
        have c9b1 : (t201 != (-12)) = false := bne_eq_false_iff_eq.mpr c9
        clear c9
        replace H := Option.bind_eq_some_iff.mp H
        obtain ⟨t202, A100, H⟩ := H
        replace H : (if t202 = 3 then ((fix_Sqrt.f k 15).bind fun t203 => (if t203 = 3 then (if t194 = 0 then (if t193 = (-11) then (if t196 = 0 then (if t195 = (-3) then (if t198 = 0 then (if t197 = (-4) then ((fix_Slew.f k 0 10 3).bind fun t204 => (if t204 = 3 then ((fix_Middle.f (-1) 0).bind fun t205 => (some (t205 == (-1)))) else (none))) else (none)) else (none)) else (none)) else (none)) else (none)) else (none)) else (none))) else (none)) = some r := H
        have A10 := Aside0.mk A100
        clear A100
        by_cases c11 : t202 = 3
        · rw [if_pos c11] at H
          have c11b0 : (t202 == 3) = true := beq_iff_eq.mpr c11
          have c11b1 : (t202 != 3) = false := bne_eq_false_iff_eq.mpr c11
          clear c11
          replace H := Option.bind_eq_some_iff.mp H
          obtain ⟨t203, A120, H⟩ := H
          replace H : (if t203 = 3 then (if t194 = 0 then (if t193 = (-11) then (if t196 = 0 then (if t195 = (-3) then (if t198 = 0 then (if t197 = (-4) then ((fix_Slew.f k 0 10 3).bind fun t204 => (if t204 = 3 then ((fix_Middle.f (-1) 0).bind fun t205 => (some (t205 == (-1)))) else (none))) else (none)) else (none)) else (none)) else (none)) else (none)) else (none)) else (none)) = some r := H
          have A12 := Aside0.mk A120
          clear A120
          by_cases c13 : t203 = 3
          · rw [if_pos c13] at H
            have c13b0 : (t203 == 3) = true := beq_iff_eq.mpr c13
            have c13b1 : (t203 != 3) = false := bne_eq_false_iff_eq.mpr c13
            clear c13
            by_cases c14 : t194 = 0
            · rw [if_pos c14] at H
              have c14b0 : (t194 == 0) = true := beq_iff_eq.mpr c14
              have c14b1 : (t194 != 0) = false := bne_eq_false_iff_eq.mpr c14
              clear c14
              by_cases c15 : t193 = (-11)
              · rw [if_pos c15] at H
                have c15b0 : (t193 == (-11)) = true := beq_iff_eq.mpr c15
                have c15b1 : (t193 != (-11)) = false := bne_eq_false_iff_eq.mpr c15
                clear c15
                by_cases c16 : t196 = 0
                · rw [if_pos c16] at H
                  have c16b0 : (t196 == 0) = true := beq_iff_eq.mpr c16
                  have c16b1 : (t196 != 0) = false := bne_eq_false_iff_eq.mpr c16
                  clear c16
                  by_cases c17 : t195 = (-3)
                  · rw [if_pos c17] at H
                    have c17b0 : (t195 == (-3)) = true := beq_iff_eq.mpr c17
                    have c17b1 : (t195 != (-3)) = false := bne_eq_false_iff_eq.mpr c17
                    clear c17
                    by_cases c18 : t198 = 0
                    · rw [if_pos c18] at H
                      have c18b0 : (t198 == 0) = true := beq_iff_eq.mpr c18
                      have c18b1 : (t198 != 0) = false := bne_eq_false_iff_eq.mpr c18
                      clear c18
                      by_cases c19 : t197 = (-4)
                      · rw [if_pos c19] at H
                        have c19b0 : (t197 == (-4)) = true := beq_iff_eq.mpr c19
                        have c19b1 : (t197 != (-4)) = false := bne_eq_false_iff_eq.mpr c19
                        clear c19
                        replace H := Option.bind_eq_some_iff.mp H
                        obtain ⟨t204, A200, H⟩ := H
                        replace H : (if t204 = 3 then ((fix_Middle.f (-1) 0).bind fun t205 => (some (t205 == (-1)))) else (none)) = some r := H
                        have A20 := Aside0.mk A200
                        clear A200
                        by_cases c21 : t204 = 3
                        · rw [if_pos c21] at H
                          have c21b0 : (t204 == 3) = true := beq_iff_eq.mpr c21
                          have c21b1 : (t204 != 3) = false := bne_eq_false_iff_eq.mpr c21
                          clear c21
                          replace H := Option.bind_eq_some_iff.mp H
                          obtain ⟨t205, A220, H⟩ := H
                          replace H : (some (t205 == (-1))) = some r := H
                          have A22 := Aside0.mk A220
                          clear A220
                          obtain rfl := Option.some.inj H
                          go_enter Try.func16, Try.ntmps16
                          go_wp2_with (first | ((with_reducible refine gate_callee (f := 23) rfl ?_); refine goesL_ (some 8) rfl rfl Try.func23 (by kernel_rfl) rfl #[.int .i64 7, .int .i64 3, .int .i64 (-2)] rfl (by (try simp only [List.map_toArray, List.map_cons, List.map_nil]); first | done | rfl | (simp only [List.length_drop, List.length_take]; rfl)) ?_; (with_reducible refine (fix_MulDiv.calls k 7 3 (-2) t193 t194 _ A1.out).mono ?_); rintro e w' ⟨rfl, ⟨nd, rfl⟩⟩; refine ⟨_, rfl, ?_⟩) | ((with_reducible refine gate_callee (f := 27) rfl ?_); refine goesL_ (some 12) rfl rfl Try.func27 (by kernel_rfl) rfl #[.int .i64 (-7), .int .i64 2] rfl (by (try simp only [List.map_toArray, List.map_cons, List.map_nil]); first | done | rfl | (simp only [List.length_drop, List.length_take]; rfl)) ?_; (with_reducible refine (fix_Up.calls (-7) 2 t195 t196 _ A2.out).mono ?_); rintro e w' ⟨rfl, ⟨nd, rfl⟩⟩; refine ⟨_, rfl, ?_⟩) | ((with_reducible refine gate_callee (f := 26) rfl ?_); refine goesL_ (some 16) rfl rfl Try.func26 (by kernel_rfl) rfl #[.int .i64 (-7), .int .i64 2] rfl (by (try simp only [List.map_toArray, List.map_cons, List.map_nil]); first | done | rfl | (simp only [List.length_drop, List.length_take]; rfl)) ?_; (with_reducible refine (fix_Down.calls (-7) 2 t197 t198 _ A3.out).mono ?_); rintro e w' ⟨rfl, ⟨nd, rfl⟩⟩; refine ⟨_, rfl, ?_⟩) | ((with_reducible refine gate_callee (f := 10) rfl ?_); refine goesL_ (some 19) rfl rfl Try.func10 (by kernel_rfl) rfl #[.int .i64 2, .int .i64 3] rfl (by (try simp only [List.map_toArray, List.map_cons, List.map_nil]); first | done | rfl | (simp only [List.length_drop, List.length_take]; rfl)) ?_; (with_reducible refine (fix_Add.calls k 2 3 t199 _ A4.out).mono ?_); rintro e w' ⟨rfl, ⟨nd, rfl⟩⟩; refine ⟨_, rfl, ?_⟩) | (go_at_call 12; (with_reducible refine (fix_Sub.calls k 2 5 t200 _ A6.out).mono ?_); rintro e w' ⟨rfl, ⟨nd, rfl⟩⟩) | (go_at_call 14; (with_reducible refine (fix_Mul.calls k 4 (-3) t201 _ A8.out).mono ?_); rintro e w' ⟨rfl, ⟨nd, rfl⟩⟩) | (go_at_call 17; (with_reducible refine (fix_Clamp.calls 5 1 3 t202 _ A10.out).mono ?_); rintro e w' ⟨rfl, ⟨nd, rfl⟩⟩) | (go_at_call 19; (with_reducible refine (fix_Sqrt.calls k 15 t203 _ A12.out).mono ?_); rintro e w' ⟨rfl, ⟨nd, rfl⟩⟩) | (go_at_call 28; (with_reducible refine (fix_Slew.calls k 0 10 3 t204 _ A20.out).mono ?_); rintro e w23 ⟨rfl, hb⟩; have n0_ := Aside0.mk (below_step (by repeat (first | (with_reducible first | exact HB.out | apply below_alloc | apply pw_below_drewN | apply below_drew1) | exact HB.out)) hb); clear HB; have HB := n0_; clear n0_; (try clear hb); (try clear hb2); (try clear hk); (try clear hi)) | (go_at_call 30; (with_reducible refine (fix_Middle.calls (-1) 0 t205 _ A22.out).mono ?_); rintro e w' ⟨rfl, ⟨nd, rfl⟩⟩))
                          go_ret
                          exact ⟨by first | rfl | (simp [errW_none, errW_some] <;> rfl) | (simp [*, errW_none, errW_some] <;> rfl), by repeat (first | (with_reducible first | exact HB.out | apply below_alloc | apply pw_below_drewN | apply below_drew1) | exact HB.out)⟩
                        · rw [if_neg c21] at H
                          exact absurd H (by simp)
                      · rw [if_neg c19] at H
                        exact absurd H (by simp)
                    · rw [if_neg c18] at H
                      exact absurd H (by simp)
                  · rw [if_neg c17] at H
                    exact absurd H (by simp)
                · rw [if_neg c16] at H
                  exact absurd H (by simp)
              · rw [if_neg c15] at H
                exact absurd H (by simp)
            · rw [if_neg c14] at H
              exact absurd H (by simp)
          · rw [if_neg c13] at H
            exact absurd H (by simp)
        · rw [if_neg c11] at H
          exact absurd H (by simp)
      · rw [if_neg c9] at H
        exact absurd H (by simp)
    · rw [if_neg c7] at H
      exact absurd H (by simp)
  · rw [if_neg c5] at H
    exact absurd H (by simp)

/-! ### windhoverref01_Clamp: function 18 -/
def windhoverref01_Clamp.f (a0 : Int) (a1 : Int) (a2 : Int) : Option (Int) := if a0 < a1 then (some a1) else (if a0 > a2 then (some a2) else (some a0))
set_option maxHeartbeats 8000000 in
set_option maxRecDepth 100000 in
theorem windhoverref01_Clamp.calls (a0 : Int) (a1 : Int) (a2 : Int) (r : Int) (w : World) (h : windhoverref01_Clamp.f a0 a1 a2 = some r) :
    Calls Try.prog 18 #[.int .i64 a0, .int .i64 a1, .int .i64 a2] w fun e w' => e = .returned (.int .i64 r) ∧ Drawn0 w w' := by
  have H : (if a0 < a1 then (some a1) else (if a0 > a2 then (some a2) else (some a0))) = some r := h
  clear h
  by_cases c4 : a0 < a1
  · rw [if_pos c4] at H
    have c4b0 : decide (a0 < a1) = true := decide_eq_true c4
    clear c4
    obtain rfl := Option.some.inj H
    go_enter Try.func18, Try.ntmps18
    go_wp2
    go_ret
    exact ⟨by first | rfl | (simp; done) | (simp [*]; done), by repeat (first | exact Drawn0.refl _ | apply Drawn0.step)⟩
  · rw [if_neg c4] at H
    have c4b0 : decide (a0 < a1) = false := decide_eq_false c4
    clear c4
    by_cases c5 : a0 > a2
    · rw [if_pos c5] at H
      have c5b0 : decide (a2 < a0) = true := decide_eq_true c5
      clear c5
      obtain rfl := Option.some.inj H
      go_enter Try.func18, Try.ntmps18
      go_wp2
      go_ret
      exact ⟨by first | rfl | (simp; done) | (simp [*]; done), by repeat (first | exact Drawn0.refl _ | apply Drawn0.step)⟩
    · rw [if_neg c5] at H
      have c5b0 : decide (a2 < a0) = false := decide_eq_false c5
      clear c5
      obtain rfl := Option.some.inj H
      go_enter Try.func18, Try.ntmps18
      go_wp2
      go_ret
      exact ⟨by first | rfl | (simp; done) | (simp [*]; done), by repeat (first | exact Drawn0.refl _ | apply Drawn0.step)⟩

/-! ### windhoverlaw01_FixClamps: function 4 -/
def windhoverlaw01_FixClamps.f (k : Nat) (a0 : Int) (a1 : Int) (a2 : Int) : Option (Bool) := (fix_Clamp.f a0 a1 a2).bind fun t206 => (if a1 > a2 then (if a0 < a1 then ((windhoverref01_Clamp.f a0 a1 a2).bind fun t207 => (if t206 = t207 then ((windhoverlaw01_awake.f k).bind fun t208 => (some t208)) else (none))) else (if a0 > a2 then ((windhoverref01_Clamp.f a0 a1 a2).bind fun t209 => (if t206 = t209 then ((windhoverlaw01_awake.f k).bind fun t210 => (some t210)) else (none))) else ((windhoverref01_Clamp.f a0 a1 a2).bind fun t211 => (if t206 = t211 then (if t206 = a0 then ((windhoverlaw01_awake.f k).bind fun t212 => (some t212)) else (none)) else (none))))) else (if t206 ≥ a1 then (if a0 < a1 then ((windhoverref01_Clamp.f a0 a1 a2).bind fun t213 => (if t206 = t213 then (if t206 ≤ a2 then ((windhoverlaw01_awake.f k).bind fun t214 => (some t214)) else (none)) else (none))) else (if a0 > a2 then ((windhoverref01_Clamp.f a0 a1 a2).bind fun t215 => (if t206 = t215 then (if t206 ≤ a2 then ((windhoverlaw01_awake.f k).bind fun t216 => (some t216)) else (none)) else (none))) else ((windhoverref01_Clamp.f a0 a1 a2).bind fun t217 => (if t206 = t217 then (if t206 ≤ a2 then (if t206 = a0 then ((windhoverlaw01_awake.f k).bind fun t218 => (some t218)) else (none)) else (none)) else (none))))) else (if a0 < a1 then ((windhoverref01_Clamp.f a0 a1 a2).bind fun t219 => (if t206 = t219 then (none) else (none))) else (if a0 > a2 then ((windhoverref01_Clamp.f a0 a1 a2).bind fun t220 => (if t206 = t220 then (none) else (none))) else ((windhoverref01_Clamp.f a0 a1 a2).bind fun t221 => (if t206 = t221 then (none) else (none)))))))
theorem windhoverlaw01_FixClamps.mono : ∀ a0 a1 a2 k, LeO (windhoverlaw01_FixClamps.f k a0 a1 a2) (windhoverlaw01_FixClamps.f (k + 1) a0 a1 a2) := by
  intro a0 a1 a2 k
  unfold windhoverlaw01_FixClamps.f
  repeat' first
      | (with_reducible exact windhoverlaw01_awake.mono _)
      | (with_reducible exact LeO.refl _)
      | (with_reducible exact LeO.none _)
      | (with_reducible refine LeO.ite ?_ ?_)
      | (with_reducible refine LeO.bind ?_ (fun _ => ?_))
      | exact windhoverlaw01_awake.mono _
      | exact LeO.none _
      | refine LeO.ite ?_ ?_
      | refine LeO.bind ?_ (fun _ => ?_)
set_option maxHeartbeats 8000000 in
set_option maxRecDepth 100000 in
theorem windhoverlaw01_FixClamps.calls (k : Nat) (a0 : Int) (a1 : Int) (a2 : Int) (r : Bool) (w : World) (h : windhoverlaw01_FixClamps.f k a0 a1 a2 = some r) :
    Calls Try.prog 4 #[.int .i64 a0, .int .i64 a1, .int .i64 a2] w fun e w' => e = .returned (.bool r) ∧ Below w.heap.size w w' := by
  have HB := Aside0.mk (Below.refl w.heap.size w)
  have H : ((fix_Clamp.f a0 a1 a2).bind fun t206 => (if a1 > a2 then (if a0 < a1 then ((windhoverref01_Clamp.f a0 a1 a2).bind fun t207 => (if t206 = t207 then ((windhoverlaw01_awake.f k).bind fun t208 => (some t208)) else (none))) else (if a0 > a2 then ((windhoverref01_Clamp.f a0 a1 a2).bind fun t209 => (if t206 = t209 then ((windhoverlaw01_awake.f k).bind fun t210 => (some t210)) else (none))) else ((windhoverref01_Clamp.f a0 a1 a2).bind fun t211 => (if t206 = t211 then (if t206 = a0 then ((windhoverlaw01_awake.f k).bind fun t212 => (some t212)) else (none)) else (none))))) else (if t206 ≥ a1 then (if a0 < a1 then ((windhoverref01_Clamp.f a0 a1 a2).bind fun t213 => (if t206 = t213 then (if t206 ≤ a2 then ((windhoverlaw01_awake.f k).bind fun t214 => (some t214)) else (none)) else (none))) else (if a0 > a2 then ((windhoverref01_Clamp.f a0 a1 a2).bind fun t215 => (if t206 = t215 then (if t206 ≤ a2 then ((windhoverlaw01_awake.f k).bind fun t216 => (some t216)) else (none)) else (none))) else ((windhoverref01_Clamp.f a0 a1 a2).bind fun t217 => (if t206 = t217 then (if t206 ≤ a2 then (if t206 = a0 then ((windhoverlaw01_awake.f k).bind fun t218 => (some t218)) else (none)) else (none)) else (none))))) else (if a0 < a1 then ((windhoverref01_Clamp.f a0 a1 a2).bind fun t219 => (if t206 = t219 then (none) else (none))) else (if a0 > a2 then ((windhoverref01_Clamp.f a0 a1 a2).bind fun t220 => (if t206 = t220 then (none) else (none))) else ((windhoverref01_Clamp.f a0 a1 a2).bind fun t221 => (if t206 = t221 then (none) else (none)))))))) = some r := h
  clear h
  replace H := Option.bind_eq_some_iff.mp H
  obtain ⟨t206, A40, H⟩ := H
  replace H : (if a1 > a2 then (if a0 < a1 then ((windhoverref01_Clamp.f a0 a1 a2).bind fun t207 => (if t206 = t207 then ((windhoverlaw01_awake.f k).bind fun t208 => (some t208)) else (none))) else (if a0 > a2 then ((windhoverref01_Clamp.f a0 a1 a2).bind fun t209 => (if t206 = t209 then ((windhoverlaw01_awake.f k).bind fun t210 => (some t210)) else (none))) else ((windhoverref01_Clamp.f a0 a1 a2).bind fun t211 => (if t206 = t211 then (if t206 = a0 then ((windhoverlaw01_awake.f k).bind fun t212 => (some t212)) else (none)) else (none))))) else (if t206 ≥ a1 then (if a0 < a1 then ((windhoverref01_Clamp.f a0 a1 a2).bind fun t213 => (if t206 = t213 then (if t206 ≤ a2 then ((windhoverlaw01_awake.f k).bind fun t214 => (some t214)) else (none)) else (none))) else (if a0 > a2 then ((windhoverref01_Clamp.f a0 a1 a2).bind fun t215 => (if t206 = t215 then (if t206 ≤ a2 then ((windhoverlaw01_awake.f k).bind fun t216 => (some t216)) else (none)) else (none))) else ((windhoverref01_Clamp.f a0 a1 a2).bind fun t217 => (if t206 = t217 then (if t206 ≤ a2 then (if t206 = a0 then ((windhoverlaw01_awake.f k).bind fun t218 => (some t218)) else (none)) else (none)) else (none))))) else (if a0 < a1 then ((windhoverref01_Clamp.f a0 a1 a2).bind fun t219 => (if t206 = t219 then (none) else (none))) else (if a0 > a2 then ((windhoverref01_Clamp.f a0 a1 a2).bind fun t220 => (if t206 = t220 then (none) else (none))) else ((windhoverref01_Clamp.f a0 a1 a2).bind fun t221 => (if t206 = t221 then (none) else (none))))))) = some r := H
  have A4 := Aside0.mk A40
  clear A40
  by_cases c5 : a1 > a2
  · rw [if_pos c5] at H
    have c5b0 : decide (a2 < a1) = true := decide_eq_true c5
    clear c5
    by_cases c6 : a0 < a1
    · rw [if_pos c6] at H
      have c6b0 : decide (a0 < a1) = true := decide_eq_true c6
      clear c6
      replace H := Option.bind_eq_some_iff.mp H
      obtain ⟨t207, A70, H⟩ := H
      replace H : (if t206 = t207 then ((windhoverlaw01_awake.f k).bind fun t208 => (some t208)) else (none)) = some r := H
      have A7 := Aside0.mk A70
      clear A70
      by_cases c8 : t206 = t207
      · rw [if_pos c8] at H
        have c8b0 : (t206 == t207) = true := beq_iff_eq.mpr c8
        have c8b1 : (t206 != t207) = false := bne_eq_false_iff_eq.mpr c8
        clear c8
        replace H := Option.bind_eq_some_iff.mp H
        obtain ⟨t208, A90, H⟩ := H
        replace H : (some t208) = some r := H
        have A9 := Aside0.mk A90
        clear A90
        obtain rfl := Option.some.inj H
        go_enter Try.func4, Try.ntmps4
        go_wp2_with (first | ((with_reducible refine gate_callee (f := 17) rfl ?_); refine goesL_ (some 13) rfl rfl Try.func17 (by kernel_rfl) rfl #[.int .i64 a0, .int .i64 a1, .int .i64 a2] rfl (by (try simp only [List.map_toArray, List.map_cons, List.map_nil]); first | done | rfl | (simp only [List.length_drop, List.length_take]; rfl)) ?_; (with_reducible refine (fix_Clamp.calls a0 a1 a2 t206 _ A4.out).mono ?_); rintro e w' ⟨rfl, ⟨nd, rfl⟩⟩; refine ⟨_, rfl, ?_⟩) | ((with_reducible refine gate_callee (f := 18) rfl ?_); refine goesL_ (some 44) rfl rfl Try.func18 (by kernel_rfl) rfl #[.int .i64 a0, .int .i64 a1, .int .i64 a2] rfl (by (try simp only [List.map_toArray, List.map_cons, List.map_nil]); first | done | rfl | (simp only [List.length_drop, List.length_take]; rfl)) ?_; (with_reducible refine (windhoverref01_Clamp.calls a0 a1 a2 t207 _ A7.out).mono ?_); rintro e w' ⟨rfl, ⟨nd, rfl⟩⟩; refine ⟨_, rfl, ?_⟩) | (go_at_call 16; (with_reducible refine (windhoverlaw01_awake.calls k  t208 _ A9.out).mono ?_); rintro e w10 ⟨rfl, hb⟩; have n0_ := Aside0.mk (below_step (by repeat (first | (with_reducible first | exact HB.out | apply below_alloc | apply pw_below_drewN | apply below_drew1) | exact HB.out)) hb); clear HB; have HB := n0_; clear n0_; (try clear hb); (try clear hb2); (try clear hk); (try clear hi)))
        go_ret
        exact ⟨by first | rfl | (simp [errW_none, errW_some] <;> rfl) | (simp [*, errW_none, errW_some] <;> rfl), by repeat (first | (with_reducible first | exact HB.out | apply below_alloc | apply pw_below_drewN | apply below_drew1) | exact HB.out)⟩
      · rw [if_neg c8] at H
        exact absurd H (by simp)
    · rw [if_neg c6] at H
      have c6b0 : decide (a0 < a1) = false := decide_eq_false c6
      clear c6
      by_cases c11 : a0 > a2
      · rw [if_pos c11] at H
        have c11b0 : decide (a2 < a0) = true := decide_eq_true c11
        clear c11
        replace H := Option.bind_eq_some_iff.mp H
        obtain ⟨t209, A120, H⟩ := H
        replace H : (if t206 = t209 then ((windhoverlaw01_awake.f k).bind fun t210 => (some t210)) else (none)) = some r := H
        have A12 := Aside0.mk A120
        clear A120
        by_cases c13 : t206 = t209
        · rw [if_pos c13] at H
          have c13b0 : (t206 == t209) = true := beq_iff_eq.mpr c13
          have c13b1 : (t206 != t209) = false := bne_eq_false_iff_eq.mpr c13
          clear c13
          replace H := Option.bind_eq_some_iff.mp H
          obtain ⟨t210, A140, H⟩ := H
          replace H : (some t210) = some r := H
          have A14 := Aside0.mk A140
          clear A140
          obtain rfl := Option.some.inj H
          go_enter Try.func4, Try.ntmps4
          go_wp2_with (first | ((with_reducible refine gate_callee (f := 17) rfl ?_); refine goesL_ (some 13) rfl rfl Try.func17 (by kernel_rfl) rfl #[.int .i64 a0, .int .i64 a1, .int .i64 a2] rfl (by (try simp only [List.map_toArray, List.map_cons, List.map_nil]); first | done | rfl | (simp only [List.length_drop, List.length_take]; rfl)) ?_; (with_reducible refine (fix_Clamp.calls a0 a1 a2 t206 _ A4.out).mono ?_); rintro e w' ⟨rfl, ⟨nd, rfl⟩⟩; refine ⟨_, rfl, ?_⟩) | ((with_reducible refine gate_callee (f := 18) rfl ?_); refine goesL_ (some 44) rfl rfl Try.func18 (by kernel_rfl) rfl #[.int .i64 a0, .int .i64 a1, .int .i64 a2] rfl (by (try simp only [List.map_toArray, List.map_cons, List.map_nil]); first | done | rfl | (simp only [List.length_drop, List.length_take]; rfl)) ?_; (with_reducible refine (windhoverref01_Clamp.calls a0 a1 a2 t209 _ A12.out).mono ?_); rintro e w' ⟨rfl, ⟨nd, rfl⟩⟩; refine ⟨_, rfl, ?_⟩) | (go_at_call 16; (with_reducible refine (windhoverlaw01_awake.calls k  t210 _ A14.out).mono ?_); rintro e w15 ⟨rfl, hb⟩; have n0_ := Aside0.mk (below_step (by repeat (first | (with_reducible first | exact HB.out | apply below_alloc | apply pw_below_drewN | apply below_drew1) | exact HB.out)) hb); clear HB; have HB := n0_; clear n0_; (try clear hb); (try clear hb2); (try clear hk); (try clear hi)))
          go_ret
          exact ⟨by first | rfl | (simp [errW_none, errW_some] <;> rfl) | (simp [*, errW_none, errW_some] <;> rfl), by repeat (first | (with_reducible first | exact HB.out | apply below_alloc | apply pw_below_drewN | apply below_drew1) | exact HB.out)⟩
        · rw [if_neg c13] at H
          exact absurd H (by simp)
      · rw [if_neg c11] at H
        have c11b0 : decide (a2 < a0) = false := decide_eq_false c11
        clear c11
        replace H := Option.bind_eq_some_iff.mp H
        obtain ⟨t211, A160, H⟩ := H
        replace H : (if t206 = t211 then (if t206 = a0 then ((windhoverlaw01_awake.f k).bind fun t212 => (some t212)) else (none)) else (none)) = some r := H
        have A16 := Aside0.mk A160
        clear A160
        by_cases c17 : t206 = t211
        · rw [if_pos c17] at H
          have c17b0 : (t206 == t211) = true := beq_iff_eq.mpr c17
          have c17b1 : (t206 != t211) = false := bne_eq_false_iff_eq.mpr c17
          clear c17
          by_cases c18 : t206 = a0
          · rw [if_pos c18] at H
            have c18b0 : (t206 == a0) = true := beq_iff_eq.mpr c18
            have c18b1 : (t206 != a0) = false := bne_eq_false_iff_eq.mpr c18
            clear c18
            replace H := Option.bind_eq_some_iff.mp H
            obtain ⟨t212, A190, H⟩ := H
            replace H : (some t212) = some r := H
            have A19 := Aside0.mk A190
            clear A190
            obtain rfl := Option.some.inj H
            go_enter Try.func4, Try.ntmps4
            go_wp2_with (first | ((with_reducible refine gate_callee (f := 17) rfl ?_); refine goesL_ (some 13) rfl rfl Try.func17 (by kernel_rfl) rfl #[.int .i64 a0, .int .i64 a1, .int .i64 a2] rfl (by (try simp only [List.map_toArray, List.map_cons, List.map_nil]); first | done | rfl | (simp only [List.length_drop, List.length_take]; rfl)) ?_; (with_reducible refine (fix_Clamp.calls a0 a1 a2 t206 _ A4.out).mono ?_); rintro e w' ⟨rfl, ⟨nd, rfl⟩⟩; refine ⟨_, rfl, ?_⟩) | ((with_reducible refine gate_callee (f := 18) rfl ?_); refine goesL_ (some 44) rfl rfl Try.func18 (by kernel_rfl) rfl #[.int .i64 a0, .int .i64 a1, .int .i64 a2] rfl (by (try simp only [List.map_toArray, List.map_cons, List.map_nil]); first | done | rfl | (simp only [List.length_drop, List.length_take]; rfl)) ?_; (with_reducible refine (windhoverref01_Clamp.calls a0 a1 a2 t211 _ A16.out).mono ?_); rintro e w' ⟨rfl, ⟨nd, rfl⟩⟩; refine ⟨_, rfl, ?_⟩) | (go_at_call 16; (with_reducible refine (windhoverlaw01_awake.calls k  t212 _ A19.out).mono ?_); rintro e w20 ⟨rfl, hb⟩; have n0_ := Aside0.mk (below_step (by repeat (first | (with_reducible first | exact HB.out | apply below_alloc | apply pw_below_drewN | apply below_drew1) | exact HB.out)) hb); clear HB; have HB := n0_; clear n0_; (try clear hb); (try clear hb2); (try clear hk); (try clear hi)))
            go_ret
            exact ⟨by first | rfl | (simp [errW_none, errW_some] <;> rfl) | (simp [*, errW_none, errW_some] <;> rfl), by repeat (first | (with_reducible first | exact HB.out | apply below_alloc | apply pw_below_drewN | apply below_drew1) | exact HB.out)⟩
          · rw [if_neg c18] at H
            exact absurd H (by simp)
        · rw [if_neg c17] at H
          exact absurd H (by simp)
  · rw [if_neg c5] at H
    have c5b0 : decide (a2 < a1) = false := decide_eq_false c5
    clear c5
    by_cases c21 : t206 ≥ a1
    · rw [if_pos c21] at H
      have c21b0 : decide (a1 ≤ t206) = true := decide_eq_true c21
      clear c21
      by_cases c22 : a0 < a1
      · rw [if_pos c22] at H
        have c22b0 : decide (a0 < a1) = true := decide_eq_true c22
        clear c22
        replace H := Option.bind_eq_some_iff.mp H
        obtain ⟨t213, A230, H⟩ := H
        replace H : (if t206 = t213 then (if t206 ≤ a2 then ((windhoverlaw01_awake.f k).bind fun t214 => (some t214)) else (none)) else (none)) = some r := H
        have A23 := Aside0.mk A230
        clear A230
        by_cases c24 : t206 = t213
        · rw [if_pos c24] at H
          have c24b0 : (t206 == t213) = true := beq_iff_eq.mpr c24
          have c24b1 : (t206 != t213) = false := bne_eq_false_iff_eq.mpr c24
          clear c24
          by_cases c25 : t206 ≤ a2
          · rw [if_pos c25] at H
            have c25b0 : decide (t206 ≤ a2) = true := decide_eq_true c25
            clear c25
            replace H := Option.bind_eq_some_iff.mp H
            obtain ⟨t214, A260, H⟩ := H
            replace H : (some t214) = some r := H
            have A26 := Aside0.mk A260
            clear A260
            obtain rfl := Option.some.inj H
            go_enter Try.func4, Try.ntmps4
            go_wp2_with (first | ((with_reducible refine gate_callee (f := 17) rfl ?_); refine goesL_ (some 13) rfl rfl Try.func17 (by kernel_rfl) rfl #[.int .i64 a0, .int .i64 a1, .int .i64 a2] rfl (by (try simp only [List.map_toArray, List.map_cons, List.map_nil]); first | done | rfl | (simp only [List.length_drop, List.length_take]; rfl)) ?_; (with_reducible refine (fix_Clamp.calls a0 a1 a2 t206 _ A4.out).mono ?_); rintro e w' ⟨rfl, ⟨nd, rfl⟩⟩; refine ⟨_, rfl, ?_⟩) | ((with_reducible refine gate_callee (f := 18) rfl ?_); refine goesL_ (some 44) rfl rfl Try.func18 (by kernel_rfl) rfl #[.int .i64 a0, .int .i64 a1, .int .i64 a2] rfl (by (try simp only [List.map_toArray, List.map_cons, List.map_nil]); first | done | rfl | (simp only [List.length_drop, List.length_take]; rfl)) ?_; (with_reducible refine (windhoverref01_Clamp.calls a0 a1 a2 t213 _ A23.out).mono ?_); rintro e w' ⟨rfl, ⟨nd, rfl⟩⟩; refine ⟨_, rfl, ?_⟩) | (go_at_call 16; (with_reducible refine (windhoverlaw01_awake.calls k  t214 _ A26.out).mono ?_); rintro e w27 ⟨rfl, hb⟩; have n0_ := Aside0.mk (below_step (by repeat (first | (with_reducible first | exact HB.out | apply below_alloc | apply pw_below_drewN | apply below_drew1) | exact HB.out)) hb); clear HB; have HB := n0_; clear n0_; (try clear hb); (try clear hb2); (try clear hk); (try clear hi)))
            go_ret
            exact ⟨by first | rfl | (simp [errW_none, errW_some] <;> rfl) | (simp [*, errW_none, errW_some] <;> rfl), by repeat (first | (with_reducible first | exact HB.out | apply below_alloc | apply pw_below_drewN | apply below_drew1) | exact HB.out)⟩
          · rw [if_neg c25] at H
            exact absurd H (by simp)
        · rw [if_neg c24] at H
          exact absurd H (by simp)
      · rw [if_neg c22] at H
        have c22b0 : decide (a0 < a1) = false := decide_eq_false c22
        clear c22
        by_cases c28 : a0 > a2
        · rw [if_pos c28] at H
          have c28b0 : decide (a2 < a0) = true := decide_eq_true c28
          clear c28
          replace H := Option.bind_eq_some_iff.mp H
          obtain ⟨t215, A290, H⟩ := H
          replace H : (if t206 = t215 then (if t206 ≤ a2 then ((windhoverlaw01_awake.f k).bind fun t216 => (some t216)) else (none)) else (none)) = some r := H
          have A29 := Aside0.mk A290
          clear A290
          by_cases c30 : t206 = t215
          · rw [if_pos c30] at H
            have c30b0 : (t206 == t215) = true := beq_iff_eq.mpr c30
            have c30b1 : (t206 != t215) = false := bne_eq_false_iff_eq.mpr c30
            clear c30
            by_cases c31 : t206 ≤ a2
            · rw [if_pos c31] at H
              have c31b0 : decide (t206 ≤ a2) = true := decide_eq_true c31
              clear c31
              replace H := Option.bind_eq_some_iff.mp H
              obtain ⟨t216, A320, H⟩ := H
              replace H : (some t216) = some r := H
              have A32 := Aside0.mk A320
              clear A320
              obtain rfl := Option.some.inj H
              go_enter Try.func4, Try.ntmps4
              go_wp2_with (first | ((with_reducible refine gate_callee (f := 17) rfl ?_); refine goesL_ (some 13) rfl rfl Try.func17 (by kernel_rfl) rfl #[.int .i64 a0, .int .i64 a1, .int .i64 a2] rfl (by (try simp only [List.map_toArray, List.map_cons, List.map_nil]); first | done | rfl | (simp only [List.length_drop, List.length_take]; rfl)) ?_; (with_reducible refine (fix_Clamp.calls a0 a1 a2 t206 _ A4.out).mono ?_); rintro e w' ⟨rfl, ⟨nd, rfl⟩⟩; refine ⟨_, rfl, ?_⟩) | ((with_reducible refine gate_callee (f := 18) rfl ?_); refine goesL_ (some 44) rfl rfl Try.func18 (by kernel_rfl) rfl #[.int .i64 a0, .int .i64 a1, .int .i64 a2] rfl (by (try simp only [List.map_toArray, List.map_cons, List.map_nil]); first | done | rfl | (simp only [List.length_drop, List.length_take]; rfl)) ?_; (with_reducible refine (windhoverref01_Clamp.calls a0 a1 a2 t215 _ A29.out).mono ?_); rintro e w' ⟨rfl, ⟨nd, rfl⟩⟩; refine ⟨_, rfl, ?_⟩) | (go_at_call 16; (with_reducible refine (windhoverlaw01_awake.calls k  t216 _ A32.out).mono ?_); rintro e w33 ⟨rfl, hb⟩; have n0_ := Aside0.mk (below_step (by repeat (first | (with_reducible first | exact HB.out | apply below_alloc | apply pw_below_drewN | apply below_drew1) | exact HB.out)) hb); clear HB; have HB := n0_; clear n0_; (try clear hb); (try clear hb2); (try clear hk); (try clear hi)))
              go_ret
              exact ⟨by first | rfl | (simp [errW_none, errW_some] <;> rfl) | (simp [*, errW_none, errW_some] <;> rfl), by repeat (first | (with_reducible first | exact HB.out | apply below_alloc | apply pw_below_drewN | apply below_drew1) | exact HB.out)⟩
            · rw [if_neg c31] at H
              exact absurd H (by simp)
          · rw [if_neg c30] at H
            exact absurd H (by simp)
        · rw [if_neg c28] at H
          have c28b0 : decide (a2 < a0) = false := decide_eq_false c28
          clear c28
          replace H := Option.bind_eq_some_iff.mp H
          obtain ⟨t217, A340, H⟩ := H
          replace H : (if t206 = t217 then (if t206 ≤ a2 then (if t206 = a0 then ((windhoverlaw01_awake.f k).bind fun t218 => (some t218)) else (none)) else (none)) else (none)) = some r := H
          have A34 := Aside0.mk A340
          clear A340
          by_cases c35 : t206 = t217
          · rw [if_pos c35] at H
            have c35b0 : (t206 == t217) = true := beq_iff_eq.mpr c35
            have c35b1 : (t206 != t217) = false := bne_eq_false_iff_eq.mpr c35
            clear c35
            by_cases c36 : t206 ≤ a2
            · rw [if_pos c36] at H
              have c36b0 : decide (t206 ≤ a2) = true := decide_eq_true c36
              clear c36
              by_cases c37 : t206 = a0
              · rw [if_pos c37] at H
                have c37b0 : (t206 == a0) = true := beq_iff_eq.mpr c37
                have c37b1 : (t206 != a0) = false := bne_eq_false_iff_eq.mpr c37
                clear c37
                replace H := Option.bind_eq_some_iff.mp H
                obtain ⟨t218, A380, H⟩ := H
                replace H : (some t218) = some r := H
                have A38 := Aside0.mk A380
                clear A380
                obtain rfl := Option.some.inj H
                go_enter Try.func4, Try.ntmps4
                go_wp2_with (first | ((with_reducible refine gate_callee (f := 17) rfl ?_); refine goesL_ (some 13) rfl rfl Try.func17 (by kernel_rfl) rfl #[.int .i64 a0, .int .i64 a1, .int .i64 a2] rfl (by (try simp only [List.map_toArray, List.map_cons, List.map_nil]); first | done | rfl | (simp only [List.length_drop, List.length_take]; rfl)) ?_; (with_reducible refine (fix_Clamp.calls a0 a1 a2 t206 _ A4.out).mono ?_); rintro e w' ⟨rfl, ⟨nd, rfl⟩⟩; refine ⟨_, rfl, ?_⟩) | ((with_reducible refine gate_callee (f := 18) rfl ?_); refine goesL_ (some 44) rfl rfl Try.func18 (by kernel_rfl) rfl #[.int .i64 a0, .int .i64 a1, .int .i64 a2] rfl (by (try simp only [List.map_toArray, List.map_cons, List.map_nil]); first | done | rfl | (simp only [List.length_drop, List.length_take]; rfl)) ?_; (with_reducible refine (windhoverref01_Clamp.calls a0 a1 a2 t217 _ A34.out).mono ?_); rintro e w' ⟨rfl, ⟨nd, rfl⟩⟩; refine ⟨_, rfl, ?_⟩) | (go_at_call 16; (with_reducible refine (windhoverlaw01_awake.calls k  t218 _ A38.out).mono ?_); rintro e w39 ⟨rfl, hb⟩; have n0_ := Aside0.mk (below_step (by repeat (first | (with_reducible first | exact HB.out | apply below_alloc | apply pw_below_drewN | apply below_drew1) | exact HB.out)) hb); clear HB; have HB := n0_; clear n0_; (try clear hb); (try clear hb2); (try clear hk); (try clear hi)))
                go_ret
                exact ⟨by first | rfl | (simp [errW_none, errW_some] <;> rfl) | (simp [*, errW_none, errW_some] <;> rfl), by repeat (first | (with_reducible first | exact HB.out | apply below_alloc | apply pw_below_drewN | apply below_drew1) | exact HB.out)⟩
              · rw [if_neg c37] at H
                exact absurd H (by simp)
            · rw [if_neg c36] at H
              exact absurd H (by simp)
          · rw [if_neg c35] at H
            exact absurd H (by simp)
    · rw [if_neg c21] at H
      have c21b0 : decide (a1 ≤ t206) = false := decide_eq_false c21
      clear c21
      by_cases c40 : a0 < a1
      · rw [if_pos c40] at H
        have c40b0 : decide (a0 < a1) = true := decide_eq_true c40
        clear c40
        replace H := Option.bind_eq_some_iff.mp H
        obtain ⟨t219, A410, H⟩ := H
        replace H : (if t206 = t219 then (none) else (none)) = some r := H
        have A41 := Aside0.mk A410
        clear A410
        by_cases c42 : t206 = t219
        · rw [if_pos c42] at H
          exact absurd H (by simp)
        · rw [if_neg c42] at H
          exact absurd H (by simp)
      · rw [if_neg c40] at H
        have c40b0 : decide (a0 < a1) = false := decide_eq_false c40
        clear c40
        by_cases c43 : a0 > a2
        · rw [if_pos c43] at H
          have c43b0 : decide (a2 < a0) = true := decide_eq_true c43
          clear c43
          replace H := Option.bind_eq_some_iff.mp H
          obtain ⟨t220, A440, H⟩ := H
          replace H : (if t206 = t220 then (none) else (none)) = some r := H
          have A44 := Aside0.mk A440
          clear A440
          by_cases c45 : t206 = t220
          · rw [if_pos c45] at H
            exact absurd H (by simp)
          · rw [if_neg c45] at H
            exact absurd H (by simp)
        · rw [if_neg c43] at H
          have c43b0 : decide (a2 < a0) = false := decide_eq_false c43
          clear c43
          replace H := Option.bind_eq_some_iff.mp H
          obtain ⟨t221, A460, H⟩ := H
          replace H : (if t206 = t221 then (none) else (none)) = some r := H
          have A46 := Aside0.mk A460
          clear A460
          by_cases c47 : t206 = t221
          · rw [if_pos c47] at H
            exact absurd H (by simp)
          · rw [if_neg c47] at H
            exact absurd H (by simp)

/-- THE ONE PURE STATEMENT of windhoverlaw01_FixClamps: yours. -/
def windhoverlaw01_FixClamps.Pure : Prop := ∀ (a0 : Int) (a1 : Int) (a2 : Int), (Lit.int .i64 a0).wf = true → (Lit.int .i64 a1).wf = true → (Lit.int .i64 a2).wf = true → ∃ k, windhoverlaw01_FixClamps.f k a0 a1 a2 = some true
theorem windhoverlaw01_FixClamps.walk (P : windhoverlaw01_FixClamps.Pure) (a0 : Int) (a1 : Int) (a2 : Int) (w : World) (w0 : (Lit.int .i64 a0).wf = true) (w1 : (Lit.int .i64 a1).wf = true) (w2 : (Lit.int .i64 a2).wf = true) :
    Calls Try.prog 4 #[.int .i64 a0, .int .i64 a1, .int .i64 a2] w fun e w' => e = .returned (.bool true) ∧ Below w.heap.size w w' := by
  obtain ⟨k, h⟩ := P a0 a1 a2 w0 w1 w2
  refine (windhoverlaw01_FixClamps.calls k a0 a1 a2 true w h).mono ?_
  rintro e w' ⟨rfl, hd⟩
  exact ⟨rfl, hd⟩

end Go.Proofs.Ytmjhhcalcpodjaa.PFixClamps
