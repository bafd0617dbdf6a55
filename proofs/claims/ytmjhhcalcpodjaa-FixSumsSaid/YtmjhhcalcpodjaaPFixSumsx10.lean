-- WRITTEN BY wip/tools/aprint.py of this claim's repository over the kit's words: not typed by hand
import Derived.Test.YtmjhhcalcpodjaaPFixSumsx0
import Derived.Test.YtmjhhcalcpodjaaPFixSumsx1
import Derived.Test.YtmjhhcalcpodjaaPFixSumsx4
import Derived.Test.YtmjhhcalcpodjaaPFixSumsx5
import Derived.Test.YtmjhhcalcpodjaaPFixSumsx7
import Derived.Test.YtmjhhcalcpodjaaPFixSumsx9
namespace Go.Proofs.Ytmjhhcalcpodjaa.PFixSums
open Go.RowKit Go.Proofs.YtmjhhcalcpodjaaW.PrintWords Go.Proofs.YtmjhhcalcpodjaaW.PrintLast Go.Proofs.YtmjhhcalcpodjaaW.PrintMore
attribute [local go_sem] max2_int min2_int max_two min_two max_three min_three max_four min_four   -- for this text's walks alone
set_option linter.unusedVariables false
set_option linter.unusedSimpArgs false

/-! ### fix_Slew: function 28 -/
def fix_Slew.f (k : Nat) (a0 : Int) (a1 : Int) (a2 : Int) : Option (Int) := if a2 < 1 then (some a0) else (if a1 > a0 then ((fix_Add.f k a0 a2).bind fun t346 => (some (mn a1 t346))) else ((fix_Sub.f k a0 a2).bind fun t347 => (some (mx a1 t347))))
theorem fix_Slew.mono : ∀ a0 a1 a2 k, LeO (fix_Slew.f k a0 a1 a2) (fix_Slew.f (k + 1) a0 a1 a2) := by
  intro a0 a1 a2 k
  unfold fix_Slew.f
  repeat' first
      | (with_reducible exact fix_Add.mono _ _ _)
      | (with_reducible exact fix_Sub.mono _ _ _)
      | (with_reducible exact LeO.refl _)
      | (with_reducible exact LeO.none _)
      | (with_reducible refine LeO.ite ?_ ?_)
      | (with_reducible refine LeO.bind ?_ (fun _ => ?_))
      | exact fix_Add.mono _ _ _
      | exact fix_Sub.mono _ _ _
      | exact LeO.none _
      | refine LeO.ite ?_ ?_
      | refine LeO.bind ?_ (fun _ => ?_)
set_option maxHeartbeats 8000000 in
set_option maxRecDepth 100000 in
theorem fix_Slew.calls (k : Nat) (a0 : Int) (a1 : Int) (a2 : Int) (r : Int) (w : World) (h : fix_Slew.f k a0 a1 a2 = some r) :
    Calls Try.prog 28 #[.int .i64 a0, .int .i64 a1, .int .i64 a2] w fun e w' => e = .returned (.int .i64 r) ∧ Below w.heap.size w w' := by
  have HB := Aside0.mk (Below.refl w.heap.size w)
  have H : (if a2 < 1 then (some a0) else (if a1 > a0 then ((fix_Add.f k a0 a2).bind fun t346 => (some (mn a1 t346))) else ((fix_Sub.f k a0 a2).bind fun t347 => (some (mx a1 t347))))) = some r := h
  clear h
  by_cases c4 : a2 < 1
  · rw [if_pos c4] at H
    have c4b0 : decide (a2 < 1) = true := decide_eq_true c4
    clear c4
    obtain rfl := Option.some.inj H
    go_enter Try.func28, Try.ntmps28
    go_wp2
    go_ret
    exact ⟨by first | rfl | (simp [errW_none, errW_some] <;> rfl) | (simp [*, errW_none, errW_some] <;> rfl), by repeat (first | (with_reducible first | exact HB.out | apply below_alloc | apply pw_below_drewN | apply below_drew1) | exact HB.out)⟩
  · rw [if_neg c4] at H
    have c4b0 : decide (a2 < 1) = false := decide_eq_false c4
    clear c4
    by_cases c5 : a1 > a0
    · rw [if_pos c5] at H
      have c5b0 : decide (a0 < a1) = true := decide_eq_true c5
      clear c5
      replace H := Option.bind_eq_some_iff.mp H
      obtain ⟨t346, A60, H⟩ := H
      replace H : (some (mn a1 t346)) = some r := H
      have A6 := Aside0.mk A60
      clear A60
      obtain ⟨ji7, hji7⟩ : ∃ j_ : Int, (mn a1 t346) = j_ := ⟨_, rfl⟩
      replace H : (some ji7) = some r := by first | (rw [hji7] at H; exact H) | (simp only [hji7] at H ⊢; exact H)
      (try rw [hji7] at A6)
      have hji7_ : (if t346 < a1 then t346 else a1) = ji7 := hji7
      obtain rfl := Option.some.inj H
      go_enter Try.func28, Try.ntmps28
      go_wp2_with (first | ((with_reducible refine gate_callee (f := 10) rfl ?_); refine goesL_ (some 18) rfl rfl Try.func10 (by kernel_rfl) rfl #[.int .i64 a0, .int .i64 a2] rfl (by (try simp only [List.map_toArray, List.map_cons, List.map_nil]); first | done | rfl | (simp only [List.length_drop, List.length_take]; rfl)) ?_; (with_reducible refine (fix_Add.calls k a0 a2 t346 _ A6.out).mono ?_); rintro e w' ⟨rfl, ⟨nd, rfl⟩⟩; refine ⟨_, rfl, ?_⟩))
      go_ret
      exact ⟨by first | rfl | (simp [errW_none, errW_some] <;> rfl) | (simp only [← hji7]; first | rfl | (simp [errW_none, errW_some] <;> rfl)) | (simp [*, errW_none, errW_some] <;> rfl), by repeat (first | (with_reducible first | exact HB.out | apply below_alloc | apply pw_below_drewN | apply below_drew1) | exact HB.out)⟩
    · rw [if_neg c5] at H
      have c5b0 : decide (a0 < a1) = false := decide_eq_false c5
      clear c5
      replace H := Option.bind_eq_some_iff.mp H
      obtain ⟨t347, A80, H⟩ := H
      replace H : (some (mx a1 t347)) = some r := H
      have A8 := Aside0.mk A80
      clear A80
      obtain ⟨ji9, hji9⟩ : ∃ j_ : Int, (mx a1 t347) = j_ := ⟨_, rfl⟩
      replace H : (some ji9) = some r := by first | (rw [hji9] at H; exact H) | (simp only [hji9] at H ⊢; exact H)
      (try rw [hji9] at A8)
      have hji9_ : (if a1 < t347 then t347 else a1) = ji9 := hji9
      obtain rfl := Option.some.inj H
      go_enter Try.func28, Try.ntmps28
      go_wp2_with (first | ((with_reducible refine gate_callee (f := 12) rfl ?_); refine goesL_ (some 23) rfl rfl Try.func12 (by kernel_rfl) rfl #[.int .i64 a0, .int .i64 a2] rfl (by (try simp only [List.map_toArray, List.map_cons, List.map_nil]); first | done | rfl | (simp only [List.length_drop, List.length_take]; rfl)) ?_; (with_reducible refine (fix_Sub.calls k a0 a2 t347 _ A8.out).mono ?_); rintro e w' ⟨rfl, ⟨nd, rfl⟩⟩; refine ⟨_, rfl, ?_⟩))
      go_ret
      exact ⟨by first | rfl | (simp [errW_none, errW_some] <;> rfl) | (simp only [← hji9]; first | rfl | (simp [errW_none, errW_some] <;> rfl)) | (simp [*, errW_none, errW_some] <;> rfl), by repeat (first | (with_reducible first | exact HB.out | apply below_alloc | apply pw_below_drewN | apply below_drew1) | exact HB.out)⟩

/-! ### fix_Middle: function 30 -/
def fix_Middle.f (a0 : Int) (a1 : Int) : Option (Int) := some (wrap64 ((wrap64 ((a0 / 2) + (a1 / 2))) + (Go.bits .and .i64 (Go.bits .and .i64 a0 a1) 1)))
set_option maxHeartbeats 8000000 in
set_option maxRecDepth 100000 in
theorem fix_Middle.calls (a0 : Int) (a1 : Int) (r : Int) (w : World) (h : fix_Middle.f a0 a1 = some r) :
    Calls Try.prog 30 #[.int .i64 a0, .int .i64 a1] w fun e w' => e = .returned (.int .i64 r) ∧ Drawn0 w w' := by
  have H : (some (wrap64 ((wrap64 ((a0 / 2) + (a1 / 2))) + (Go.bits .and .i64 (Go.bits .and .i64 a0 a1) 1)))) = some r := h
  clear h
  obtain rfl := Option.some.inj H
  go_enter Try.func30, Try.ntmps30
  go_wp2
  go_ret
  exact ⟨by first | rfl | (simp; done) | (simp [*]; done), by repeat (first | exact Drawn0.refl _ | apply Drawn0.step)⟩

/-! ### windhoverlaw01_awake: function 16 -/
def windhoverlaw01_awake.f (k : Nat)  : Option (Bool) := (fix_MulDiv.f k 7 3 (-2)).bind fun bt348 => ((fix_Up.f (-7) 2).bind fun bt350 => ((fix_Down.f (-7) 2).bind fun bt352 => ((fix_Add.f k 2 3).bind fun t354 => (if t354 = 5 then ((fix_Sub.f k 2 5).bind fun t355 => (if t355 = (-3) then ((fix_Mul.f k 4 (-3)).bind fun t356 => (if t356 = (-12) then ((fix_Clamp.f 5 1 3).bind fun t357 => (if t357 = 3 then ((fix_Sqrt.f k 15).bind fun t358 => (if t358 = 3 then (if bt348.2 = 0 then (if bt348.1 = (-11) then (if bt350.2 = 0 then (if bt350.1 = (-3) then (if bt352.2 = 0 then (if bt352.1 = (-4) then ((fix_Slew.f k 0 10 3).bind fun t359 => (if t359 = 3 then ((fix_Middle.f (-1) 0).bind fun t360 => (some (t360 == (-1)))) else (none))) else (none)) else (none)) else (none)) else (none)) else (none)) else (none)) else (none))) else (none))) else (none))) else (none))) else (none)))))
theorem windhoverlaw01_awake.mono : ∀ k, LeO (windhoverlaw01_awake.f k ) (windhoverlaw01_awake.f (k + 1) ) := by
  intro  k
  unfold windhoverlaw01_awake.f
  repeat' first
      | (with_reducible exact fix_Add.mono _ _ _)
      | (with_reducible exact fix_Mul.mono _ _ _)
      | (with_reducible exact fix_MulDiv.mono _ _ _ _)
      | (with_reducible exact fix_Slew.mono _ _ _ _)
      | (with_reducible exact fix_Sqrt.mono _ _)
      | (with_reducible exact fix_Sub.mono _ _ _)
      | (with_reducible exact LeO.refl _)
      | (with_reducible exact LeO.none _)
      | (with_reducible refine LeO.ite ?_ ?_)
      | (with_reducible refine LeO.bind ?_ (fun _ => ?_))
      | exact fix_Add.mono _ _ _
      | exact fix_Mul.mono _ _ _
      | exact fix_MulDiv.mono _ _ _ _
      | exact fix_Slew.mono _ _ _ _
      | exact fix_Sqrt.mono _ _
      | exact fix_Sub.mono _ _ _
      | exact LeO.none _
      | refine LeO.ite ?_ ?_
      | refine LeO.bind ?_ (fun _ => ?_)
set_option maxHeartbeats 8000000 in
set_option maxRecDepth 100000 in
theorem windhoverlaw01_awake.calls (k : Nat)  (r : Bool) (w : World) (h : windhoverlaw01_awake.f k  = some r) :
    Calls Try.prog 16 #[] w fun e w' => e = .returned (.bool r) ∧ Below w.heap.size w w' := by
  have HB := Aside0.mk (Below.refl w.heap.size w)
  have H : ((fix_MulDiv.f k 7 3 (-2)).bind fun bt348 => ((fix_Up.f (-7) 2).bind fun bt350 => ((fix_Down.f (-7) 2).bind fun bt352 => ((fix_Add.f k 2 3).bind fun t354 => (if t354 = 5 then ((fix_Sub.f k 2 5).bind fun t355 => (if t355 = (-3) then ((fix_Mul.f k 4 (-3)).bind fun t356 => (if t356 = (-12) then ((fix_Clamp.f 5 1 3).bind fun t357 => (if t357 = 3 then ((fix_Sqrt.f k 15).bind fun t358 => (if t358 = 3 then (if bt348.2 = 0 then (if bt348.1 = (-11) then (if bt350.2 = 0 then (if bt350.1 = (-3) then (if bt352.2 = 0 then (if bt352.1 = (-4) then ((fix_Slew.f k 0 10 3).bind fun t359 => (if t359 = 3 then ((fix_Middle.f (-1) 0).bind fun t360 => (some (t360 == (-1)))) else (none))) else (none)) else (none)) else (none)) else (none)) else (none)) else (none)) else (none))) else (none))) else (none))) else (none))) else (none)))))) = some r := h
  clear h
  replace H := Option.bind_eq_some_iff.mp H
  obtain ⟨⟨t348, t349⟩, A10, H⟩ := H
  replace H : ((fix_Up.f (-7) 2).bind fun bt350 => ((fix_Down.f (-7) 2).bind fun bt352 => ((fix_Add.f k 2 3).bind fun t354 => (if t354 = 5 then ((fix_Sub.f k 2 5).bind fun t355 => (if t355 = (-3) then ((fix_Mul.f k 4 (-3)).bind fun t356 => (if t356 = (-12) then ((fix_Clamp.f 5 1 3).bind fun t357 => (if t357 = 3 then ((fix_Sqrt.f k 15).bind fun t358 => (if t358 = 3 then (if t349 = 0 then (if t348 = (-11) then (if bt350.2 = 0 then (if bt350.1 = (-3) then (if bt352.2 = 0 then (if bt352.1 = (-4) then ((fix_Slew.f k 0 10 3).bind fun t359 => (if t359 = 3 then ((fix_Middle.f (-1) 0).bind fun t360 => (some (t360 == (-1)))) else (none))) else (none)) else (none)) else (none)) else (none)) else (none)) else (none)) else (none))) else (none))) else (none))) else (none))) else (none))))) = some r := H
  have A1 := Aside0.mk A10
  clear A10
  replace H := Option.bind_eq_some_iff.mp H
  obtain ⟨⟨t350, t351⟩, A20, H⟩ := H
  replace H : ((fix_Down.f (-7) 2).bind fun bt352 => ((fix_Add.f k 2 3).bind fun t354 => (if t354 = 5 then ((fix_Sub.f k 2 5).bind fun t355 => (if t355 = (-3) then ((fix_Mul.f k 4 (-3)).bind fun t356 => (if t356 = (-12) then ((fix_Clamp.f 5 1 3).bind fun t357 => (if t357 = 3 then ((fix_Sqrt.f k 15).bind fun t358 => (if t358 = 3 then (if t349 = 0 then (if t348 = (-11) then (if t351 = 0 then (if t350 = (-3) then (if bt352.2 = 0 then (if bt352.1 = (-4) then ((fix_Slew.f k 0 10 3).bind fun t359 => (if t359 = 3 then ((fix_Middle.f (-1) 0).bind fun t360 => (some (t360 == (-1)))) else (none))) else (none)) else (none)) else (none)) else (none)) else (none)) else (none)) else (none))) else (none))) else (none))) else (none))) else (none)))) = some r := H
  have A2 := Aside0.mk A20
  clear A20
  replace H := Option.bind_eq_some_iff.mp H
  obtain ⟨⟨t352, t353⟩, A30, H⟩ := H
  replace H : ((fix_Add.f k 2 3).bind fun t354 => (if t354 = 5 then ((fix_Sub.f k 2 5).bind fun t355 => (if t355 = (-3) then ((fix_Mul.f k 4 (-3)).bind fun t356 => (if t356 = (-12) then ((fix_Clamp.f 5 1 3).bind fun t357 => (if t357 = 3 then ((fix_Sqrt.f k 15).bind fun t358 => (if t358 = 3 then (if t349 = 0 then (if t348 = (-11) then (if t351 = 0 then (if t350 = (-3) then (if t353 = 0 then (if t352 = (-4) then ((fix_Slew.f k 0 10 3).bind fun t359 => (if t359 = 3 then ((fix_Middle.f (-1) 0).bind fun t360 => (some (t360 == (-1)))) else (none))) else (none)) else (none)) else (none)) else (none)) else (none)) else (none)) else (none))) else (none))) else (none))) else (none))) else (none))) = some r := H
  have A3 := Aside0.mk A30
  clear A30
  replace H := Option.bind_eq_some_iff.mp H
  obtain ⟨t354, A40, H⟩ := H
  replace H : (if t354 = 5 then ((fix_Sub.f k 2 5).bind fun t355 => (if t355 = (-3) then ((fix_Mul.f k 4 (-3)).bind fun t356 => (if t356 = (-12) then ((fix_Clamp.f 5 1 3).bind fun t357 => (if t357 = 3 then ((fix_Sqrt.f k 15).bind fun t358 => (if t358 = 3 then (if t349 = 0 then (if t348 = (-11) then (if t351 = 0 then (if t350 = (-3) then (if t353 = 0 then (if t352 = (-4) then ((fix_Slew.f k 0 10 3).bind fun t359 => (if t359 = 3 then ((fix_Middle.f (-1) 0).bind fun t360 => (some (t360 == (-1)))) else (none))) else (none)) else (none)) else (none)) else (none)) else (none)) else (none)) else (none))) else (none))) else (none))) else (none))) else (none)) = some r := H
  have A4 := Aside0.mk A40
  clear A40
  by_cases c5 : t354 = 5
  · rw [if_pos c5] at H
    have c5b0 : (t354 == 5) = true := beq_iff_eq.mpr c5
    have c5b1 : (t354 != 5) = false := bne_eq_false_iff_eq.mpr c5
    clear c5
    replace H := Option.bind_eq_some_iff.mp H
    obtain ⟨t355, A60, H⟩ := H
    replace H : (if t355 = (-3) then ((fix_Mul.f k 4 (-3)).bind fun t356 => (if t356 = (-12) then ((fix_Clamp.f 5 1 3).bind fun t357 => (if t357 = 3 then ((fix_Sqrt.f k 15).bind fun t358 => (if t358 = 3 then (if t349 = 0 then (if t348 = (-11) then (if t351 = 0 then (if t350 = (-3) then (if t353 = 0 then (if t352 = (-4) then ((fix_Slew.f k 0 10 3).bind fun t359 => (if t359 = 3 then ((fix_Middle.f (-1) 0).bind fun t360 => (some (t360 == (-1)))) else (none))) else (none)) else (none)) else (none)) else (none)) else (none)) else (none)) else (none))) else (none))) else (none))) else (none)) = some r := H
    have A6 := Aside0.mk A60
    clear A60
    by_cases c7 : t355 = (-3)
    · rw [if_pos c7] at H
      have c7b0 : (t355 == (-3)) = true := beq_iff_eq.mpr c7
      have c7b1 : (t355 != (-3)) = false := bne_eq_false_iff_eq.mpr c7
      clear c7
      replace H := Option.bind_eq_some_iff.mp H
      obtain ⟨t356, A80, H⟩ := H
      replace H : (if t356 = (-12) then ((fix_Clamp.f 5 1 3).bind fun t357 => (if t357 = 3 then ((fix_Sqrt.f k 15).bind fun t358 => (if t358 = 3 then (if t349 = 0 then (if t348 = (-11) then (if t351 = 0 then (if t350 = (-3) then (if t353 = 0 then (if t352 = (-4) then ((fix_Slew.f k 0 10 3).bind fun t359 => (if t359 = 3 then ((fix_Middle.f (-1) 0).bind fun t360 => (some (t360 == (-1)))) else (none))) else (none)) else (none)) else (none)) else (none)) else (none)) else (none)) else (none))) else (none))) else (none)) = some r := H
      have A8 := Aside0.mk A80
      clear A80
      by_cases c9 : t356 = (-12)
      · rw [if_pos c9] at H
        have c9b0 : (t356 == (-12)) = true := beq_iff_eq.mpr c9
        have c9b1 : (t356 != (-12)) = false := bne_eq_false_iff_eq.mpr c9
        clear c9
        replace H := Option.bind_eq_some_iff.mp H
        obtain ⟨t357, A100, H⟩ := H
        replace H : (if t357 = 3 then ((fix_Sqrt.f k 15).bind fun t358 => (if t358 = 3 then (if t349 = 0 then (if t348 = (-11) then (if t351 = 0 then (if t350 = (-3) then (if t353 = 0 then (if t352 = (-4) then ((fix_Slew.f k 0 10 3).bind fun t359 => (if t359 = 3 then ((fix_Middle.f (-1) 0).bind fun t360 => (some (t360 == (-1)))) else (none))) else (none)) else (none)) else (none)) else (none)) else (none)) else (none)) else (none))) else (none)) = some r := H
        have A10 := Aside0.mk A100
        clear A100
        by_cases c11 : t357 = 3
        · rw [if_pos c11] at H
          have c11b0 : (t357 == 3) = true := beq_iff_eq.mpr c11
          have c11b1 : (t357 != 3) = false := bne_eq_false_iff_eq.mpr c11
          clear c11
          replace H := Option.bind_eq_some_iff.mp H
          obtain ⟨t358, A120, H⟩ := H
          replace H : (if t358 = 3 then (if t349 = 0 then (if t348 = (-11) then (if t351 = 0 then (if t350 = (-3) then (if t353 = 0 then (if t352 = (-4) then ((fix_Slew.f k 0 10 3).bind fun t359 => (if t359 = 3 then ((fix_Middle.f (-1) 0).bind fun t360 => (some (t360 == (-1)))) else (none))) else (none)) else (none)) else (none)) else (none)) else (none)) else (none)) else (none)) = some r := H
          have A12 := Aside0.mk A120
          clear A120
          by_cases c13 : t358 = 3
          · rw [if_pos c13] at H
            have c13b0 : (t358 == 3) = true := beq_iff_eq.mpr c13
            have c13b1 : (t358 != 3) = false := bne_eq_false_iff_eq.mpr c13
            clear c13
            by_cases c14 : t349 = 0
            · rw [if_pos c14] at H
              have c14b0 : (t349 == 0) = true := beq_iff_eq.mpr c14
              have c14b1 : (t349 != 0) = false := bne_eq_false_iff_eq.mpr c14
              clear c14
              by_cases c15 : t348 = (-11)
              · rw [if_pos c15] at H
                have c15b0 : (t348 == (-11)) = true := beq_iff_eq.mpr c15
                have c15b1 : (t348 != (-11)) = false := bne_eq_false_iff_eq.mpr c15
                clear c15
                by_cases c16 : t351 = 0
                · rw [if_pos c16] at H
                  have c16b0 : (t351 == 0) = true := beq_iff_eq.mpr c16
                  have c16b1 : (t351 != 0) = false := bne_eq_false_iff_eq.mpr c16
                  clear c16
                  by_cases c17 : t350 = (-3)
                  · rw [if_pos c17] at H
                    have c17b0 : (t350 == (-3)) = true := beq_iff_eq.mpr c17
                    have c17b1 : (t350 != (-3)) = false := bne_eq_false_iff_eq.mpr c17
                    clear c17
                    by_cases c18 : t353 = 0
                    · rw [if_pos c18] at H
                      have c18b0 : (t353 == 0) = true := beq_iff_eq.mpr c18
                      have c18b1 : (t353 != 0) = false := bne_eq_false_iff_eq.mpr c18
                      clear c18
                      by_cases c19 : t352 = (-4)
                      · rw [if_pos c19] at H
                        have c19b0 : (t352 == (-4)) = true := beq_iff_eq.mpr c19
                        have c19b1 : (t352 != (-4)) = false := bne_eq_false_iff_eq.mpr c19
                        clear c19
                        replace H := Option.bind_eq_some_iff.mp H
                        obtain ⟨t359, A200, H⟩ := H
                        replace H : (if t359 = 3 then ((fix_Middle.f (-1) 0).bind fun t360 => (some (t360 == (-1)))) else (none)) = some r := H
                        have A20 := Aside0.mk A200
                        clear A200
                        by_cases c21 : t359 = 3
                        · rw [if_pos c21] at H
                          have c21b0 : (t359 == 3) = true := beq_iff_eq.mpr c21
                          have c21b1 : (t359 != 3) = false := bne_eq_false_iff_eq.mpr c21
                          clear c21
                          replace H := Option.bind_eq_some_iff.mp H
                          obtain ⟨t360, A220, H⟩ := H
                          replace H : (some (t360 == (-1))) = some r := H
                          have A22 := Aside0.mk A220
                          clear A220
                          obtain rfl := Option.some.inj H
                          go_enter Try.func16, Try.ntmps16
                          go_wp2_with (first | ((with_reducible refine gate_callee (f := 23) rfl ?_); refine goesL_ (some 8) rfl rfl Try.func23 (by kernel_rfl) rfl #[.int .i64 7, .int .i64 3, .int .i64 (-2)] rfl (by (try simp only [List.map_toArray, List.map_cons, List.map_nil]); first | done | rfl | (simp only [List.length_drop, List.length_take]; rfl)) ?_; (with_reducible refine (fix_MulDiv.calls k 7 3 (-2) t348 t349 _ A1.out).mono ?_); rintro e w' ⟨rfl, ⟨nd, rfl⟩⟩; refine ⟨_, rfl, ?_⟩) | ((with_reducible refine gate_callee (f := 27) rfl ?_); refine goesL_ (some 12) rfl rfl Try.func27 (by kernel_rfl) rfl #[.int .i64 (-7), .int .i64 2] rfl (by (try simp only [List.map_toArray, List.map_cons, List.map_nil]); first | done | rfl | (simp only [List.length_drop, List.length_take]; rfl)) ?_; (with_reducible refine (fix_Up.calls (-7) 2 t350 t351 _ A2.out).mono ?_); rintro e w' ⟨rfl, ⟨nd, rfl⟩⟩; refine ⟨_, rfl, ?_⟩) | ((with_reducible refine gate_callee (f := 26) rfl ?_); refine goesL_ (some 16) rfl rfl Try.func26 (by kernel_rfl) rfl #[.int .i64 (-7), .int .i64 2] rfl (by (try simp only [List.map_toArray, List.map_cons, List.map_nil]); first | done | rfl | (simp only [List.length_drop, List.length_take]; rfl)) ?_; (with_reducible refine (fix_Down.calls (-7) 2 t352 t353 _ A3.out).mono ?_); rintro e w' ⟨rfl, ⟨nd, rfl⟩⟩; refine ⟨_, rfl, ?_⟩) | ((with_reducible refine gate_callee (f := 10) rfl ?_); refine goesL_ (some 19) rfl rfl Try.func10 (by kernel_rfl) rfl #[.int .i64 2, .int .i64 3] rfl (by (try simp only [List.map_toArray, List.map_cons, List.map_nil]); first | done | rfl | (simp only [List.length_drop, List.length_take]; rfl)) ?_; (with_reducible refine (fix_Add.calls k 2 3 t354 _ A4.out).mono ?_); rintro e w' ⟨rfl, ⟨nd, rfl⟩⟩; refine ⟨_, rfl, ?_⟩) | (go_at_call 12; (with_reducible refine (fix_Sub.calls k 2 5 t355 _ A6.out).mono ?_); rintro e w' ⟨rfl, ⟨nd, rfl⟩⟩) | (go_at_call 14; (with_reducible refine (fix_Mul.calls k 4 (-3) t356 _ A8.out).mono ?_); rintro e w' ⟨rfl, ⟨nd, rfl⟩⟩) | (go_at_call 17; (with_reducible refine (fix_Clamp.calls 5 1 3 t357 _ A10.out).mono ?_); rintro e w' ⟨rfl, ⟨nd, rfl⟩⟩) | (go_at_call 19; (with_reducible refine (fix_Sqrt.calls k 15 t358 _ A12.out).mono ?_); rintro e w' ⟨rfl, ⟨nd, rfl⟩⟩) | (go_at_call 28; (with_reducible refine (fix_Slew.calls k 0 10 3 t359 _ A20.out).mono ?_); rintro e w23 ⟨rfl, hb⟩; have n0_ := Aside0.mk (below_step (by repeat (first | (with_reducible first | exact HB.out | apply below_alloc | apply pw_below_drewN | apply below_drew1) | exact HB.out)) hb); clear HB; have HB := n0_; clear n0_; (try clear hb); (try clear hb2); (try clear hk); (try clear hi)) | (go_at_call 30; (with_reducible refine (fix_Middle.calls (-1) 0 t360 _ A22.out).mono ?_); rintro e w' ⟨rfl, ⟨nd, rfl⟩⟩))
                          go_ret
                          exact ⟨by first | rfl | (simp [errW_none, errW_some] <;> rfl) | (simp [*, errW_none, errW_some] <;> rfl), by repeat (first | (with_reducible first | exact HB.out | apply below_alloc | apply pw_below_drewN | apply below_drew1) | exact HB.out)⟩
                        · rw [if_neg c21] at H
                          exact absurd H (by simp)
                      · rw [if_neg c19] at H
                        exact absurd H (by simp)
                    · rw [if_neg c18] at H
                      exact absurd H (by simp)
                  · rw [if_neg c17] at H
                    exact absurd H (by simp)
                · rw [if_neg c16] at H
                  exact absurd H (by simp)
              · rw [if_neg c15] at H
                exact absurd H (by simp)
            · rw [if_neg c14] at H
              exact absurd H (by simp)
          · rw [if_neg c13] at H
            exact absurd H (by simp)
        · rw [if_neg c11] at H
          exact absurd H (by simp)
      · rw [if_neg c9] at H
        exact absurd H (by simp)
    · rw [if_neg c7] at H
      exact absurd H (by simp)
  · rw [if_neg c5] at H
    exact absurd H (by simp)

/-! ### windhoverlaw01_FixSums: function 3 -/
def windhoverlaw01_FixSums.f (k : Nat) (a0 : Int) (a1 : Int) : Option (Bool) := (fix_Add.f k a0 a1).bind fun t361 => ((windhoverref01_Add.f k a0 a1).bind fun t362 => (if t361 = t362 then ((fix_Sub.f k a0 a1).bind fun t363 => ((windhoverref01_Sub.f k a0 a1).bind fun t364 => (if t363 = t364 then ((fix_Mul.f k a0 a1).bind fun t365 => ((windhoverref01_Mul.f k a0 a1).bind fun t366 => (if t365 = t366 then ((windhoverlaw01_awake.f k).bind fun t367 => (some t367)) else (none)))) else (none)))) else (none)))
theorem windhoverlaw01_FixSums.mono : ∀ a0 a1 k, LeO (windhoverlaw01_FixSums.f k a0 a1) (windhoverlaw01_FixSums.f (k + 1) a0 a1) := by
  intro a0 a1 k
  unfold windhoverlaw01_FixSums.f
  repeat' first
      | (with_reducible exact fix_Add.mono _ _ _)
      | (with_reducible exact fix_Mul.mono _ _ _)
      | (with_reducible exact fix_Sub.mono _ _ _)
      | (with_reducible exact windhoverlaw01_awake.mono _)
      | (with_reducible exact windhoverref01_Add.mono _ _ _)
      | (with_reducible exact windhoverref01_Mul.mono _ _ _)
      | (with_reducible exact windhoverref01_Sub.mono _ _ _)
      | (with_reducible exact LeO.refl _)
      | (with_reducible exact LeO.none _)
      | (with_reducible refine LeO.ite ?_ ?_)
      | (with_reducible refine LeO.bind ?_ (fun _ => ?_))
      | exact fix_Add.mono _ _ _
      | exact fix_Mul.mono _ _ _
      | exact fix_Sub.mono _ _ _
      | exact windhoverlaw01_awake.mono _
      | exact windhoverref01_Add.mono _ _ _
      | exact windhoverref01_Mul.mono _ _ _
      | exact windhoverref01_Sub.mono _ _ _
      | exact LeO.none _
      | refine LeO.ite ?_ ?_
      | refine LeO.bind ?_ (fun _ => ?_)
set_option maxHeartbeats 8000000 in
set_option maxRecDepth 100000 in
theorem windhoverlaw01_FixSums.calls (k : Nat) (a0 : Int) (a1 : Int) (r : Bool) (w : World) (h : windhoverlaw01_FixSums.f k a0 a1 = some r) :
    Calls Try.prog 3 #[.int .i64 a0, .int .i64 a1] w fun e w' => e = .returned (.bool r) ∧ Below w.heap.size w w' := by
  have HB := Aside0.mk (Below.refl w.heap.size w)
  have H : ((fix_Add.f k a0 a1).bind fun t361 => ((windhoverref01_Add.f k a0 a1).bind fun t362 => (if t361 = t362 then ((fix_Sub.f k a0 a1).bind fun t363 => ((windhoverref01_Sub.f k a0 a1).bind fun t364 => (if t363 = t364 then ((fix_Mul.f k a0 a1).bind fun t365 => ((windhoverref01_Mul.f k a0 a1).bind fun t366 => (if t365 = t366 then ((windhoverlaw01_awake.f k).bind fun t367 => (some t367)) else (none)))) else (none)))) else (none)))) = some r := h
  clear h
  replace H := Option.bind_eq_some_iff.mp H
  obtain ⟨t361, A30, H⟩ := H
  replace H : ((windhoverref01_Add.f k a0 a1).bind fun t362 => (if t361 = t362 then ((fix_Sub.f k a0 a1).bind fun t363 => ((windhoverref01_Sub.f k a0 a1).bind fun t364 => (if t363 = t364 then ((fix_Mul.f k a0 a1).bind fun t365 => ((windhoverref01_Mul.f k a0 a1).bind fun t366 => (if t365 = t366 then ((windhoverlaw01_awake.f k).bind fun t367 => (some t367)) else (none)))) else (none)))) else (none))) = some r := H
  have A3 := Aside0.mk A30
  clear A30
  replace H := Option.bind_eq_some_iff.mp H
  obtain ⟨t362, A40, H⟩ := H
  replace H : (if t361 = t362 then ((fix_Sub.f k a0 a1).bind fun t363 => ((windhoverref01_Sub.f k a0 a1).bind fun t364 => (if t363 = t364 then ((fix_Mul.f k a0 a1).bind fun t365 => ((windhoverref01_Mul.f k a0 a1).bind fun t366 => (if t365 = t366 then ((windhoverlaw01_awake.f k).bind fun t367 => (some t367)) else (none)))) else (none)))) else (none)) = some r := H
  have A4 := Aside0.mk A40
  clear A40
  by_cases c5 : t361 = t362
  · rw [if_pos c5] at H
    have c5b0 : (t361 == t362) = true := beq_iff_eq.mpr c5
    have c5b1 : (t361 != t362) = false := bne_eq_false_iff_eq.mpr c5
    clear c5
    replace H := Option.bind_eq_some_iff.mp H
    obtain ⟨t363, A60, H⟩ := H
    replace H : ((windhoverref01_Sub.f k a0 a1).bind fun t364 => (if t363 = t364 then ((fix_Mul.f k a0 a1).bind fun t365 => ((windhoverref01_Mul.f k a0 a1).bind fun t366 => (if t365 = t366 then ((windhoverlaw01_awake.f k).bind fun t367 => (some t367)) else (none)))) else (none))) = some r := H
    have A6 := Aside0.mk A60
    clear A60
    replace H := Option.bind_eq_some_iff.mp H
    obtain ⟨t364, A70, H⟩ := H
    replace H : (if t363 = t364 then ((fix_Mul.f k a0 a1).bind fun t365 => ((windhoverref01_Mul.f k a0 a1).bind fun t366 => (if t365 = t366 then ((windhoverlaw01_awake.f k).bind fun t367 => (some t367)) else (none)))) else (none)) = some r := H
    have A7 := Aside0.mk A70
    clear A70
    by_cases c8 : t363 = t364
    · rw [if_pos c8] at H
      have c8b0 : (t363 == t364) = true := beq_iff_eq.mpr c8
      have c8b1 : (t363 != t364) = false := bne_eq_false_iff_eq.mpr c8
      clear c8
      replace H := Option.bind_eq_some_iff.mp H
      obtain ⟨t365, A90, H⟩ := H
      replace H : ((windhoverref01_Mul.f k a0 a1).bind fun t366 => (if t365 = t366 then ((windhoverlaw01_awake.f k).bind fun t367 => (some t367)) else (none))) = some r := H
      have A9 := Aside0.mk A90
      clear A90
      replace H := Option.bind_eq_some_iff.mp H
      obtain ⟨t366, A100, H⟩ := H
      replace H : (if t365 = t366 then ((windhoverlaw01_awake.f k).bind fun t367 => (some t367)) else (none)) = some r := H
      have A10 := Aside0.mk A100
      clear A100
      by_cases c11 : t365 = t366
      · rw [if_pos c11] at H
        have c11b0 : (t365 == t366) = true := beq_iff_eq.mpr c11
        have c11b1 : (t365 != t366) = false := bne_eq_false_iff_eq.mpr c11
        clear c11
        replace H := Option.bind_eq_some_iff.mp H
        obtain ⟨t367, A120, H⟩ := H
        replace H : (some t367) = some r := H
        have A12 := Aside0.mk A120
        clear A120
        obtain rfl := Option.some.inj H
        go_enter Try.func3, Try.ntmps3
        go_wp2_with (first | ((with_reducible refine gate_callee (f := 10) rfl ?_); refine goesL_ (some 7) rfl rfl Try.func10 (by kernel_rfl) rfl #[.int .i64 a0, .int .i64 a1] rfl (by (try simp only [List.map_toArray, List.map_cons, List.map_nil]); first | done | rfl | (simp only [List.length_drop, List.length_take]; rfl)) ?_; (with_reducible refine (fix_Add.calls k a0 a1 t361 _ A3.out).mono ?_); rintro e w' ⟨rfl, ⟨nd, rfl⟩⟩; refine ⟨_, rfl, ?_⟩) | ((with_reducible refine gate_callee (f := 11) rfl ?_); refine goesL_ (some 10) rfl rfl Try.func11 (by kernel_rfl) rfl #[.int .i64 a0, .int .i64 a1] rfl (by (try simp only [List.map_toArray, List.map_cons, List.map_nil]); first | done | rfl | (simp only [List.length_drop, List.length_take]; rfl)) ?_; (with_reducible refine (windhoverref01_Add.calls k a0 a1 t362 _ A4.out).mono ?_); rintro e w13 ⟨rfl, hb⟩; refine ⟨_, rfl, ?_⟩; have n0_ := Aside0.mk (below_step (by repeat (first | (with_reducible first | exact HB.out | apply below_alloc | apply pw_below_drewN | apply below_drew1) | exact HB.out)) hb); clear HB; have HB := n0_; clear n0_; (try clear hb); (try clear hb2); (try clear hk); (try clear hi)) | (go_at_call 12; (with_reducible refine (fix_Sub.calls k a0 a1 t363 _ A6.out).mono ?_); rintro e w' ⟨rfl, ⟨nd, rfl⟩⟩) | (go_at_call 13; (with_reducible refine (windhoverref01_Sub.calls k a0 a1 t364 _ A7.out).mono ?_); rintro e w14 ⟨rfl, hb⟩; have n0_ := Aside0.mk (below_step (by repeat (first | (with_reducible first | exact HB.out | apply below_alloc | apply pw_below_drewN | apply below_drew1) | exact HB.out)) hb); clear HB; have HB := n0_; clear n0_; (try clear hb); (try clear hb2); (try clear hk); (try clear hi)) | (go_at_call 14; (with_reducible refine (fix_Mul.calls k a0 a1 t365 _ A9.out).mono ?_); rintro e w' ⟨rfl, ⟨nd, rfl⟩⟩) | (go_at_call 15; (with_reducible refine (windhoverref01_Mul.calls k a0 a1 t366 _ A10.out).mono ?_); rintro e w15 ⟨rfl, hb⟩; have n0_ := Aside0.mk (below_step (by repeat (first | (with_reducible first | exact HB.out | apply below_alloc | apply pw_below_drewN | apply below_drew1) | exact HB.out)) hb); clear HB; have HB := n0_; clear n0_; (try clear hb); (try clear hb2); (try clear hk); (try clear hi)) | (go_at_call 16; (with_reducible refine (windhoverlaw01_awake.calls k  t367 _ A12.out).mono ?_); rintro e w16 ⟨rfl, hb⟩; have n0_ := Aside0.mk (below_step (by repeat (first | (with_reducible first | exact HB.out | apply below_alloc | apply pw_below_drewN | apply below_drew1) | exact HB.out)) hb); clear HB; have HB := n0_; clear n0_; (try clear hb); (try clear hb2); (try clear hk); (try clear hi)))
        go_ret
        exact ⟨by first | rfl | (simp [errW_none, errW_some] <;> rfl) | (simp [*, errW_none, errW_some] <;> rfl), by repeat (first | (with_reducible first | exact HB.out | apply below_alloc | apply pw_below_drewN | apply below_drew1) | exact HB.out)⟩
      · rw [if_neg c11] at H
        exact absurd H (by simp)
    · rw [if_neg c8] at H
      exact absurd H (by simp)
  · rw [if_neg c5] at H
    exact absurd H (by simp)

/-- THE ONE PURE STATEMENT of windhoverlaw01_FixSums: yours. -/
def windhoverlaw01_FixSums.Pure : Prop := ∀ (a0 : Int) (a1 : Int), (Lit.int .i64 a0).wf = true → (Lit.int .i64 a1).wf = true → ∃ k, windhoverlaw01_FixSums.f k a0 a1 = some true
theorem windhoverlaw01_FixSums.walk (P : windhoverlaw01_FixSums.Pure) (a0 : Int) (a1 : Int) (w : World) (w0 : (Lit.int .i64 a0).wf = true) (w1 : (Lit.int .i64 a1).wf = true) :
    Calls Try.prog 3 #[.int .i64 a0, .int .i64 a1] w fun e w' => e = .returned (.bool true) ∧ Below w.heap.size w w' := by
  obtain ⟨k, h⟩ := P a0 a1 w0 w1
  refine (windhoverlaw01_FixSums.calls k a0 a1 true w h).mono ?_
  rintro e w' ⟨rfl, hd⟩
  exact ⟨rfl, hd⟩

end Go.Proofs.Ytmjhhcalcpodjaa.PFixSums
