-- WRITTEN BY wip/tools/aprint.py of this claim's repository over the kit's words: not typed by hand
import Derived.Test.YtplfcbbaanjdgaaPTrigBackx0
import Derived.Test.YtplfcbbaanjdgaaPTrigBackx1
import Derived.Test.YtplfcbbaanjdgaaPTrigBackx3
namespace Go.Proofs.Ytplfcbbaanjdgaa.PTrigBack
open Go.RowKit Go.Proofs.YtplfcbbaanjdgaaW.PrintWords Go.Proofs.YtplfcbbaanjdgaaW.PrintLast Go.Proofs.YtplfcbbaanjdgaaW.PrintMore
attribute [local go_sem] max2_int min2_int max_two min_two max_three min_three max_four min_four   -- for this text's walks alone
set_option linter.unusedVariables false
set_option linter.unusedSimpArgs false

/-! ### windhoverlaw02_TrigBack: function 9 -/
mutual
def windhoverlaw02_TrigBack.j0 : Nat → Int → Int → Bool → Option (Bool)
  | 0, _, _, _ => none
  | k + 1, x0, x1, x15 => if x15 = true then ((windhoverlaw02_awake.f k).bind fun t122 => (some t122)) else ((trig_Sin.f x0).bind fun t123 => ((trig_Cos.f x0).bind fun t124 => (if t123 > 16384 then (windhoverlaw02_TrigBack.j1 k x0 x1 t123 t124 true) else (if t123 < (-16384) then (windhoverlaw02_TrigBack.j1 k x0 x1 t123 t124 true) else (if t124 > 16384 then (windhoverlaw02_TrigBack.j1 k x0 x1 t123 t124 true) else (windhoverlaw02_TrigBack.j1 k x0 x1 t123 t124 (decide (t124 < (-16384)))))))))
def windhoverlaw02_TrigBack.j1 : Nat → Int → Int → Int → Int → Bool → Option (Bool)
  | 0, _, _, _, _, _ => none
  | k + 1, x0, x1, x5, x6, x34 => if x34 = true then (none) else ((trig_Atan2.f k (wrap64 (x1 * x5)) (wrap64 (x1 * x6))).bind fun bt125 => ((trig_Way.f x0 bt125.1).bind fun t127 => ((windhoverlaw02_awake.f k).bind fun t128 => (if t128 = true then (if bt125.2 = true then (if bt125.1 ≥ 0 then (if bt125.1 < 65536 then (if t127 ≥ (-1) then (some (decide (t127 ≤ 1))) else (none)) else (none)) else (none)) else (none)) else (none)))))
end
def windhoverlaw02_TrigBack.f (k : Nat) (a0 : Int) (a1 : Int) : Option (Bool) := if a1 < 1 then (windhoverlaw02_TrigBack.j0 k a0 a1 true) else (windhoverlaw02_TrigBack.j0 k a0 a1 (decide (a1 > 1099511627776)))
theorem windhoverlaw02_TrigBack.mono_l : ∀ k, (∀ y0 y1 y2, LeO (windhoverlaw02_TrigBack.j0 k y0 y1 y2) (windhoverlaw02_TrigBack.j0 (k + 1) y0 y1 y2)) ∧ (∀ y0 y1 y2 y3 y4, LeO (windhoverlaw02_TrigBack.j1 k y0 y1 y2 y3 y4) (windhoverlaw02_TrigBack.j1 (k + 1) y0 y1 y2 y3 y4))
  | 0 => ⟨fun _ _ _ r h => by simp [windhoverlaw02_TrigBack.j0] at h, fun _ _ _ _ _ r h => by simp [windhoverlaw02_TrigBack.j1] at h⟩
  | k + 1 => by
    obtain ⟨ih0, ih1⟩ := windhoverlaw02_TrigBack.mono_l k
    refine ⟨?_, ?_⟩
    · intro y0 y1 y2
      unfold windhoverlaw02_TrigBack.j0
      repeat' first
      | (with_reducible exact ih0 _ _ _)
      | (with_reducible exact ih1 _ _ _ _ _)
      | (with_reducible exact trig_Atan2.mono _ _ _)
      | (with_reducible exact windhoverlaw02_awake.mono _)
      | (with_reducible exact LeO.refl _)
      | (with_reducible exact LeO.none _)
      | (with_reducible refine LeO.ite ?_ ?_)
      | (with_reducible refine LeO.bind ?_ (fun _ => ?_))
      | exact ih0 _ _ _
      | exact ih1 _ _ _ _ _
      | exact trig_Atan2.mono _ _ _
      | exact windhoverlaw02_awake.mono _
      | exact LeO.none _
      | refine LeO.ite ?_ ?_
      | refine LeO.bind ?_ (fun _ => ?_)
    · intro y0 y1 y2 y3 y4
      unfold windhoverlaw02_TrigBack.j1
      repeat' first
      | (with_reducible exact ih0 _ _ _)
      | (with_reducible exact ih1 _ _ _ _ _)
      | (with_reducible exact trig_Atan2.mono _ _ _)
      | (with_reducible exact windhoverlaw02_awake.mono _)
      | (with_reducible exact LeO.refl _)
      | (with_reducible exact LeO.none _)
      | (with_reducible refine LeO.ite ?_ ?_)
      | (with_reducible refine LeO.bind ?_ (fun _ => ?_))
      | exact ih0 _ _ _
      | exact ih1 _ _ _ _ _
      | exact trig_Atan2.mono _ _ _
      | exact windhoverlaw02_awake.mono _
      | exact LeO.none _
      | refine LeO.ite ?_ ?_
      | refine LeO.bind ?_ (fun _ => ?_)
theorem windhoverlaw02_TrigBack.mono : ∀ a0 a1 k, LeO (windhoverlaw02_TrigBack.f k a0 a1) (windhoverlaw02_TrigBack.f (k + 1) a0 a1) := by
  intro a0 a1 k
  obtain ⟨ih0, ih1⟩ := windhoverlaw02_TrigBack.mono_l k
  unfold windhoverlaw02_TrigBack.f
  repeat' first
      | (with_reducible exact ih0 _ _ _)
      | (with_reducible exact ih1 _ _ _ _ _)
      | (with_reducible exact trig_Atan2.mono _ _ _)
      | (with_reducible exact windhoverlaw02_awake.mono _)
      | (with_reducible exact LeO.refl _)
      | (with_reducible exact LeO.none _)
      | (with_reducible refine LeO.ite ?_ ?_)
      | (with_reducible refine LeO.bind ?_ (fun _ => ?_))
      | exact ih0 _ _ _
      | exact ih1 _ _ _ _ _
      | exact trig_Atan2.mono _ _ _
      | exact windhoverlaw02_awake.mono _
      | exact LeO.none _
      | refine LeO.ite ?_ ?_
      | refine LeO.bind ?_ (fun _ => ?_)
set_option maxHeartbeats 8000000 in
set_option maxRecDepth 100000 in
theorem windhoverlaw02_TrigBack.calls (k : Nat) (a0 : Int) (a1 : Int) (r : Bool) (w : World) (h : windhoverlaw02_TrigBack.f k a0 a1 = some r) :
    Calls Try.prog 9 #[.int .i64 a0, .int .i64 a1] w fun e w' => e = .returned (.bool r) ∧ Below w.heap.size w w' := by
  have HB := Aside0.mk (Below.refl w.heap.size w)
  have H : (if a1 < 1 then (windhoverlaw02_TrigBack.j0 k a0 a1 true) else (windhoverlaw02_TrigBack.j0 k a0 a1 (decide (a1 > 1099511627776)))) = some r := h
  clear h
  have HC3 := Aside0.mk H
  clear H
  go_enter Try.func9, Try.ntmps9
  go_upto_region 1 with (fail)
  go_cut [15] (fun v15 wc => ∃ (kq : Nat) (x15_2 : Bool), v15 = .bool x15_2 ∧ Aside0 (windhoverlaw02_TrigBack.j0 kq a0 a1 x15_2 = some r) ∧ Aside0 (kq ≤ k) ∧ Aside0 (Below w.heap.size w wc))
  case first =>
    have H := HC3.out
    clear HC3
    by_cases c4 : a1 < 1
    · rw [if_pos c4] at H
      have c4b0 : decide (a1 < 1) = true := decide_eq_true c4
      clear c4
      (first | rw [c4b0] | (simp only [i64_w, i32_w]; rw [c4b0]) | skip)
      have H' := Aside0.mk H
      clear H
      go_wp2
      go_meet
      case rel => exact ⟨_, (true), (by first | rfl | (simp; done) | (simp [*]; done)), H', ⟨by first | omega | exact Nat.le_refl _⟩, ⟨by repeat (first | (with_reducible first | exact HB.out | apply below_alloc | apply pw_below_drewN | apply below_drew1) | exact HB.out)⟩⟩
    · rw [if_neg c4] at H
      have c4b0 : decide (a1 < 1) = false := decide_eq_false c4
      clear c4
      (first | rw [c4b0] | (simp only [i64_w, i32_w]; rw [c4b0]) | skip)
      have H' := Aside0.mk H
      clear H
      go_wp2
      go_meet
      case rel => exact ⟨_, (decide (a1 > 1099511627776)), (by first | rfl | (simp; done) | (simp [*]; done)), H', ⟨by first | omega | exact Nat.le_refl _⟩, ⟨by repeat (first | (with_reducible first | exact HB.out | apply below_alloc | apply pw_below_drewN | apply below_drew1) | exact HB.out)⟩⟩
  case rest =>
    clear HC3
    try clear p2
    try clear c4
    try clear c4b0
    obtain ⟨kq, x15_2, rfl, HA, HJ2, HB⟩ := hcut
    cases kq with
    | zero => exact absurd HA.out (by simp [windhoverlaw02_TrigBack.j0])
    | succ kj2 =>
      have H := HA.out
      clear HA
      simp only [windhoverlaw02_TrigBack.j0] at H
      by_cases c5 : x15_2 = true
      · subst c5
        have H1 : ((windhoverlaw02_awake.f kj2).bind fun t122 => (some t122)) = some r := by rw [if_pos rfl] at H; exact H
        clear H
        have H := H1
        clear H1
        replace H := Option.bind_eq_some_iff.mp H
        obtain ⟨t122, A60, H⟩ := H
        replace H : (some t122) = some r := H
        have A6 := Aside0.mk A60
        clear A60
        obtain rfl := Option.some.inj H
        go_wp2_with (first | ((with_reducible refine gate_callee (f := 11) rfl ?_); refine goesL_ (some 16) rfl rfl Try.func11 (by kernel_rfl) rfl #[] rfl (by (try simp only [List.map_toArray, List.map_cons, List.map_nil]); first | done | rfl | (simp only [List.length_drop, List.length_take]; rfl)) ?_; (with_reducible refine (windhoverlaw02_awake.calls kj2  t122 _ A6.out).mono ?_); rintro e w7 ⟨rfl, hb⟩; refine ⟨_, rfl, ?_⟩; have n0_ := Aside0.mk (below_step (by repeat (first | (with_reducible first | exact HB.out | apply below_alloc | apply pw_below_drewN | apply below_drew1) | exact HB.out)) hb); clear HB; have HB := n0_; clear n0_; (try clear hb); (try clear hb2); (try clear hk); (try clear hi)))
        go_ret
        exact ⟨by first | rfl | (simp [errW_none, errW_some] <;> rfl) | (simp [*, errW_none, errW_some] <;> rfl), by repeat (first | (with_reducible first | exact HB.out | apply below_alloc | apply pw_below_drewN | apply below_drew1) | exact HB.out)⟩
      · replace c5 := Bool.eq_false_iff.mpr c5
        subst c5
        have H1 : ((trig_Sin.f a0).bind fun t123 => ((trig_Cos.f a0).bind fun t124 => (if t123 > 16384 then (windhoverlaw02_TrigBack.j1 kj2 a0 a1 t123 t124 true) else (if t123 < (-16384) then (windhoverlaw02_TrigBack.j1 kj2 a0 a1 t123 t124 true) else (if t124 > 16384 then (windhoverlaw02_TrigBack.j1 kj2 a0 a1 t123 t124 true) else (windhoverlaw02_TrigBack.j1 kj2 a0 a1 t123 t124 (decide (t124 < (-16384))))))))) = some r := by rw [if_neg (show ¬ (false = true) by decide)] at H; exact H
        clear H
        have H := H1
        clear H1
        replace H := Option.bind_eq_some_iff.mp H
        obtain ⟨t123, A80, H⟩ := H
        replace H : ((trig_Cos.f a0).bind fun t124 => (if t123 > 16384 then (windhoverlaw02_TrigBack.j1 kj2 a0 a1 t123 t124 true) else (if t123 < (-16384) then (windhoverlaw02_TrigBack.j1 kj2 a0 a1 t123 t124 true) else (if t124 > 16384 then (windhoverlaw02_TrigBack.j1 kj2 a0 a1 t123 t124 true) else (windhoverlaw02_TrigBack.j1 kj2 a0 a1 t123 t124 (decide (t124 < (-16384)))))))) = some r := H
        have A8 := Aside0.mk A80
        clear A80
        replace H := Option.bind_eq_some_iff.mp H
        obtain ⟨t124, A90, H⟩ := H
        replace H : (if t123 > 16384 then (windhoverlaw02_TrigBack.j1 kj2 a0 a1 t123 t124 true) else (if t123 < (-16384) then (windhoverlaw02_TrigBack.j1 kj2 a0 a1 t123 t124 true) else (if t124 > 16384 then (windhoverlaw02_TrigBack.j1 kj2 a0 a1 t123 t124 true) else (windhoverlaw02_TrigBack.j1 kj2 a0 a1 t123 t124 (decide (t124 < (-16384))))))) = some r := H
        have A9 := Aside0.mk A90
        clear A90
        have HC10 := Aside0.mk H
        clear H
        go_upto_region 5 with (first | ((with_reducible refine gate_callee (f := 12) rfl ?_); refine goesL_ (some 18) rfl rfl Try.func12 (by kernel_rfl) rfl #[.int .i64 a0] rfl (by (try simp only [List.map_toArray, List.map_cons, List.map_nil]); first | done | rfl | (simp only [List.length_drop, List.length_take]; rfl)) ?_; (with_reducible refine (trig_Sin.calls a0 t123 _ A8.out).mono ?_); rintro e w11 ⟨rfl, hb⟩; refine ⟨_, rfl, ?_⟩; have n0_ := Aside0.mk (below_step (by repeat (first | (with_reducible first | exact HB.out | apply below_alloc | apply pw_below_drewN | apply below_drew1) | exact HB.out)) hb); clear HB; have HB := n0_; clear n0_; (try clear hb); (try clear hb2); (try clear hk); (try clear hi)) | ((with_reducible refine gate_callee (f := 14) rfl ?_); refine goesL_ (some 20) rfl rfl Try.func14 (by kernel_rfl) rfl #[.int .i64 a0] rfl (by (try simp only [List.map_toArray, List.map_cons, List.map_nil]); first | done | rfl | (simp only [List.length_drop, List.length_take]; rfl)) ?_; (with_reducible refine (trig_Cos.calls a0 t124 _ A9.out).mono ?_); rintro e w12 ⟨rfl, hb⟩; refine ⟨_, rfl, ?_⟩; have n0_ := Aside0.mk (below_step (by repeat (first | (with_reducible first | exact HB.out | apply below_alloc | apply pw_below_drewN | apply below_drew1) | exact HB.out)) hb); clear HB; have HB := n0_; clear n0_; (try clear hb); (try clear hb2); (try clear hk); (try clear hi)))
        (try simp only [Act.put, List.setIfInBounds_toArray, List.set_cons_zero, List.set_cons_succ])
        go_cut [34] (fun v34 wc => ∃ (kq : Nat) (x34_9 : Bool), v34 = .bool x34_9 ∧ Aside0 (windhoverlaw02_TrigBack.j1 kq a0 a1 t123 t124 x34_9 = some r) ∧ Aside0 (kq ≤ kj2) ∧ Aside0 (Below w.heap.size w wc))
        case first =>
          have H := HC10.out
          clear HC10
          by_cases c13 : t123 > 16384
          · rw [if_pos c13] at H
            have c13b0 : decide (16384 < t123) = true := decide_eq_true c13
            clear c13
            (first | rw [c13b0] | (simp only [i64_w, i32_w]; rw [c13b0]) | skip)
            have H' := Aside0.mk H
            clear H
            go_wp2
            go_meet
            case rel => exact ⟨_, (true), (by first | rfl | (simp; done) | (simp [*]; done)), H', ⟨by have := HJ2.out; first | omega | exact Nat.le_refl _⟩, ⟨by repeat (first | (with_reducible first | exact HB.out | apply below_alloc | apply pw_below_drewN | apply below_drew1) | exact HB.out)⟩⟩
          · rw [if_neg c13] at H
            have c13b0 : decide (16384 < t123) = false := decide_eq_false c13
            clear c13
            (first | rw [c13b0] | (simp only [i64_w, i32_w]; rw [c13b0]) | skip)
            by_cases c14 : t123 < (-16384)
            · rw [if_pos c14] at H
              have c14b0 : decide (t123 < (-16384)) = true := decide_eq_true c14
              clear c14
              have H' := Aside0.mk H
              clear H
              go_wp2
              go_meet
              case rel => exact ⟨_, (true), (by first | rfl | (simp; done) | (simp [*]; done)), H', ⟨by have := HJ2.out; first | omega | exact Nat.le_refl _⟩, ⟨by repeat (first | (with_reducible first | exact HB.out | apply below_alloc | apply pw_below_drewN | apply below_drew1) | exact HB.out)⟩⟩
            · rw [if_neg c14] at H
              have c14b0 : decide (t123 < (-16384)) = false := decide_eq_false c14
              clear c14
              by_cases c15 : t124 > 16384
              · rw [if_pos c15] at H
                have c15b0 : decide (16384 < t124) = true := decide_eq_true c15
                clear c15
                have H' := Aside0.mk H
                clear H
                go_wp2
                go_meet
                case rel => exact ⟨_, (true), (by first | rfl | (simp; done) | (simp [*]; done)), H', ⟨by have := HJ2.out; first | omega | exact Nat.le_refl _⟩, ⟨by repeat (first | (with_reducible first | exact HB.out | apply below_alloc | apply pw_below_drewN | apply below_drew1) | exact HB.out)⟩⟩
              · rw [if_neg c15] at H
                have c15b0 : decide (16384 < t124) = false := decide_eq_false c15
                clear c15
                have H' := Aside0.mk H
                clear H
                go_wp2
                go_meet
                case rel => exact ⟨_, (decide (t124 < (-16384))), (by first | rfl | (simp; done) | (simp [*]; done)), H', ⟨by have := HJ2.out; first | omega | exact Nat.le_refl _⟩, ⟨by repeat (first | (with_reducible first | exact HB.out | apply below_alloc | apply pw_below_drewN | apply below_drew1) | exact HB.out)⟩⟩
        case rest =>
          clear HC10
          try clear c1
          try clear p2
          try clear c4
          try clear c4b0
          try clear c5
          try clear c9
          try clear c11
          try clear c12
          try clear c13
          try clear c13b0
          try clear c14
          try clear c14b0
          try clear c15
          try clear c15b0
          try clear p2
          obtain ⟨kq, x34_9, rfl, HA, HJ9, HB⟩ := hcut
          cases kq with
          | zero => exact absurd HA.out (by simp [windhoverlaw02_TrigBack.j1])
          | succ kj9 =>
            have H := HA.out
            clear HA
            simp only [windhoverlaw02_TrigBack.j1] at H
            by_cases c16 : x34_9 = true
            · subst c16
              have H1 : (none) = some r := by rw [if_pos rfl] at H; exact H
              clear H
              have H := H1
              clear H1
              exact absurd H (by simp)
            · replace c16 := Bool.eq_false_iff.mpr c16
              subst c16
              have H1 : ((trig_Atan2.f kj9 (wrap64 (a1 * t123)) (wrap64 (a1 * t124))).bind fun bt125 => ((trig_Way.f a0 bt125.1).bind fun t127 => ((windhoverlaw02_awake.f kj9).bind fun t128 => (if t128 = true then (if bt125.2 = true then (if bt125.1 ≥ 0 then (if bt125.1 < 65536 then (if t127 ≥ (-1) then (some (decide (t127 ≤ 1))) else (none)) else (none)) else (none)) else (none)) else (none))))) = some r := by rw [if_neg (show ¬ (false = true) by decide)] at H; exact H
              clear H
              have H := H1
              clear H1
              replace H := Option.bind_eq_some_iff.mp H
              obtain ⟨⟨t125, t126⟩, A170, H⟩ := H
              replace H : ((trig_Way.f a0 t125).bind fun t127 => ((windhoverlaw02_awake.f kj9).bind fun t128 => (if t128 = true then (if t126 = true then (if t125 ≥ 0 then (if t125 < 65536 then (if t127 ≥ (-1) then (some (decide (t127 ≤ 1))) else (none)) else (none)) else (none)) else (none)) else (none)))) = some r := H
              have A17 := Aside0.mk A170
              clear A170
              replace H := Option.bind_eq_some_iff.mp H
              obtain ⟨t127, A180, H⟩ := H
              replace H : ((windhoverlaw02_awake.f kj9).bind fun t128 => (if t128 = true then (if t126 = true then (if t125 ≥ 0 then (if t125 < 65536 then (if t127 ≥ (-1) then (some (decide (t127 ≤ 1))) else (none)) else (none)) else (none)) else (none)) else (none))) = some r := H
              have A18 := Aside0.mk A180
              clear A180
              replace H := Option.bind_eq_some_iff.mp H
              obtain ⟨t128, A190, H⟩ := H
              replace H : (if t128 = true then (if t126 = true then (if t125 ≥ 0 then (if t125 < 65536 then (if t127 ≥ (-1) then (some (decide (t127 ≤ 1))) else (none)) else (none)) else (none)) else (none)) else (none)) = some r := H
              have A19 := Aside0.mk A190
              clear A190
              by_cases c20 : t128 = true
              · subst c20
                have H1 : (if t126 = true then (if t125 ≥ 0 then (if t125 < 65536 then (if t127 ≥ (-1) then (some (decide (t127 ≤ 1))) else (none)) else (none)) else (none)) else (none)) = some r := by rw [if_pos rfl] at H; exact H
                clear H
                have H := H1
                clear H1
                by_cases c21 : t126 = true
                · subst c21
                  have H1 : (if t125 ≥ 0 then (if t125 < 65536 then (if t127 ≥ (-1) then (some (decide (t127 ≤ 1))) else (none)) else (none)) else (none)) = some r := by rw [if_pos rfl] at H; exact H
                  clear H
                  have H := H1
                  clear H1
                  by_cases c22 : t125 ≥ 0
                  · rw [if_pos c22] at H
                    have c22b0 : decide (0 ≤ t125) = true := decide_eq_true c22
                    clear c22
                    by_cases c23 : t125 < 65536
                    · rw [if_pos c23] at H
                      have c23b0 : decide (t125 < 65536) = true := decide_eq_true c23
                      clear c23
                      by_cases c24 : t127 ≥ (-1)
                      · rw [if_pos c24] at H
                        have c24b0 : decide ((-1) ≤ t127) = true := decide_eq_true c24
                        clear c24
                        obtain rfl := Option.some.inj H
                        go_wp2_with (first | ((with_reducible refine gate_callee (f := 16) rfl ?_); refine goesL_ (some 42) rfl rfl Try.func16 (by kernel_rfl) rfl #[.int .i64 (wrap64 (a1 * t123)), .int .i64 (wrap64 (a1 * t124))] rfl (by (try simp only [List.map_toArray, List.map_cons, List.map_nil]); first | done | rfl | (simp only [List.length_drop, List.length_take]; rfl)) ?_; (with_reducible refine (trig_Atan2.calls kj9 (wrap64 (a1 * t123)) (wrap64 (a1 * t124)) t125 true _ A17.out).mono ?_); rintro e w25 ⟨rfl, hb⟩; refine ⟨_, rfl, ?_⟩; have n0_ := Aside0.mk (below_step (by repeat (first | (with_reducible first | exact HB.out | apply below_alloc | apply pw_below_drewN | apply below_drew1) | exact HB.out)) hb); clear HB; have HB := n0_; clear n0_; (try clear hb); (try clear hb2); (try clear hk); (try clear hi)) | ((with_reducible refine gate_callee (f := 18) rfl ?_); refine goesL_ (some 47) rfl rfl Try.func18 (by kernel_rfl) rfl #[.int .i64 a0, .int .i64 t125] rfl (by (try simp only [List.map_toArray, List.map_cons, List.map_nil]); first | done | rfl | (simp only [List.length_drop, List.length_take]; rfl)) ?_; (with_reducible refine (trig_Way.calls a0 t125 t127 _ A18.out).mono ?_); rintro e w' ⟨rfl, ⟨nd, rfl⟩⟩; refine ⟨_, rfl, ?_⟩) | ((with_reducible refine gate_callee (f := 11) rfl ?_); refine goesL_ (some 48) rfl rfl Try.func11 (by kernel_rfl) rfl #[] rfl (by (try simp only [List.map_toArray, List.map_cons, List.map_nil]); first | done | rfl | (simp only [List.length_drop, List.length_take]; rfl)) ?_; (with_reducible refine (windhoverlaw02_awake.calls kj9  true _ A19.out).mono ?_); rintro e w26 ⟨rfl, hb⟩; refine ⟨_, rfl, ?_⟩; have n0_ := Aside0.mk (below_step (by repeat (first | (with_reducible first | exact HB.out | apply below_alloc | apply pw_below_drewN | apply below_drew1) | exact HB.out)) hb); clear HB; have HB := n0_; clear n0_; (try clear hb); (try clear hb2); (try clear hk); (try clear hi)))
                        go_ret
                        exact ⟨by first | rfl | (simp [errW_none, errW_some] <;> rfl) | (simp [*, errW_none, errW_some] <;> rfl), by repeat (first | (with_reducible first | exact HB.out | apply below_alloc | apply pw_below_drewN | apply below_drew1) | exact HB.out)⟩
                      · rw [if_neg c24] at H
                        exact absurd H (by simp)
                    · rw [if_neg c23] at H
                      exact absurd H (by simp)
                  · rw [if_neg c22] at H
                    exact absurd H (by simp)
                · replace c21 := Bool.eq_false_iff.mpr c21
                  subst c21
                  have H1 : (none) = some r := by rw [if_neg (show ¬ (false = true) by decide)] at H; exact H
                  clear H
                  have H := H1
                  clear H1
                  exact absurd H (by simp)
              · replace c20 := Bool.eq_false_iff.mpr c20
                subst c20
                have H1 : (none) = some r := by rw [if_neg (show ¬ (false = true) by decide)] at H; exact H
                clear H
                have H := H1
                clear H1
                exact absurd H (by simp)

/-- THE ONE PURE STATEMENT of windhoverlaw02_TrigBack: yours. -/
def windhoverlaw02_TrigBack.Pure : Prop := ∀ (a0 : Int) (a1 : Int), (Lit.int .i64 a0).wf = true → (Lit.int .i64 a1).wf = true → ∃ k, windhoverlaw02_TrigBack.f k a0 a1 = some true
theorem windhoverlaw02_TrigBack.walk (P : windhoverlaw02_TrigBack.Pure) (a0 : Int) (a1 : Int) (w : World) (w0 : (Lit.int .i64 a0).wf = true) (w1 : (Lit.int .i64 a1).wf = true) :
    Calls Try.prog 9 #[.int .i64 a0, .int .i64 a1] w fun e w' => e = .returned (.bool true) ∧ Below w.heap.size w w' := by
  obtain ⟨k, h⟩ := P a0 a1 w0 w1
  refine (windhoverlaw02_TrigBack.calls k a0 a1 true w h).mono ?_
  rintro e w' ⟨rfl, hd⟩
  exact ⟨rfl, hd⟩

end Go.Proofs.Ytplfcbbaanjdgaa.PTrigBack
