-- WRITTEN BY wip/tools/aprint.py of this claim's repository over the kit's words: not typed by hand
import Derived.Test.YtmjhhcalcpodjaaPFixSharesx0
import Derived.Test.YtmjhhcalcpodjaaPFixSharesx3
import Derived.Test.YtmjhhcalcpodjaaPFixSharesx4
import Derived.Test.YtmjhhcalcpodjaaPFixSharesx5
import Derived.Test.YtmjhhcalcpodjaaPFixSharesx6
import Derived.Test.YtmjhhcalcpodjaaPFixSharesx8
import Derived.Test.YtmjhhcalcpodjaaPFixSharesx10
namespace Go.Proofs.Ytmjhhcalcpodjaa.PFixShares
open Go.RowKit Go.Proofs.YtmjhhcalcpodjaaW.PrintWords Go.Proofs.YtmjhhcalcpodjaaW.PrintLast Go.Proofs.YtmjhhcalcpodjaaW.PrintMore
attribute [local go_sem] max2_int min2_int max_two min_two max_three min_three max_four min_four   -- for this text's walks alone
set_option linter.unusedVariables false
set_option linter.unusedSimpArgs false

/-! ### windhoverlaw01_FixShares: function 6 -/
mutual
def windhoverlaw01_FixShares.j0 : Nat → Int → Int → Int → Int → Bool → Option (Bool)
  | 0, _, _, _, _, _ => none
  | k + 1, x0, x1, x2, x7, x43 => if x43 = true then (none) else (if x2 = 0 then (windhoverlaw01_FixShares.j1 k x0 x1 x2 x7 true) else (if x7 = 9223372036854775807 then (windhoverlaw01_FixShares.j1 k x0 x1 x2 x7 true) else (windhoverlaw01_FixShares.j1 k x0 x1 x2 x7 (x7 == (-9223372036854775808)))))
def windhoverlaw01_FixShares.j1 : Nat → Int → Int → Int → Int → Bool → Option (Bool)
  | 0, _, _, _, _, _ => none
  | k + 1, x0, x1, x2, x7, x53 => if x53 = true then ((windhoverlaw01_awake.f k).bind fun t406 => (some t406)) else ((windhoverref00_Of.f k x0).bind fun bt407 => ((windhoverref00_Of.f k x1).bind fun bt411 => ((windhoverref00_Times.f k bt407.1 bt407.2 bt411.1 bt411.2).bind fun bt415 => ((windhoverref00_Of.f k x2).bind fun bt420 => (if x2 < 0 then ((windhoverref00_Of.f k 0).bind fun bt425 => ((windhoverref00_Minus.f k bt425.1 bt425.2 bt415.1 bt415.2).bind fun bt429 => ((windhoverref00_Of.f k 0).bind fun bt433 => ((windhoverref00_Minus.f k bt433.1 bt433.2 bt420.1 bt420.2).bind fun bt437 => (windhoverlaw01_FixShares.j2 k x7 bt429.1 bt429.2 bt437.1 bt437.2))))) else (windhoverlaw01_FixShares.j2 k x7 bt415.1 bt415.2 bt420.1 bt420.2))))))
def windhoverlaw01_FixShares.j2 : Nat → Int → Bool → List Int → Bool → List Int → Option (Bool)
  | 0, _, _, _, _, _ => none
  | k + 1, x7, x420000, x420001, x425000, x425001 => (windhoverref00_Of.f k x7).bind fun bt441 => ((windhoverref00_Times.f k bt441.1 bt441.2 x425000 x425001).bind fun bt445 => ((windhoverref00_Cmp.f k bt445.1 bt445.2 x420000 x420001).bind fun t449 => ((windhoverref00_Of.f k (wrap64 (x7 + 1))).bind fun bt450 => ((windhoverref00_Times.f k bt450.1 bt450.2 x425000 x425001).bind fun bt454 => ((windhoverref00_Cmp.f k bt454.1 bt454.2 x420000 x420001).bind fun t458 => (if t449 ≤ 0 then (if t458 > 0 then ((windhoverlaw01_awake.f k).bind fun t459 => (some t459)) else (none)) else (none)))))))
end
def windhoverlaw01_FixShares.f (k : Nat) (a0 : Int) (a1 : Int) (a2 : Int) : Option (Bool) := (fix_MulDiv.f k a0 a1 a2).bind fun bt402 => ((windhoverref01_MulDiv.f k a0 a1 a2).bind fun bt404 => (if bt402.1 = bt404.1 then (if bt402.2 = bt404.2 then (windhoverlaw01_FixShares.j0 k a0 a1 a2 bt402.1 ((bt402.2 == 1) != (a2 == 0))) else (windhoverlaw01_FixShares.j0 k a0 a1 a2 bt402.1 true)) else (windhoverlaw01_FixShares.j0 k a0 a1 a2 bt402.1 true)))
theorem windhoverlaw01_FixShares.mono_l : ∀ k, (∀ y0 y1 y2 y3 y4, LeO (windhoverlaw01_FixShares.j0 k y0 y1 y2 y3 y4) (windhoverlaw01_FixShares.j0 (k + 1) y0 y1 y2 y3 y4)) ∧ (∀ y0 y1 y2 y3 y4, LeO (windhoverlaw01_FixShares.j1 k y0 y1 y2 y3 y4) (windhoverlaw01_FixShares.j1 (k + 1) y0 y1 y2 y3 y4)) ∧ (∀ y0 y1 y2 y3 y4, LeO (windhoverlaw01_FixShares.j2 k y0 y1 y2 y3 y4) (windhoverlaw01_FixShares.j2 (k + 1) y0 y1 y2 y3 y4))
  | 0 => ⟨fun _ _ _ _ _ r h => by simp [windhoverlaw01_FixShares.j0] at h, fun _ _ _ _ _ r h => by simp [windhoverlaw01_FixShares.j1] at h, fun _ _ _ _ _ r h => by simp [windhoverlaw01_FixShares.j2] at h⟩
  | k + 1 => by
    obtain ⟨ih0, ih1, ih2⟩ := windhoverlaw01_FixShares.mono_l k
    refine ⟨?_, ?_, ?_⟩
    · intro y0 y1 y2 y3 y4
      unfold windhoverlaw01_FixShares.j0
      repeat' first
      | (with_reducible exact ih0 _ _ _ _ _)
      | (with_reducible exact ih1 _ _ _ _ _)
      | (with_reducible exact ih2 _ _ _ _ _)
      | (with_reducible exact fix_MulDiv.mono _ _ _ _)
      | (with_reducible exact windhoverlaw01_awake.mono _)
      | (with_reducible exact windhoverref00_Cmp.mono _ _ _ _ _)
      | (with_reducible exact windhoverref00_Minus.mono _ _ _ _ _)
      | (with_reducible exact windhoverref00_Of.mono _ _)
      | (with_reducible exact windhoverref00_Times.mono _ _ _ _ _)
      | (with_reducible exact windhoverref01_MulDiv.mono _ _ _ _)
      | (with_reducible exact LeO.refl _)
      | (with_reducible exact LeO.none _)
      | (with_reducible refine LeO.ite ?_ ?_)
      | (with_reducible refine LeO.bind ?_ (fun _ => ?_))
      | exact ih0 _ _ _ _ _
      | exact ih1 _ _ _ _ _
      | exact ih2 _ _ _ _ _
      | exact fix_MulDiv.mono _ _ _ _
      | exact windhoverlaw01_awake.mono _
      | exact windhoverref00_Cmp.mono _ _ _ _ _
      | exact windhoverref00_Minus.mono _ _ _ _ _
      | exact windhoverref00_Of.mono _ _
      | exact windhoverref00_Times.mono _ _ _ _ _
      | exact windhoverref01_MulDiv.mono _ _ _ _
      | exact LeO.none _
      | refine LeO.ite ?_ ?_
      | refine LeO.bind ?_ (fun _ => ?_)
    · intro y0 y1 y2 y3 y4
      unfold windhoverlaw01_FixShares.j1
      repeat' first
      | (with_reducible exact ih0 _ _ _ _ _)
      | (with_reducible exact ih1 _ _ _ _ _)
      | (with_reducible exact ih2 _ _ _ _ _)
      | (with_reducible exact fix_MulDiv.mono _ _ _ _)
      | (with_reducible exact windhoverlaw01_awake.mono _)
      | (with_reducible exact windhoverref00_Cmp.mono _ _ _ _ _)
      | (with_reducible exact windhoverref00_Minus.mono _ _ _ _ _)
      | (with_reducible exact windhoverref00_Of.mono _ _)
      | (with_reducible exact windhoverref00_Times.mono _ _ _ _ _)
      | (with_reducible exact windhoverref01_MulDiv.mono _ _ _ _)
      | (with_reducible exact LeO.refl _)
      | (with_reducible exact LeO.none _)
      | (with_reducible refine LeO.ite ?_ ?_)
      | (with_reducible refine LeO.bind ?_ (fun _ => ?_))
      | exact ih0 _ _ _ _ _
      | exact ih1 _ _ _ _ _
      | exact ih2 _ _ _ _ _
      | exact fix_MulDiv.mono _ _ _ _
      | exact windhoverlaw01_awake.mono _
      | exact windhoverref00_Cmp.mono _ _ _ _ _
      | exact windhoverref00_Minus.mono _ _ _ _ _
      | exact windhoverref00_Of.mono _ _
      | exact windhoverref00_Times.mono _ _ _ _ _
      | exact windhoverref01_MulDiv.mono _ _ _ _
      | exact LeO.none _
      | refine LeO.ite ?_ ?_
      | refine LeO.bind ?_ (fun _ => ?_)
    · intro y0 y1 y2 y3 y4
      unfold windhoverlaw01_FixShares.j2
      repeat' first
      | (with_reducible exact ih0 _ _ _ _ _)
      | (with_reducible exact ih1 _ _ _ _ _)
      | (with_reducible exact ih2 _ _ _ _ _)
      | (with_reducible exact fix_MulDiv.mono _ _ _ _)
      | (with_reducible exact windhoverlaw01_awake.mono _)
      | (with_reducible exact windhoverref00_Cmp.mono _ _ _ _ _)
      | (with_reducible exact windhoverref00_Minus.mono _ _ _ _ _)
      | (with_reducible exact windhoverref00_Of.mono _ _)
      | (with_reducible exact windhoverref00_Times.mono _ _ _ _ _)
      | (with_reducible exact windhoverref01_MulDiv.mono _ _ _ _)
      | (with_reducible exact LeO.refl _)
      | (with_reducible exact LeO.none _)
      | (with_reducible refine LeO.ite ?_ ?_)
      | (with_reducible refine LeO.bind ?_ (fun _ => ?_))
      | exact ih0 _ _ _ _ _
      | exact ih1 _ _ _ _ _
      | exact ih2 _ _ _ _ _
      | exact fix_MulDiv.mono _ _ _ _
      | exact windhoverlaw01_awake.mono _
      | exact windhoverref00_Cmp.mono _ _ _ _ _
      | exact windhoverref00_Minus.mono _ _ _ _ _
      | exact windhoverref00_Of.mono _ _
      | exact windhoverref00_Times.mono _ _ _ _ _
      | exact windhoverref01_MulDiv.mono _ _ _ _
      | exact LeO.none _
      | refine LeO.ite ?_ ?_
      | refine LeO.bind ?_ (fun _ => ?_)
theorem windhoverlaw01_FixShares.mono : ∀ a0 a1 a2 k, LeO (windhoverlaw01_FixShares.f k a0 a1 a2) (windhoverlaw01_FixShares.f (k + 1) a0 a1 a2) := by
  intro a0 a1 a2 k
  obtain ⟨ih0, ih1, ih2⟩ := windhoverlaw01_FixShares.mono_l k
  unfold windhoverlaw01_FixShares.f
  repeat' first
      | (with_reducible exact ih0 _ _ _ _ _)
      | (with_reducible exact ih1 _ _ _ _ _)
      | (with_reducible exact ih2 _ _ _ _ _)
      | (with_reducible exact fix_MulDiv.mono _ _ _ _)
      | (with_reducible exact windhoverlaw01_awake.mono _)
      | (with_reducible exact windhoverref00_Cmp.mono _ _ _ _ _)
      | (with_reducible exact windhoverref00_Minus.mono _ _ _ _ _)
      | (with_reducible exact windhoverref00_Of.mono _ _)
      | (with_reducible exact windhoverref00_Times.mono _ _ _ _ _)
      | (with_reducible exact windhoverref01_MulDiv.mono _ _ _ _)
      | (with_reducible exact LeO.refl _)
      | (with_reducible exact LeO.none _)
      | (with_reducible refine LeO.ite ?_ ?_)
      | (with_reducible refine LeO.bind ?_ (fun _ => ?_))
      | exact ih0 _ _ _ _ _
      | exact ih1 _ _ _ _ _
      | exact ih2 _ _ _ _ _
      | exact fix_MulDiv.mono _ _ _ _
      | exact windhoverlaw01_awake.mono _
      | exact windhoverref00_Cmp.mono _ _ _ _ _
      | exact windhoverref00_Minus.mono _ _ _ _ _
      | exact windhoverref00_Of.mono _ _
      | exact windhoverref00_Times.mono _ _ _ _ _
      | exact windhoverref01_MulDiv.mono _ _ _ _
      | exact LeO.none _
      | refine LeO.ite ?_ ?_
      | refine LeO.bind ?_ (fun _ => ?_)
def windhoverlaw01_FixShares.T12 : Bool × List (List Nat × List Nat) := (true, [([], []), ([0], [0]), ([], []), ([1, 2, 1], [1, 2]), ([], []), ([3, 4, 3], [3, 4]), ([5], [5]), ([6, 5, 0, 1, 2, 3, 4, 5, 6], [6])])
def windhoverlaw01_FixShares.B12 : List Nat := [0, 1, 0, 7, 0, 31, 63, 127]
theorem windhoverlaw01_FixShares.tab12 : rtab .any (opsOf Try.f6 12) = windhoverlaw01_FixShares.T12 := by kernel_rfl
theorem windhoverlaw01_FixShares.bits12 : waitsOk windhoverlaw01_FixShares.T12.2 windhoverlaw01_FixShares.B12 = true := by kernel_rfl
def windhoverlaw01_FixShares.T13 : Bool × List (List Nat × List Nat) := (true, [([], []), ([0], [0]), ([1], [1]), ([], []), ([2, 3, 2], [2, 3]), ([], []), ([4, 5, 4], [4, 5]), ([6], [6]), ([7, 6, 0, 1, 2, 3, 4, 5, 6, 7], [7])])
def windhoverlaw01_FixShares.B13 : List Nat := [0, 1, 3, 0, 15, 0, 63, 127, 255]
theorem windhoverlaw01_FixShares.tab13 : rtab .any (opsOf Try.f6 13) = windhoverlaw01_FixShares.T13 := by kernel_rfl
theorem windhoverlaw01_FixShares.bits13 : waitsOk windhoverlaw01_FixShares.T13.2 windhoverlaw01_FixShares.B13 = true := by kernel_rfl
set_option maxHeartbeats 8000000 in
set_option maxRecDepth 100000 in
theorem windhoverlaw01_FixShares.calls (k : Nat) (a0 : Int) (a1 : Int) (a2 : Int) (r : Bool) (w : World) (h : windhoverlaw01_FixShares.f k a0 a1 a2 = some r) :
    Calls Try.prog 6 #[.int .i64 a0, .int .i64 a1, .int .i64 a2] w fun e w' => e = .returned (.bool r) ∧ Below w.heap.size w w' := by
  have hu30 := Try.underlying30
  have HB := Aside0.mk (Below.refl w.heap.size w)
  have H : ((fix_MulDiv.f k a0 a1 a2).bind fun bt402 => ((windhoverref01_MulDiv.f k a0 a1 a2).bind fun bt404 => (if bt402.1 = bt404.1 then (if bt402.2 = bt404.2 then (windhoverlaw01_FixShares.j0 k a0 a1 a2 bt402.1 ((bt402.2 == 1) != (a2 == 0))) else (windhoverlaw01_FixShares.j0 k a0 a1 a2 bt402.1 true)) else (windhoverlaw01_FixShares.j0 k a0 a1 a2 bt402.1 true)))) = some r := h
  clear h
  replace H := Option.bind_eq_some_iff.mp H
  obtain ⟨⟨t402, t403⟩, A40, H⟩ := H
  replace H : ((windhoverref01_MulDiv.f k a0 a1 a2).bind fun bt404 => (if t402 = bt404.1 then (if t403 = bt404.2 then (windhoverlaw01_FixShares.j0 k a0 a1 a2 t402 ((t403 == 1) != (a2 == 0))) else (windhoverlaw01_FixShares.j0 k a0 a1 a2 t402 true)) else (windhoverlaw01_FixShares.j0 k a0 a1 a2 t402 true))) = some r := H
  have A4 := Aside0.mk A40
  clear A40
  replace H := Option.bind_eq_some_iff.mp H
  obtain ⟨⟨t404, t405⟩, A50, H⟩ := H
  replace H : (if t402 = t404 then (if t403 = t405 then (windhoverlaw01_FixShares.j0 k a0 a1 a2 t402 ((t403 == 1) != (a2 == 0))) else (windhoverlaw01_FixShares.j0 k a0 a1 a2 t402 true)) else (windhoverlaw01_FixShares.j0 k a0 a1 a2 t402 true)) = some r := H
  have A5 := Aside0.mk A50
  clear A50
  have HC6 := Aside0.mk H
  clear H
  go_enter Try.func6, Try.ntmps6
  go_upto_region 3 with (first | ((with_reducible refine gate_callee (f := 23) rfl ?_); refine goesL_ (some 19) rfl rfl Try.func23 (by kernel_rfl) rfl #[.int .i64 a0, .int .i64 a1, .int .i64 a2] rfl (by (try simp only [List.map_toArray, List.map_cons, List.map_nil]); first | done | rfl | (simp only [List.length_drop, List.length_take]; rfl)) ?_; (with_reducible refine (fix_MulDiv.calls k a0 a1 a2 t402 t403 _ A4.out).mono ?_); rintro e w' ⟨rfl, ⟨nd, rfl⟩⟩; refine ⟨_, rfl, ?_⟩) | ((with_reducible refine gate_callee (f := 24) rfl ?_); refine goesL_ (some 26) rfl rfl Try.func24 (by kernel_rfl) rfl #[.int .i64 a0, .int .i64 a1, .int .i64 a2] rfl (by (try simp only [List.map_toArray, List.map_cons, List.map_nil]); first | done | rfl | (simp only [List.length_drop, List.length_take]; rfl)) ?_; (with_reducible refine (windhoverref01_MulDiv.calls k a0 a1 a2 t404 t405 _ A5.out).mono ?_); rintro e w7 ⟨rfl, hb⟩; refine ⟨_, rfl, ?_⟩; have n0_ := Aside0.mk (below_step (by repeat (first | (with_reducible first | exact HB.out | apply below_alloc | apply pw_below_drewN | apply below_drew1) | exact HB.out)) hb); clear HB; have HB := n0_; clear n0_; (try clear hb); (try clear hb2); (try clear hk); (try clear hi)))
  (try simp only [Act.put, List.setIfInBounds_toArray, List.set_cons_zero, List.set_cons_succ])
  go_cut [43] (fun v43 wc => ∃ (kq : Nat) (x43_5 : Bool), v43 = .bool x43_5 ∧ Aside0 (windhoverlaw01_FixShares.j0 kq a0 a1 a2 t402 x43_5 = some r) ∧ Aside0 (kq ≤ k) ∧ Aside0 (Below w.heap.size w wc))
  case first =>
    have H := HC6.out
    clear HC6
    by_cases c8 : t402 = t404
    · rw [if_pos c8] at H
      have c8b0 : (t402 == t404) = true := beq_iff_eq.mpr c8
      have c8b1 : (t402 != t404) = false := bne_eq_false_iff_eq.mpr c8
      clear c8
      (first | rw [c8b0] | (simp only [i64_w, i32_w]; rw [c8b0]) | skip)
      by_cases c9 : t403 = t405
      · rw [if_pos c9] at H
        have c9b0 : (t403 == t405) = true := beq_iff_eq.mpr c9
        have c9b1 : (t403 != t405) = false := bne_eq_false_iff_eq.mpr c9
        clear c9
        have H' := Aside0.mk H
        clear H
        go_wp2
        go_meet
        case rel => exact ⟨_, (((t403 == 1) != (a2 == 0))), (by first | rfl | (simp; done) | (simp [*]; done)), H', ⟨by first | omega | exact Nat.le_refl _⟩, ⟨by repeat (first | (with_reducible first | exact HB.out | apply below_alloc | apply pw_below_drewN | apply below_drew1) | exact HB.out)⟩⟩
      · rw [if_neg c9] at H
        have c9b0 : (t403 == t405) = false := beq_eq_false_iff_ne.mpr c9
        have c9b1 : (t403 != t405) = true := bne_iff_ne.mpr c9
        have H' := Aside0.mk H
        clear H
        go_wp2
        go_meet
        case rel => exact ⟨_, (true), (by first | rfl | (simp; done) | (simp [*]; done)), H', ⟨by first | omega | exact Nat.le_refl _⟩, ⟨by repeat (first | (with_reducible first | exact HB.out | apply below_alloc | apply pw_below_drewN | apply below_drew1) | exact HB.out)⟩⟩
    · rw [if_neg c8] at H
      have c8b0 : (t402 == t404) = false := beq_eq_false_iff_ne.mpr c8
      have c8b1 : (t402 != t404) = true := bne_iff_ne.mpr c8
      (first | rw [c8b0] | (simp only [i64_w, i32_w]; rw [c8b0]) | skip)
      have H' := Aside0.mk H
      clear H
      go_wp2
      go_meet
      case rel => exact ⟨_, (true), (by first | rfl | (simp; done) | (simp [*]; done)), H', ⟨by first | omega | exact Nat.le_refl _⟩, ⟨by repeat (first | (with_reducible first | exact HB.out | apply below_alloc | apply pw_below_drewN | apply below_drew1) | exact HB.out)⟩⟩
  case rest =>
    clear HC6
    try clear c2
    try clear p2
    try clear c6
    try clear c8
    try clear c8b0
    try clear c8b1
    try clear c9
    try clear c9b0
    try clear c9b1
    obtain ⟨kq, x43_5, rfl, HA, HJ5, HB⟩ := hcut
    cases kq with
    | zero => exact absurd HA.out (by simp [windhoverlaw01_FixShares.j0])
    | succ kj5 =>
      have H := HA.out
      clear HA
      simp only [windhoverlaw01_FixShares.j0] at H
      by_cases c10 : x43_5 = true
      · subst c10
        have H1 : (none) = some r := by rw [if_pos rfl] at H; exact H
        clear H
        have H := H1
        clear H1
        exact absurd H (by simp)
      · replace c10 := Bool.eq_false_iff.mpr c10
        subst c10
        have H1 : (if a2 = 0 then (windhoverlaw01_FixShares.j1 kj5 a0 a1 a2 t402 true) else (if t402 = 9223372036854775807 then (windhoverlaw01_FixShares.j1 kj5 a0 a1 a2 t402 true) else (windhoverlaw01_FixShares.j1 kj5 a0 a1 a2 t402 (t402 == (-9223372036854775808))))) = some r := by rw [if_neg (show ¬ (false = true) by decide)] at H; exact H
        clear H
        have H := H1
        clear H1
        have HC11 := Aside0.mk H
        clear H
        go_upto_region 5 with (fail)
        go_cut [53] (fun v53 wc => ∃ (kq : Nat) (x53_10 : Bool), v53 = .bool x53_10 ∧ Aside0 (windhoverlaw01_FixShares.j1 kq a0 a1 a2 t402 x53_10 = some r) ∧ Aside0 (kq ≤ kj5) ∧ Aside0 (Below w.heap.size w wc))
        case first =>
          have H := HC11.out
          clear HC11
          by_cases c12 : a2 = 0
          · rw [if_pos c12] at H
            have c12b0 : (a2 == 0) = true := beq_iff_eq.mpr c12
            have c12b1 : (a2 != 0) = false := bne_eq_false_iff_eq.mpr c12
            clear c12
            (first | rw [c12b0] | (simp only [i64_w, i32_w]; rw [c12b0]) | skip)
            have H' := Aside0.mk H
            clear H
            go_wp2
            go_meet
            case rel => exact ⟨_, (true), (by first | rfl | (simp; done) | (simp [*]; done)), H', ⟨by have := HJ5.out; first | omega | exact Nat.le_refl _⟩, ⟨by repeat (first | (with_reducible first | exact HB.out | apply below_alloc | apply pw_below_drewN | apply below_drew1) | exact HB.out)⟩⟩
          · rw [if_neg c12] at H
            have c12b0 : (a2 == 0) = false := beq_eq_false_iff_ne.mpr c12
            have c12b1 : (a2 != 0) = true := bne_iff_ne.mpr c12
            (first | rw [c12b0] | (simp only [i64_w, i32_w]; rw [c12b0]) | skip)
            by_cases c13 : t402 = 9223372036854775807
            · rw [if_pos c13] at H
              have c13b0 : (t402 == 9223372036854775807) = true := beq_iff_eq.mpr c13
              have c13b1 : (t402 != 9223372036854775807) = false := bne_eq_false_iff_eq.mpr c13
              clear c13
              have H' := Aside0.mk H
              clear H
              go_wp2
              go_meet
              case rel => exact ⟨_, (true), (by first | rfl | (simp; done) | (simp [*]; done)), H', ⟨by have := HJ5.out; first | omega | exact Nat.le_refl _⟩, ⟨by repeat (first | (with_reducible first | exact HB.out | apply below_alloc | apply pw_below_drewN | apply below_drew1) | exact HB.out)⟩⟩
            · rw [if_neg c13] at H
              have c13b0 : (t402 == 9223372036854775807) = false := beq_eq_false_iff_ne.mpr c13
              have c13b1 : (t402 != 9223372036854775807) = true := bne_iff_ne.mpr c13
              have H' := Aside0.mk H
              clear H
              go_wp2
              go_meet
              case rel => exact ⟨_, ((t402 == (-9223372036854775808))), (by first | rfl | (simp; done) | (simp [*]; done)), H', ⟨by have := HJ5.out; first | omega | exact Nat.le_refl _⟩, ⟨by repeat (first | (with_reducible first | exact HB.out | apply below_alloc | apply pw_below_drewN | apply below_drew1) | exact HB.out)⟩⟩
        case rest =>
          clear HC11
          try clear c1
          try clear c2
          try clear p2
          try clear c6
          try clear c8
          try clear c8b0
          try clear c8b1
          try clear c9
          try clear c9b0
          try clear c9b1
          try clear c10
          try clear c12
          try clear c12b0
          try clear c12b1
          try clear c13
          try clear c13b0
          try clear c13b1
          try clear p2
          obtain ⟨kq, x53_10, rfl, HA, HJ10, HB⟩ := hcut
          cases kq with
          | zero => exact absurd HA.out (by simp [windhoverlaw01_FixShares.j1])
          | succ kj10 =>
            have H := HA.out
            clear HA
            simp only [windhoverlaw01_FixShares.j1] at H
            by_cases c14 : x53_10 = true
            · subst c14
              have H1 : ((windhoverlaw01_awake.f kj10).bind fun t406 => (some t406)) = some r := by rw [if_pos rfl] at H; exact H
              clear H
              have H := H1
              clear H1
              replace H := Option.bind_eq_some_iff.mp H
              obtain ⟨t406, A150, H⟩ := H
              replace H : (some t406) = some r := H
              have A15 := Aside0.mk A150
              clear A150
              obtain rfl := Option.some.inj H
              go_wp2_with (first | ((with_reducible refine gate_callee (f := 16) rfl ?_); refine goesL_ (some 54) rfl rfl Try.func16 (by kernel_rfl) rfl #[] rfl (by (try simp only [List.map_toArray, List.map_cons, List.map_nil]); first | done | rfl | (simp only [List.length_drop, List.length_take]; rfl)) ?_; (with_reducible refine (windhoverlaw01_awake.calls kj10  t406 _ A15.out).mono ?_); rintro e w16 ⟨rfl, hb⟩; refine ⟨_, rfl, ?_⟩; have n0_ := Aside0.mk (below_step (by repeat (first | (with_reducible first | exact HB.out | apply below_alloc | apply pw_below_drewN | apply below_drew1) | exact HB.out)) hb); clear HB; have HB := n0_; clear n0_; (try clear hb); (try clear hb2); (try clear hk); (try clear hi)))
              go_ret
              exact ⟨by first | rfl | (simp [errW_none, errW_some] <;> rfl) | (simp [*, errW_none, errW_some] <;> rfl), by repeat (first | (with_reducible first | exact HB.out | apply below_alloc | apply pw_below_drewN | apply below_drew1) | exact HB.out)⟩
            · replace c14 := Bool.eq_false_iff.mpr c14
              subst c14
              have H1 : ((windhoverref00_Of.f kj10 a0).bind fun bt407 => ((windhoverref00_Of.f kj10 a1).bind fun bt411 => ((windhoverref00_Times.f kj10 bt407.1 bt407.2 bt411.1 bt411.2).bind fun bt415 => ((windhoverref00_Of.f kj10 a2).bind fun bt420 => (if a2 < 0 then ((windhoverref00_Of.f kj10 0).bind fun bt425 => ((windhoverref00_Minus.f kj10 bt425.1 bt425.2 bt415.1 bt415.2).bind fun bt429 => ((windhoverref00_Of.f kj10 0).bind fun bt433 => ((windhoverref00_Minus.f kj10 bt433.1 bt433.2 bt420.1 bt420.2).bind fun bt437 => (windhoverlaw01_FixShares.j2 kj10 t402 bt429.1 bt429.2 bt437.1 bt437.2))))) else (windhoverlaw01_FixShares.j2 kj10 t402 bt415.1 bt415.2 bt420.1 bt420.2)))))) = some r := by rw [if_neg (show ¬ (false = true) by decide)] at H; exact H
              clear H
              have H := H1
              clear H1
              replace H := Option.bind_eq_some_iff.mp H
              obtain ⟨⟨t407, t408⟩, A170, H⟩ := H
              replace H : ((windhoverref00_Of.f kj10 a1).bind fun bt411 => ((windhoverref00_Times.f kj10 t407 t408 bt411.1 bt411.2).bind fun bt415 => ((windhoverref00_Of.f kj10 a2).bind fun bt420 => (if a2 < 0 then ((windhoverref00_Of.f kj10 0).bind fun bt425 => ((windhoverref00_Minus.f kj10 bt425.1 bt425.2 bt415.1 bt415.2).bind fun bt429 => ((windhoverref00_Of.f kj10 0).bind fun bt433 => ((windhoverref00_Minus.f kj10 bt433.1 bt433.2 bt420.1 bt420.2).bind fun bt437 => (windhoverlaw01_FixShares.j2 kj10 t402 bt429.1 bt429.2 bt437.1 bt437.2))))) else (windhoverlaw01_FixShares.j2 kj10 t402 bt415.1 bt415.2 bt420.1 bt420.2))))) = some r := H
              have A17 := Aside0.mk A170
              clear A170
              replace H := Option.bind_eq_some_iff.mp H
              obtain ⟨⟨t411, t412⟩, A180, H⟩ := H
              replace H : ((windhoverref00_Times.f kj10 t407 t408 t411 t412).bind fun bt415 => ((windhoverref00_Of.f kj10 a2).bind fun bt420 => (if a2 < 0 then ((windhoverref00_Of.f kj10 0).bind fun bt425 => ((windhoverref00_Minus.f kj10 bt425.1 bt425.2 bt415.1 bt415.2).bind fun bt429 => ((windhoverref00_Of.f kj10 0).bind fun bt433 => ((windhoverref00_Minus.f kj10 bt433.1 bt433.2 bt420.1 bt420.2).bind fun bt437 => (windhoverlaw01_FixShares.j2 kj10 t402 bt429.1 bt429.2 bt437.1 bt437.2))))) else (windhoverlaw01_FixShares.j2 kj10 t402 bt415.1 bt415.2 bt420.1 bt420.2)))) = some r := H
              have A18 := Aside0.mk A180
              clear A180
              replace H := Option.bind_eq_some_iff.mp H
              obtain ⟨⟨t415, t416⟩, A190, H⟩ := H
              replace H : ((windhoverref00_Of.f kj10 a2).bind fun bt420 => (if a2 < 0 then ((windhoverref00_Of.f kj10 0).bind fun bt425 => ((windhoverref00_Minus.f kj10 bt425.1 bt425.2 t415 t416).bind fun bt429 => ((windhoverref00_Of.f kj10 0).bind fun bt433 => ((windhoverref00_Minus.f kj10 bt433.1 bt433.2 bt420.1 bt420.2).bind fun bt437 => (windhoverlaw01_FixShares.j2 kj10 t402 bt429.1 bt429.2 bt437.1 bt437.2))))) else (windhoverlaw01_FixShares.j2 kj10 t402 t415 t416 bt420.1 bt420.2))) = some r := H
              have A19 := Aside0.mk A190
              clear A190
              replace H := Option.bind_eq_some_iff.mp H
              obtain ⟨⟨t420, t421⟩, A200, H⟩ := H
              replace H : (if a2 < 0 then ((windhoverref00_Of.f kj10 0).bind fun bt425 => ((windhoverref00_Minus.f kj10 bt425.1 bt425.2 t415 t416).bind fun bt429 => ((windhoverref00_Of.f kj10 0).bind fun bt433 => ((windhoverref00_Minus.f kj10 bt433.1 bt433.2 t420 t421).bind fun bt437 => (windhoverlaw01_FixShares.j2 kj10 t402 bt429.1 bt429.2 bt437.1 bt437.2))))) else (windhoverlaw01_FixShares.j2 kj10 t402 t415 t416 t420 t421)) = some r := H
              have A20 := Aside0.mk A200
              clear A200
              have HC21 := Aside0.mk H
              clear H
              go_upto_if 63 with (first | ((with_reducible refine gate_callee (f := 21) rfl ?_); refine goesL_ (some 56) rfl rfl Try.func21 (by kernel_rfl) rfl #[.int .i64 a0] rfl (by (try simp only [List.map_toArray, List.map_cons, List.map_nil]); first | done | rfl | (simp only [List.length_drop, List.length_take]; rfl)) ?_; (with_reducible refine (windhoverref00_Of.calls kj10 a0 t407 t408 _ A17.out).mono ?_); rintro e w22 ⟨v409, rfl, ho0, hb⟩; refine ⟨_, rfl, ?_⟩; have n0_ := Aside0.mk (Kd.R_lower ho0 (below_size (by repeat (first | (with_reducible first | exact HB.out | apply below_alloc | apply pw_below_drewN | apply below_drew1) | exact HB.out)))); have n1_ := Aside0.mk (below_step (by repeat (first | (with_reducible first | exact HB.out | apply below_alloc | apply pw_below_drewN | apply below_drew1) | exact HB.out)) hb); clear HB; have HO410 := n0_; have HB := n1_; clear n0_ n1_; (try clear hb); (try clear hb2); (try clear hk); (try clear hi); (try clear ho0)) | ((with_reducible refine gate_callee (f := 21) rfl ?_); refine goesL_ (some 58) rfl rfl Try.func21 (by kernel_rfl) rfl #[.int .i64 a1] rfl (by (try simp only [List.map_toArray, List.map_cons, List.map_nil]); first | done | rfl | (simp only [List.length_drop, List.length_take]; rfl)) ?_; (with_reducible refine (windhoverref00_Of.calls kj10 a1 t411 t412 _ A18.out).mono ?_); rintro e w23 ⟨v413, rfl, ho0, hb⟩; refine ⟨_, rfl, ?_⟩; have n0_ := Aside0.mk (Kd.R_elder' (by (with_reducible repeat (first | apply Kd.R_alloc | apply Kd.R_drewN | apply Kd.R_drew)); exact HO410.out) (Kd.R_base ho0) hb); have n1_ := Aside0.mk (Kd.R_lower (Kd.R_new' ho0 (Kd.R_lt (by (with_reducible repeat (first | apply Kd.R_alloc | apply Kd.R_drewN | apply Kd.R_drew)); exact HO410.out))) (below_size (by repeat (first | (with_reducible first | exact HB.out | apply below_alloc | apply pw_below_drewN | apply below_drew1) | exact HB.out)))); have n2_ := Aside0.mk (below_step (by repeat (first | (with_reducible first | exact HB.out | apply below_alloc | apply pw_below_drewN | apply below_drew1) | exact HB.out)) hb); clear HO410; clear HB; have HO410 := n0_; have HO414 := n1_; have HB := n2_; clear n0_ n1_ n2_; (try clear hb); (try clear hb2); (try clear hk); (try clear hi); (try clear ho0); obtain ⟨Ao24, co24, eo24⟩ := Kd.R_slice HO410.out; subst eo24; obtain ⟨Ao25, co25, eo25⟩ := Kd.R_slice HO414.out; subst eo25) | ((with_reducible refine gate_callee (f := 20) rfl ?_); refine goesL_ (some 59) rfl rfl Try.func20 (by kernel_rfl) rfl #[.agg #[.bool t407, .slice Ao24 t408.length co24], .agg #[.bool t411, .slice Ao25 t412.length co25]] rfl (by (try simp only [List.map_toArray, List.map_cons, List.map_nil]); first | done | rfl | (simp only [List.length_drop, List.length_take]; rfl)) ?_; (with_reducible refine (windhoverref00_Times.calls kj10 t407 _ _ t408 t411 _ _ t412 t415 t416 _ ?side1 ?side2 ?side3 ?side4 A19.out).mono ?_); (case side1 => repeat (first | exact (Kd.R_reads' HO410.out).2.2 | (with_reducible refine Kd.C_alloc ?_ _) | (with_reducible refine Kd.C_drewN ?_ _) | (with_reducible refine Kd.C_drew ?_))); (case side2 => exact (Kd.R_reads' HO410.out).2.1); (case side3 => repeat (first | exact (Kd.R_reads' HO414.out).2.2 | (with_reducible refine Kd.C_alloc ?_ _) | (with_reducible refine Kd.C_drewN ?_ _) | (with_reducible refine Kd.C_drew ?_))); (case side4 => exact (Kd.R_reads' HO414.out).2.1); rintro e w26 ⟨v417, rfl, ho0, hb⟩; refine ⟨_, rfl, ?_⟩; have n0_ := Aside0.mk (Kd.R_elder' (by (with_reducible repeat (first | apply Kd.R_alloc | apply Kd.R_drewN | apply Kd.R_drew)); exact HO410.out) (Kd.R_base ho0) hb); have n1_ := Aside0.mk (Kd.R_elder' (by (with_reducible repeat (first | apply Kd.R_alloc | apply Kd.R_drewN | apply Kd.R_drew)); exact HO414.out) (Kd.R_base ho0) hb); have n2_ := Aside0.mk (Kd.R_lower (Kd.R_new' (Kd.R_new' ho0 (Kd.R_lt (by (with_reducible repeat (first | apply Kd.R_alloc | apply Kd.R_drewN | apply Kd.R_drew)); exact HO410.out))) (Kd.R_lt (by (with_reducible repeat (first | apply Kd.R_alloc | apply Kd.R_drewN | apply Kd.R_drew)); exact HO414.out))) (below_size (by repeat (first | (with_reducible first | exact HB.out | apply below_alloc | apply pw_below_drewN | apply below_drew1) | exact HB.out)))); have n3_ := Aside0.mk (below_step (by repeat (first | (with_reducible first | exact HB.out | apply below_alloc | apply pw_below_drewN | apply below_drew1) | exact HB.out)) hb); clear HO410; clear HO414; clear HB; have HO410 := n0_; have HO414 := n1_; have HO418 := n2_; have HB := n3_; clear n0_ n1_ n2_ n3_; (try clear hb); (try clear hb2); (try clear hk); (try clear hi); (try clear ho0)) | ((with_reducible refine gate_dst (N := 11) rfl ?_); refine box_event ?hg (N := 11) ?hd (cs := #[.bool false, .slice none 0 0]) (t := 30) ?hr ?_; (case hd => rfl); (case hg => rfl); (case hr => first | (go_simp; done) | (go_simp; rfl)); intro gb419 hg w27 hbox hb; have n0_ := Aside0.mk (Kd.R_below (by (with_reducible repeat (first | apply Kd.R_alloc | apply Kd.R_drewN | apply Kd.R_drew)); exact HO410.out) hb); have n1_ := Aside0.mk (Kd.R_below (by (with_reducible repeat (first | apply Kd.R_alloc | apply Kd.R_drewN | apply Kd.R_drew)); exact HO414.out) hb); have n2_ := Aside0.mk (Kd.R_below (by (with_reducible repeat (first | apply Kd.R_alloc | apply Kd.R_drewN | apply Kd.R_drew)); exact HO418.out) hb); have n3_ := Aside0.mk (below_step (by repeat (first | (with_reducible first | exact HB.out | apply below_alloc | apply pw_below_drewN | apply below_drew1) | exact HB.out)) hb); have n4_ := Aside0.mk (hbox); have n5_ := Aside0.mk ((by rw [hg]; exact (below_size (by repeat (first | (with_reducible first | exact HB.out | apply below_alloc | apply pw_below_drewN | apply below_drew1) | exact HB.out))) : w.heap.size ≤ gb419)); have n6_ := Aside0.mk ((by rw [hg]; exact (below_size (by repeat (first | (with_reducible first | exact HB.out | apply below_alloc | apply pw_below_drewN | apply below_drew1) | exact HB.out))) : w.heap.size ≤ gb419)); clear HO410; clear HO414; clear HO418; clear HB; have HO410 := n0_; have HO414 := n1_; have HO418 := n2_; have HB := n3_; have BK419 := n4_; have GW419 := n5_; have GE419 := n6_; clear n0_ n1_ n2_ n3_ n4_ n5_ n6_; clear hb hbox hg; have hcz28_0 := blk_cells2 (w := w27) (g := gb419) BK419.out; have hfz28_0 := blk_frozen BK419.out; obtain ⟨Ao29, co29, eo29⟩ := Kd.R_slice HO418.out; subst eo29) | ((with_reducible refine gate_callee (f := 21) rfl ?_); refine goesL_ (some 61) rfl rfl Try.func21 (by kernel_rfl) rfl #[.int .i64 a2] rfl (by (try simp only [List.map_toArray, List.map_cons, List.map_nil]); first | done | rfl | (simp only [List.length_drop, List.length_take]; rfl)) ?_; (with_reducible refine (windhoverref00_Of.calls kj10 a2 t420 t421 _ A20.out).mono ?_); rintro e w30 ⟨v422, rfl, ho0, hb⟩; refine ⟨_, rfl, ?_⟩; have n0_ := Aside0.mk (Kd.R_elder' (by (with_reducible repeat (first | apply Kd.R_alloc | apply Kd.R_drewN | apply Kd.R_drew)); exact (Kd.R_mono (Kd.R_far (p := ⟨gb419, 1, none⟩) (Kd.R_far (p := ⟨gb419, 0, none⟩) (Kd.R_types HO410.out BK419.out (by decide)) (fun _ hk => hk.2) (.bool t415)) (fun _ hk => hk.2) (.slice Ao29 t416.length co29)) (fun _ h_ => h_.1))) (Kd.R_base ho0) hb); have n1_ := Aside0.mk (Kd.R_elder' (by (with_reducible repeat (first | apply Kd.R_alloc | apply Kd.R_drewN | apply Kd.R_drew)); exact (Kd.R_mono (Kd.R_far (p := ⟨gb419, 1, none⟩) (Kd.R_far (p := ⟨gb419, 0, none⟩) (Kd.R_types HO414.out BK419.out (by decide)) (fun _ hk => hk.2) (.bool t415)) (fun _ hk => hk.2) (.slice Ao29 t416.length co29)) (fun _ h_ => h_.1))) (Kd.R_base ho0) hb); have n2_ := Aside0.mk (Kd.R_elder' (by (with_reducible repeat (first | apply Kd.R_alloc | apply Kd.R_drewN | apply Kd.R_drew)); exact (Kd.R_mono (Kd.R_far (p := ⟨gb419, 1, none⟩) (Kd.R_far (p := ⟨gb419, 0, none⟩) (Kd.R_types HO418.out BK419.out (by decide)) (fun _ hk => hk.2) (.bool t415)) (fun _ hk => hk.2) (.slice Ao29 t416.length co29)) (fun _ h_ => h_.1))) (Kd.R_base ho0) hb); have n3_ := Aside0.mk (Kd.R_lower (Kd.R_new' (Kd.R_new' (Kd.R_new' ho0 (Kd.R_lt (by (with_reducible repeat (first | apply Kd.R_alloc | apply Kd.R_drewN | apply Kd.R_drew)); exact (Kd.R_mono (Kd.R_far (p := ⟨gb419, 1, none⟩) (Kd.R_far (p := ⟨gb419, 0, none⟩) (Kd.R_types HO410.out BK419.out (by decide)) (fun _ hk => hk.2) (.bool t415)) (fun _ hk => hk.2) (.slice Ao29 t416.length co29)) (fun _ h_ => h_.1))))) (Kd.R_lt (by (with_reducible repeat (first | apply Kd.R_alloc | apply Kd.R_drewN | apply Kd.R_drew)); exact (Kd.R_mono (Kd.R_far (p := ⟨gb419, 1, none⟩) (Kd.R_far (p := ⟨gb419, 0, none⟩) (Kd.R_types HO414.out BK419.out (by decide)) (fun _ hk => hk.2) (.bool t415)) (fun _ hk => hk.2) (.slice Ao29 t416.length co29)) (fun _ h_ => h_.1))))) (Kd.R_lt (by (with_reducible repeat (first | apply Kd.R_alloc | apply Kd.R_drewN | apply Kd.R_drew)); exact (Kd.R_mono (Kd.R_far (p := ⟨gb419, 1, none⟩) (Kd.R_far (p := ⟨gb419, 0, none⟩) (Kd.R_types HO418.out BK419.out (by decide)) (fun _ hk => hk.2) (.bool t415)) (fun _ hk => hk.2) (.slice Ao29 t416.length co29)) (fun _ h_ => h_.1))))) (below_size (by repeat (first | (with_reducible first | exact HB.out | apply below_alloc | apply pw_below_drewN | apply below_drew1 | refine below_set ?_ GE419.out) | exact HB.out)))); have n4_ := Aside0.mk (blk_below (g := gb419) (o := .cells #[.bool t415, .slice Ao29 t416.length co29] 30 (0, 0)) (by (with_reducible repeat (first | refine blk_drewN ?_ _ | refine blk_drew ?_ | refine blk_alloc ?_ _)); refine blk_put (cs := #[.bool t415, .slice none 0 0]) ?_ 1 _ rfl; (with_reducible repeat (first | refine blk_drewN ?_ _ | refine blk_drew ?_ | refine blk_alloc ?_ _)); refine blk_put (cs := #[.bool false, .slice none 0 0]) ?_ 0 _ rfl; (with_reducible repeat (first | refine blk_drewN ?_ _ | refine blk_drew ?_ | refine blk_alloc ?_ _)); exact BK419.out) hb); have n5_ := Aside0.mk (below_step (by repeat (first | (with_reducible first | exact HB.out | apply below_alloc | apply pw_below_drewN | apply below_drew1 | refine below_set ?_ GE419.out) | exact HB.out)) hb); clear HO410; clear HO414; clear HO418; clear BK419; clear HB; have HO410 := n0_; have HO414 := n1_; have HO418 := n2_; have HO423 := n3_; have BK419 := n4_; have HB := n5_; clear n0_ n1_ n2_ n3_ n4_ n5_; (try clear hb); (try clear hb2); (try clear hk); (try clear hi); (try clear ho0)) | ((with_reducible refine gate_dst (N := 12) rfl ?_); refine box_event ?hg (N := 12) ?hd (cs := #[.bool false, .slice none 0 0]) (t := 30) ?hr ?_; (case hd => rfl); (case hg => rfl); (case hr => first | (go_simp; done) | (go_simp; rfl)); intro gb424 hg w31 hbox hb; have n0_ := Aside0.mk (Kd.R_below (by (with_reducible repeat (first | apply Kd.R_alloc | apply Kd.R_drewN | apply Kd.R_drew)); exact HO410.out) hb); have n1_ := Aside0.mk (Kd.R_below (by (with_reducible repeat (first | apply Kd.R_alloc | apply Kd.R_drewN | apply Kd.R_drew)); exact HO414.out) hb); have n2_ := Aside0.mk (Kd.R_below (by (with_reducible repeat (first | apply Kd.R_alloc | apply Kd.R_drewN | apply Kd.R_drew)); exact HO418.out) hb); have n3_ := Aside0.mk (Kd.R_below (by (with_reducible repeat (first | apply Kd.R_alloc | apply Kd.R_drewN | apply Kd.R_drew)); exact HO423.out) hb); have n4_ := Aside0.mk (blk_below (g := gb419) (o := .cells #[.bool t415, .slice Ao29 t416.length co29] 30 (0, 0)) (by (with_reducible repeat (first | refine blk_drewN ?_ _ | refine blk_drew ?_ | refine blk_alloc ?_ _)); exact BK419.out) hb); have n5_ := Aside0.mk (below_step (by repeat (first | (with_reducible first | exact HB.out | apply below_alloc | apply pw_below_drewN | apply below_drew1 | refine below_set ?_ GE419.out) | exact HB.out)) hb); have n6_ := Aside0.mk (hbox); have n7_ := Aside0.mk ((by rw [hg]; exact (below_size (by repeat (first | (with_reducible first | exact HB.out | apply below_alloc | apply pw_below_drewN | apply below_drew1 | refine below_set ?_ GE419.out) | exact HB.out))) : w.heap.size ≤ gb424)); have n8_ := Aside0.mk ((by rw [hg]; exact (below_size (by repeat (first | (with_reducible first | exact HB.out | apply below_alloc | apply pw_below_drewN | apply below_drew1 | refine below_set ?_ GE419.out) | exact HB.out))) : w.heap.size ≤ gb424)); have n9_ := Aside0.mk ((by rw [hg]; exact Nat.ne_of_lt (blk_lt (g := gb419) (o := .cells #[.bool t415, .slice Ao29 t416.length co29] 30 (0, 0)) (by (with_reducible repeat (first | refine blk_drewN ?_ _ | refine blk_drew ?_ | refine blk_alloc ?_ _)); exact BK419.out)) : gb419 ≠ gb424)); have n10_ := Aside0.mk ((by rw [hg]; exact Nat.ne_of_gt (blk_lt (g := gb419) (o := .cells #[.bool t415, .slice Ao29 t416.length co29] 30 (0, 0)) (by (with_reducible repeat (first | refine blk_drewN ?_ _ | refine blk_drew ?_ | refine blk_alloc ?_ _)); exact BK419.out)) : gb424 ≠ gb419)); clear HO410; clear HO414; clear HO418; clear HO423; clear BK419; clear HB; have HO410 := n0_; have HO414 := n1_; have HO418 := n2_; have HO423 := n3_; have BK419 := n4_; have HB := n5_; have BK424 := n6_; have GW424 := n7_; have GE424 := n8_; have NB419_424 := n9_; have NB424_419 := n10_; clear n0_ n1_ n2_ n3_ n4_ n5_ n6_ n7_ n8_ n9_ n10_; clear hb hbox hg; have hnb32 := NB424_419.out; have hnc32 := NB419_424.out; have hcz33_0 := blk_cells2 (w := w31) (g := gb424) BK424.out; have hfz33_0 := blk_frozen BK424.out; obtain ⟨Ao34, co34, eo34⟩ := Kd.R_slice HO423.out; subst eo34))
              (try simp only [Act.put, List.setIfInBounds_toArray, List.set_cons_zero, List.set_cons_succ])
              go_cut [] (fun wc => ∃ (kq : Nat) (x420000_20 : Bool) (x420001_20 : List Int) (x425000_20 : Bool) (x425001_20 : List Int) (u420001 : Value) (u425001 : Value), Aside0 (windhoverlaw01_FixShares.j2 kq t402 x420000_20 x420001_20 x425000_20 x425001_20 = some r) ∧ Aside0 (kq ≤ kj10) ∧ Aside0 (Kd.R (Kd.int .i64) 3 wc w.heap.size (fun k_ => some k_ ≠ (u425001 : Value).ownBlock) u420001 x420001_20) ∧ Aside0 (Kd.R (Kd.int .i64) 3 wc w.heap.size (fun k_ => some k_ ≠ (u420001 : Value).ownBlock) u425001 x425001_20) ∧ Aside0 (wc.heap[gb419]? = some (.cells #[.bool x420000_20, u420001] 30 (0, 0))) ∧ Aside0 (wc.heap[gb424]? = some (.cells #[.bool x425000_20, u425001] 30 (0, 0))) ∧ Aside0 (Below w.heap.size w wc))
              case first =>
                have H := HC21.out
                clear HC21
                by_cases c35 : a2 < 0
                · rw [if_pos c35] at H
                  have c35b0 : decide (a2 < 0) = true := decide_eq_true c35
                  clear c35
                  (first | rw [c35b0] | (simp only [i64_w, i32_w]; rw [c35b0]) | skip)
                  replace H := Option.bind_eq_some_iff.mp H
                  obtain ⟨⟨t425, t426⟩, A360, H⟩ := H
                  replace H : ((windhoverref00_Minus.f kj10 t425 t426 t415 t416).bind fun bt429 => ((windhoverref00_Of.f kj10 0).bind fun bt433 => ((windhoverref00_Minus.f kj10 bt433.1 bt433.2 t420 t421).bind fun bt437 => (windhoverlaw01_FixShares.j2 kj10 t402 bt429.1 bt429.2 bt437.1 bt437.2)))) = some r := H
                  have A36 := Aside0.mk A360
                  clear A360
                  replace H := Option.bind_eq_some_iff.mp H
                  obtain ⟨⟨t429, t430⟩, A370, H⟩ := H
                  replace H : ((windhoverref00_Of.f kj10 0).bind fun bt433 => ((windhoverref00_Minus.f kj10 bt433.1 bt433.2 t420 t421).bind fun bt437 => (windhoverlaw01_FixShares.j2 kj10 t402 t429 t430 bt437.1 bt437.2))) = some r := H
                  have A37 := Aside0.mk A370
                  clear A370
                  replace H := Option.bind_eq_some_iff.mp H
                  obtain ⟨⟨t433, t434⟩, A380, H⟩ := H
                  replace H : ((windhoverref00_Minus.f kj10 t433 t434 t420 t421).bind fun bt437 => (windhoverlaw01_FixShares.j2 kj10 t402 t429 t430 bt437.1 bt437.2)) = some r := H
                  have A38 := Aside0.mk A380
                  clear A380
                  replace H := Option.bind_eq_some_iff.mp H
                  obtain ⟨⟨t437, t438⟩, A390, H⟩ := H
                  replace H : (windhoverlaw01_FixShares.j2 kj10 t402 t429 t430 t437 t438) = some r := H
                  have A39 := Aside0.mk A390
                  clear A390
                  have H' := Aside0.mk H
                  clear H
                  try go_wp2
                  have n0_ : Aside0 (Kd.R (Kd.int .i64) 3 ((w31.setCell ⟨gb424, 0, none⟩ (.bool t420)).setCell ⟨gb424, 1, none⟩ (.slice Ao34 t421.length co34)) w.heap.size (fun k_ => some k_ ≠ (.slice Ao25 t412.length co25 : Value).ownBlock ∧ some k_ ≠ (.slice Ao29 t416.length co29 : Value).ownBlock ∧ some k_ ≠ (.slice Ao34 t421.length co34 : Value).ownBlock) (.slice Ao24 t408.length co24) t408) := ⟨by (with_reducible repeat (first | apply Kd.R_alloc | apply Kd.R_drewN | apply Kd.R_drew)); exact Kd.R_mono (Kd.R_far (p := ⟨gb424, 1, none⟩) (Kd.R_far (p := ⟨gb424, 0, none⟩) (Kd.R_types HO410.out BK424.out (by decide)) (fun _ hk => hk.2) (.bool t420)) (fun _ hk => hk.2) (.slice Ao34 t421.length co34)) (fun _ hk => ⟨hk.1.1.1.2, ⟨hk.1.1.2, hk.1.2⟩⟩)⟩
                  have n1_ : Aside0 (Kd.R (Kd.int .i64) 3 ((w31.setCell ⟨gb424, 0, none⟩ (.bool t420)).setCell ⟨gb424, 1, none⟩ (.slice Ao34 t421.length co34)) w.heap.size (fun k_ => some k_ ≠ (.slice Ao24 t408.length co24 : Value).ownBlock ∧ some k_ ≠ (.slice Ao29 t416.length co29 : Value).ownBlock ∧ some k_ ≠ (.slice Ao34 t421.length co34 : Value).ownBlock) (.slice Ao25 t412.length co25) t412) := ⟨by (with_reducible repeat (first | apply Kd.R_alloc | apply Kd.R_drewN | apply Kd.R_drew)); exact Kd.R_mono (Kd.R_far (p := ⟨gb424, 1, none⟩) (Kd.R_far (p := ⟨gb424, 0, none⟩) (Kd.R_types HO414.out BK424.out (by decide)) (fun _ hk => hk.2) (.bool t420)) (fun _ hk => hk.2) (.slice Ao34 t421.length co34)) (fun _ hk => ⟨hk.1.1.1.2, ⟨hk.1.1.2, hk.1.2⟩⟩)⟩
                  have n2_ : Aside0 (Kd.R (Kd.int .i64) 3 ((w31.setCell ⟨gb424, 0, none⟩ (.bool t420)).setCell ⟨gb424, 1, none⟩ (.slice Ao34 t421.length co34)) w.heap.size (fun k_ => some k_ ≠ (.slice Ao24 t408.length co24 : Value).ownBlock ∧ some k_ ≠ (.slice Ao25 t412.length co25 : Value).ownBlock ∧ some k_ ≠ (.slice Ao34 t421.length co34 : Value).ownBlock) (.slice Ao29 t416.length co29) t416) := ⟨by (with_reducible repeat (first | apply Kd.R_alloc | apply Kd.R_drewN | apply Kd.R_drew)); exact Kd.R_mono (Kd.R_far (p := ⟨gb424, 1, none⟩) (Kd.R_far (p := ⟨gb424, 0, none⟩) (Kd.R_types HO418.out BK424.out (by decide)) (fun _ hk => hk.2) (.bool t420)) (fun _ hk => hk.2) (.slice Ao34 t421.length co34)) (fun _ hk => ⟨hk.1.1.1.2, ⟨hk.1.1.2, hk.1.2⟩⟩)⟩
                  have n3_ : Aside0 (Kd.R (Kd.int .i64) 3 ((w31.setCell ⟨gb424, 0, none⟩ (.bool t420)).setCell ⟨gb424, 1, none⟩ (.slice Ao34 t421.length co34)) w.heap.size (fun k_ => some k_ ≠ (.slice Ao24 t408.length co24 : Value).ownBlock ∧ some k_ ≠ (.slice Ao25 t412.length co25 : Value).ownBlock ∧ some k_ ≠ (.slice Ao29 t416.length co29 : Value).ownBlock) (.slice Ao34 t421.length co34) t421) := ⟨by (with_reducible repeat (first | apply Kd.R_alloc | apply Kd.R_drewN | apply Kd.R_drew)); exact Kd.R_mono (Kd.R_far (p := ⟨gb424, 1, none⟩) (Kd.R_far (p := ⟨gb424, 0, none⟩) (Kd.R_types HO423.out BK424.out (by decide)) (fun _ hk => hk.2) (.bool t420)) (fun _ hk => hk.2) (.slice Ao34 t421.length co34)) (fun _ hk => ⟨hk.1.1.1.2, ⟨hk.1.1.2, hk.1.2⟩⟩)⟩
                  have n4_ : Aside0 (((w31.setCell ⟨gb424, 0, none⟩ (.bool t420)).setCell ⟨gb424, 1, none⟩ (.slice Ao34 t421.length co34)).heap[gb419]? = some (.cells #[.bool t415, .slice Ao29 t416.length co29] 30 (0, 0))) := ⟨by (with_reducible repeat (first | refine blk_drewN ?_ _ | refine blk_drew ?_ | refine blk_alloc ?_ _)); refine blk_far ?_ NB419_424.out _; (with_reducible repeat (first | refine blk_drewN ?_ _ | refine blk_drew ?_ | refine blk_alloc ?_ _)); refine blk_far ?_ NB419_424.out _; (with_reducible repeat (first | refine blk_drewN ?_ _ | refine blk_drew ?_ | refine blk_alloc ?_ _)); exact BK419.out⟩
                  have n5_ : Aside0 (((w31.setCell ⟨gb424, 0, none⟩ (.bool t420)).setCell ⟨gb424, 1, none⟩ (.slice Ao34 t421.length co34)).heap[gb424]? = some (.cells #[.bool t420, .slice Ao34 t421.length co34] 30 (0, 0))) := ⟨by (with_reducible repeat (first | refine blk_drewN ?_ _ | refine blk_drew ?_ | refine blk_alloc ?_ _)); refine blk_put (cs := #[.bool t420, .slice none 0 0]) ?_ 1 _ rfl; (with_reducible repeat (first | refine blk_drewN ?_ _ | refine blk_drew ?_ | refine blk_alloc ?_ _)); refine blk_put (cs := #[.bool false, .slice none 0 0]) ?_ 0 _ rfl; (with_reducible repeat (first | refine blk_drewN ?_ _ | refine blk_drew ?_ | refine blk_alloc ?_ _)); exact BK424.out⟩
                  have n6_ : Aside0 (Below w.heap.size w ((w31.setCell ⟨gb424, 0, none⟩ (.bool t420)).setCell ⟨gb424, 1, none⟩ (.slice Ao34 t421.length co34))) := ⟨by repeat (first | (with_reducible first | exact HB.out | apply below_alloc | apply pw_below_drewN | apply below_drew1 | refine below_set ?_ GE419.out | refine below_set ?_ GE424.out) | exact HB.out)⟩
                  (try clear HO410)
                  (try clear HO414)
                  (try clear HO418)
                  (try clear HO423)
                  (try clear BK419)
                  (try clear BK424)
                  (try clear HB)
                  generalize ((w31.setCell ⟨gb424, 0, none⟩ (.bool t420)).setCell ⟨gb424, 1, none⟩ (.slice Ao34 t421.length co34)) = w40 at n0_ n1_ n2_ n3_ n4_ n5_ n6_ ⊢
                  have HO410 := n0_
                  have HO414 := n1_
                  have HO418 := n2_
                  have HO423 := n3_
                  have BK419 := n4_
                  have BK424 := n5_
                  have HB := n6_
                  clear n0_ n1_ n2_ n3_ n4_ n5_ n6_
                  have n0_ := Aside0.mk (Kd.R_drew HO410.out)
                  have n1_ := Aside0.mk (Kd.R_drew HO414.out)
                  have n2_ := Aside0.mk (Kd.R_drew HO418.out)
                  have n3_ := Aside0.mk (Kd.R_drew HO423.out)
                  have n4_ := Aside0.mk (blk_drew BK419.out)
                  have n5_ := Aside0.mk (blk_drew BK424.out)
                  have n6_ := Aside0.mk (below_drew1 HB.out)
                  clear HO410
                  clear HO414
                  clear HO418
                  clear HO423
                  clear BK419
                  clear BK424
                  clear HB
                  have HO410 := n0_
                  have HO414 := n1_
                  have HO418 := n2_
                  have HO423 := n3_
                  have BK419 := n4_
                  have BK424 := n5_
                  have HB := n6_
                  clear n0_ n1_ n2_ n3_ n4_ n5_ n6_
                  refine start_ (n := 4) (S := fun w' => w'.cell? ⟨gb419, 0, none⟩ = some (.bool t415) ∧ w'.cell? ⟨gb419, 1, none⟩ = some (.slice Ao29 t416.length co29)) (ds := [3]) #[false, false, false, false] (by kernel_rfl) rfl rfl ⟨(blk_cell BK419.out 0).trans rfl, (blk_cell BK419.out 1).trans rfl⟩ (fun hHeld => ?_)
                  generalize w40.drew = w41 at HO410 HO414 HO418 HO423 BK419 BK424 HB hHeld ⊢
                  refine take_ (i := 1) (N := some 65) (v := ?_) (a' := ?_) #[false, true, false, false] rfl rfl (by kernel_rfl) (fun _ _ _ h => h) (Or.inl ⟨by rfl, ?_⟩) hHeld ?_ ?_
                  rotate_left
                  · rintro w' ⟨s0, s1⟩
                    go_simp
                    with_reducible rfl
                  rotate_left
                  · simp only [Act.put, List.setIfInBounds_toArray, List.set_cons_zero, List.set_cons_succ, i64_w, i32_w]
                    rfl
                  refine one_ (i := 0) (N := some 64) #[true, true, false, false] rfl rfl (by kernel_rfl) (by decide) (fun K hK => ?_)
                  refine goes_ Try.func21 (by kernel_rfl) rfl #[.int .i64 0] (by rfl) rfl rfl (by (try simp only [List.map_toArray, List.map_cons, List.map_nil]); first | done | rfl | (simp only [List.length_drop, List.length_take]; rfl)) ?_
                  with_reducible refine (windhoverref00_Of.calls kj10 0 t425 t426 _ A36.out).mono ?_
                  rintro e w42 ⟨v427, rfl, ho0, hb⟩
                  refine ⟨_, rfl, ?_⟩
                  have n0_ := Aside0.mk (Kd.R_elder' (by (with_reducible repeat (first | apply Kd.R_alloc | apply Kd.R_drewN | apply Kd.R_drew)); exact HO410.out) (Kd.R_base ho0) hb)
                  have n1_ := Aside0.mk (Kd.R_elder' (by (with_reducible repeat (first | apply Kd.R_alloc | apply Kd.R_drewN | apply Kd.R_drew)); exact HO414.out) (Kd.R_base ho0) hb)
                  have n2_ := Aside0.mk (Kd.R_elder' (by (with_reducible repeat (first | apply Kd.R_alloc | apply Kd.R_drewN | apply Kd.R_drew)); exact HO418.out) (Kd.R_base ho0) hb)
                  have n3_ := Aside0.mk (Kd.R_elder' (by (with_reducible repeat (first | apply Kd.R_alloc | apply Kd.R_drewN | apply Kd.R_drew)); exact HO423.out) (Kd.R_base ho0) hb)
                  have n4_ := Aside0.mk (Kd.R_lower (Kd.R_new' (Kd.R_new' (Kd.R_new' (Kd.R_new' ho0 (Kd.R_lt (by (with_reducible repeat (first | apply Kd.R_alloc | apply Kd.R_drewN | apply Kd.R_drew)); exact HO410.out))) (Kd.R_lt (by (with_reducible repeat (first | apply Kd.R_alloc | apply Kd.R_drewN | apply Kd.R_drew)); exact HO414.out))) (Kd.R_lt (by (with_reducible repeat (first | apply Kd.R_alloc | apply Kd.R_drewN | apply Kd.R_drew)); exact HO418.out))) (Kd.R_lt (by (with_reducible repeat (first | apply Kd.R_alloc | apply Kd.R_drewN | apply Kd.R_drew)); exact HO423.out))) (below_size (by repeat (first | (with_reducible first | exact HB.out | apply below_alloc | apply pw_below_drewN | apply below_drew1 | refine below_set ?_ GE419.out | refine below_set ?_ GE424.out) | exact HB.out))))
                  have n5_ := Aside0.mk (blk_below (g := gb419) (o := .cells #[.bool t415, .slice Ao29 t416.length co29] 30 (0, 0)) (by (with_reducible repeat (first | refine blk_drewN ?_ _ | refine blk_drew ?_ | refine blk_alloc ?_ _)); exact BK419.out) hb)
                  have n6_ := Aside0.mk (blk_below (g := gb424) (o := .cells #[.bool t420, .slice Ao34 t421.length co34] 30 (0, 0)) (by (with_reducible repeat (first | refine blk_drewN ?_ _ | refine blk_drew ?_ | refine blk_alloc ?_ _)); exact BK424.out) hb)
                  have n7_ := Aside0.mk (below_step (by repeat (first | (with_reducible first | exact HB.out | apply below_alloc | apply pw_below_drewN | apply below_drew1 | refine below_set ?_ GE419.out | refine below_set ?_ GE424.out) | exact HB.out)) hb)
                  clear HO410
                  clear HO414
                  clear HO418
                  clear HO423
                  clear BK419
                  clear BK424
                  clear HB
                  have HO410 := n0_
                  have HO414 := n1_
                  have HO418 := n2_
                  have HO423 := n3_
                  have HO428 := n4_
                  have BK419 := n5_
                  have BK424 := n6_
                  have HB := n7_
                  clear n0_ n1_ n2_ n3_ n4_ n5_ n6_ n7_
                  (try clear hb)
                  (try clear hb2)
                  (try clear hk)
                  (try clear hi)
                  (try clear ho0)
                  obtain ⟨Ao43, co43, eo43⟩ := Kd.R_slice HO428.out
                  (first | subst eo43 | (injection eo43 with f1_ f2_ f3_; have f4_ := f1_.symm; have f5_ := f3_.symm; clear f1_ f2_ f3_; subst f4_; subst f5_))
                  refine hK.out _ _ ⟨(blk_cell BK419.out 0).trans rfl, (blk_cell BK419.out 1).trans rfl⟩ (fun hHeld => ?_)
                  clear hK K
                  refine norm_ (a' := ?_) ?_ ?_
                  rotate_left
                  · show Act.put _ (some 64) _ = _
                    simp only [Act.put, List.setIfInBounds_toArray, List.set_cons_zero, List.set_cons_succ, i64_w, i32_w]
                    rfl
                  refine one_ (i := 2) (N := some 66) #[true, true, true, false] rfl rfl (by kernel_rfl) (by decide) (fun K hK => ?_)
                  refine goes_ Try.func25 (by kernel_rfl) rfl #[.agg #[.bool t425, .slice Ao43 t426.length co43], .agg #[.bool t415, .slice Ao29 t416.length co29]] (by rfl) rfl rfl (by (try simp only [List.map_toArray, List.map_cons, List.map_nil]); first | done | rfl | (simp only [List.length_drop, List.length_take]; rfl)) ?_
                  with_reducible refine (windhoverref00_Minus.calls kj10 t425 _ _ t426 t415 (fun k_ => some k_ = (.slice Ao29 t416.length co29 : Value).ownBlock) (.slice Ao29 t416.length co29) t416 t429 t430 w _ ?side1 ?side2 ?side3 ?side4 A37.out).mono ?_
                  (case side1 => repeat (first | (with_reducible first | exact HB.out | apply below_alloc | apply pw_below_drewN | apply below_drew1 | refine below_set ?_ GE419.out | refine below_set ?_ GE424.out) | exact HB.out))
                  (case side2 => exact Kd.C_kept_own (HO428.out) (fun k_ hk_ hs_ => (hk_.1.2) hs_))
                  (case side3 => exact (Kd.R_reads' HO428.out).2.1)
                  (case side4 => exact Kd.R_tight rfl HO418.out)
                  rintro e w44 ⟨v431, rfl, ho0, hb, hkp⟩
                  refine ⟨_, rfl, ?_⟩
                  have n0_ := Aside0.mk (Kd.R_mono (ok' := fun k_ => some k_ ≠ (.slice Ao25 t412.length co25 : Value).ownBlock ∧ some k_ ≠ (.slice Ao34 t421.length co34 : Value).ownBlock ∧ some k_ ≠ (.slice Ao43 t426.length co43 : Value).ownBlock ∧ some k_ ≠ (v431 : Value).ownBlock) (Kd.R_keptB (HO410.out) hkp (fun k_ hk_ hs_ => (hk_.1.2.1) hs_)) (fun k_ hk_ => ⟨hk_.1.1.1, hk_.1.1.2.2, hk_.1.2, fun e_ => Or.elim (ho0.1 k_ e_.symm) (fun hs_ => hk_.2.1 hs_) (fun hn_ => Nat.not_le.2 hk_.2.2 hn_)⟩))
                  have n1_ := Aside0.mk (Kd.R_mono (ok' := fun k_ => some k_ ≠ (.slice Ao24 t408.length co24 : Value).ownBlock ∧ some k_ ≠ (.slice Ao34 t421.length co34 : Value).ownBlock ∧ some k_ ≠ (.slice Ao43 t426.length co43 : Value).ownBlock ∧ some k_ ≠ (v431 : Value).ownBlock) (Kd.R_keptB (HO414.out) hkp (fun k_ hk_ hs_ => (hk_.1.2.1) hs_)) (fun k_ hk_ => ⟨hk_.1.1.1, hk_.1.1.2.2, hk_.1.2, fun e_ => Or.elim (ho0.1 k_ e_.symm) (fun hs_ => hk_.2.1 hs_) (fun hn_ => Nat.not_le.2 hk_.2.2 hn_)⟩))
                  have n2_ := Aside0.mk (blk_kept (by (with_reducible repeat (first | refine blk_drewN ?_ _ | refine blk_drew ?_ | refine blk_alloc ?_ _)); exact BK419.out) hkp (fun hs_ => (fun e_ => (Kd.R_ne HO418.out BK419.out (by decide)) e_) hs_))
                  have n3_ := Aside0.mk (Kd.R_mono (ok' := fun k_ => some k_ ≠ (.slice Ao24 t408.length co24 : Value).ownBlock ∧ some k_ ≠ (.slice Ao25 t412.length co25 : Value).ownBlock ∧ some k_ ≠ (.slice Ao43 t426.length co43 : Value).ownBlock ∧ some k_ ≠ (v431 : Value).ownBlock) (Kd.R_keptB (HO423.out) hkp (fun k_ hk_ hs_ => (hk_.1.2.2) hs_)) (fun k_ hk_ => ⟨hk_.1.1.1, hk_.1.1.2.1, hk_.1.2, fun e_ => Or.elim (ho0.1 k_ e_.symm) (fun hs_ => hk_.2.1 hs_) (fun hn_ => Nat.not_le.2 hk_.2.2 hn_)⟩))
                  have n4_ := Aside0.mk (blk_kept (by (with_reducible repeat (first | refine blk_drewN ?_ _ | refine blk_drew ?_ | refine blk_alloc ?_ _)); exact BK424.out) hkp (fun hs_ => (fun e_ => (Kd.R_ne HO418.out BK424.out (by decide)) e_) hs_))
                  have n5_ := Aside0.mk (Kd.R_mono (ok' := fun k_ => some k_ ≠ (.slice Ao24 t408.length co24 : Value).ownBlock ∧ some k_ ≠ (.slice Ao25 t412.length co25 : Value).ownBlock ∧ some k_ ≠ (.slice Ao34 t421.length co34 : Value).ownBlock ∧ some k_ ≠ (v431 : Value).ownBlock) (Kd.R_keptB (HO428.out) hkp (fun k_ hk_ hs_ => (hk_.1.2) hs_)) (fun k_ hk_ => ⟨hk_.1.1.1.1.2, hk_.1.1.1.2, hk_.1.2, fun e_ => Or.elim (ho0.1 k_ e_.symm) (fun hs_ => hk_.2.1 hs_) (fun hn_ => Nat.not_le.2 hk_.2.2 hn_)⟩))
                  have n6_ := Aside0.mk (Kd.R_mono (ok' := fun k_ => some k_ ≠ (.slice Ao24 t408.length co24 : Value).ownBlock ∧ some k_ ≠ (.slice Ao25 t412.length co25 : Value).ownBlock ∧ some k_ ≠ (.slice Ao34 t421.length co34 : Value).ownBlock ∧ some k_ ≠ (.slice Ao43 t426.length co43 : Value).ownBlock) ho0 (fun k_ hk_ => ⟨Or.elim hk_ (fun hs_ => fun e_ => (((HO410.out).1 k_ e_.symm).1.2.1) hs_) (fun hn_ => (Kd.fresh' (Kd.R_lt (by (with_reducible repeat (first | apply Kd.R_alloc | apply Kd.R_drewN | apply Kd.R_drew)); exact HO410.out)) k_ hn_)), Or.elim hk_ (fun hs_ => fun e_ => (((HO414.out).1 k_ e_.symm).1.2.1) hs_) (fun hn_ => (Kd.fresh' (Kd.R_lt (by (with_reducible repeat (first | apply Kd.R_alloc | apply Kd.R_drewN | apply Kd.R_drew)); exact HO414.out)) k_ hn_)), Or.elim hk_ (fun hs_ => fun e_ => (((HO423.out).1 k_ e_.symm).1.2.2) hs_) (fun hn_ => (Kd.fresh' (Kd.R_lt (by (with_reducible repeat (first | apply Kd.R_alloc | apply Kd.R_drewN | apply Kd.R_drew)); exact HO423.out)) k_ hn_)), Or.elim hk_ (fun hs_ => fun e_ => (((HO428.out).1 k_ e_.symm).1.2) hs_) (fun hn_ => (Kd.fresh' (Kd.R_lt (by (with_reducible repeat (first | apply Kd.R_alloc | apply Kd.R_drewN | apply Kd.R_drew)); exact HO428.out)) k_ hn_))⟩))
                  have n7_ := Aside0.mk (hb)
                  clear HO410
                  clear HO414
                  clear BK419
                  clear HO423
                  clear BK424
                  clear HO428
                  clear HB
                  clear HO418
                  have HO410 := n0_
                  have HO414 := n1_
                  have BK419 := n2_
                  have HO423 := n3_
                  have BK424 := n4_
                  have HO428 := n5_
                  have HO432 := n6_
                  have HB := n7_
                  clear n0_ n1_ n2_ n3_ n4_ n5_ n6_ n7_
                  (try clear hb)
                  (try clear hkp)
                  (try clear ho0)
                  obtain ⟨Ao46, co46, eo46⟩ := Kd.R_slice HO432.out
                  (first | subst eo46 | (injection eo46 with f1_ f2_ f3_; have f4_ := f1_.symm; have f5_ := f3_.symm; clear f1_ f2_ f3_; subst f4_; subst f5_))
                  refine hK.out _ _ ⟨(blk_cell BK419.out 0).trans rfl, (blk_cell BK419.out 1).trans rfl⟩ (fun hHeld => ?_)
                  clear hK K
                  refine norm_ (a' := ?_) ?_ ?_
                  rotate_left
                  · show Act.put _ (some 66) _ = _
                    simp only [Act.put, List.setIfInBounds_toArray, List.set_cons_zero, List.set_cons_succ, i64_w, i32_w]
                    rfl
                  refine last_ (i := 3) (N := none) #[true, true, true, true] rfl rfl (by kernel_rfl) (by decide) (fun K hK => ?_)
                  have hs45 : w44.cell? ⟨gb419, 0, none⟩ = some (.bool t415) := (blk_cell BK419.out 0).trans rfl
                  have hfs45 := blk_frozen BK419.out 0
                  have hns45_1 := NB424_419.out
                  have hms45_1 := NB419_424.out
                  have hs47 : w44.cell? ⟨gb419, 1, none⟩ = some (.slice Ao29 t416.length co29) := (blk_cell BK419.out 1).trans rfl
                  have hfs47 := blk_frozen BK419.out 1
                  have hns47_1 := NB424_419.out
                  have hms47_1 := NB419_424.out
                  refine skip_ (w1 := ?_) (by rfl) rfl ?_ ?_
                  rotate_left
                  · go_simp
                    rfl
                  refine hK.out _ _ ?_
                  clear hK K
                  refine done_ (by kernel_rfl) ?_
                  try go_wp2
                  have n0_ : Aside0 (Kd.R (Kd.int .i64) 3 ((w44.setCell ⟨gb419, 0, none⟩ (.bool t429)).setCell ⟨gb419, 1, none⟩ (.slice Ao46 t430.length co46)) w.heap.size (fun k_ => some k_ ≠ (.slice Ao25 t412.length co25 : Value).ownBlock ∧ some k_ ≠ (.slice Ao34 t421.length co34 : Value).ownBlock ∧ some k_ ≠ (.slice Ao43 t426.length co43 : Value).ownBlock ∧ some k_ ≠ (.slice Ao46 t430.length co46 : Value).ownBlock) (.slice Ao24 t408.length co24) t408) := ⟨by (with_reducible repeat (first | apply Kd.R_alloc | apply Kd.R_drewN | apply Kd.R_drew)); exact Kd.R_mono (Kd.R_far (p := ⟨gb419, 1, none⟩) (Kd.R_far (p := ⟨gb419, 0, none⟩) (Kd.R_types HO410.out BK419.out (by decide)) (fun _ hk => hk.2) (.bool t429)) (fun _ hk => hk.2) (.slice Ao46 t430.length co46)) (fun _ hk => ⟨hk.1.1, ⟨hk.1.2.1, ⟨hk.1.2.2.1, hk.1.2.2.2⟩⟩⟩)⟩
                  have n1_ : Aside0 (Kd.R (Kd.int .i64) 3 ((w44.setCell ⟨gb419, 0, none⟩ (.bool t429)).setCell ⟨gb419, 1, none⟩ (.slice Ao46 t430.length co46)) w.heap.size (fun k_ => some k_ ≠ (.slice Ao24 t408.length co24 : Value).ownBlock ∧ some k_ ≠ (.slice Ao34 t421.length co34 : Value).ownBlock ∧ some k_ ≠ (.slice Ao43 t426.length co43 : Value).ownBlock ∧ some k_ ≠ (.slice Ao46 t430.length co46 : Value).ownBlock) (.slice Ao25 t412.length co25) t412) := ⟨by (with_reducible repeat (first | apply Kd.R_alloc | apply Kd.R_drewN | apply Kd.R_drew)); exact Kd.R_mono (Kd.R_far (p := ⟨gb419, 1, none⟩) (Kd.R_far (p := ⟨gb419, 0, none⟩) (Kd.R_types HO414.out BK419.out (by decide)) (fun _ hk => hk.2) (.bool t429)) (fun _ hk => hk.2) (.slice Ao46 t430.length co46)) (fun _ hk => ⟨hk.1.1, ⟨hk.1.2.1, ⟨hk.1.2.2.1, hk.1.2.2.2⟩⟩⟩)⟩
                  have n2_ : Aside0 (Kd.R (Kd.int .i64) 3 ((w44.setCell ⟨gb419, 0, none⟩ (.bool t429)).setCell ⟨gb419, 1, none⟩ (.slice Ao46 t430.length co46)) w.heap.size (fun k_ => some k_ ≠ (.slice Ao24 t408.length co24 : Value).ownBlock ∧ some k_ ≠ (.slice Ao25 t412.length co25 : Value).ownBlock ∧ some k_ ≠ (.slice Ao43 t426.length co43 : Value).ownBlock ∧ some k_ ≠ (.slice Ao46 t430.length co46 : Value).ownBlock) (.slice Ao34 t421.length co34) t421) := ⟨by (with_reducible repeat (first | apply Kd.R_alloc | apply Kd.R_drewN | apply Kd.R_drew)); exact Kd.R_mono (Kd.R_far (p := ⟨gb419, 1, none⟩) (Kd.R_far (p := ⟨gb419, 0, none⟩) (Kd.R_types HO423.out BK419.out (by decide)) (fun _ hk => hk.2) (.bool t429)) (fun _ hk => hk.2) (.slice Ao46 t430.length co46)) (fun _ hk => ⟨hk.1.1, ⟨hk.1.2.1, ⟨hk.1.2.2.1, hk.1.2.2.2⟩⟩⟩)⟩
                  have n3_ : Aside0 (Kd.R (Kd.int .i64) 3 ((w44.setCell ⟨gb419, 0, none⟩ (.bool t429)).setCell ⟨gb419, 1, none⟩ (.slice Ao46 t430.length co46)) w.heap.size (fun k_ => some k_ ≠ (.slice Ao24 t408.length co24 : Value).ownBlock ∧ some k_ ≠ (.slice Ao25 t412.length co25 : Value).ownBlock ∧ some k_ ≠ (.slice Ao34 t421.length co34 : Value).ownBlock ∧ some k_ ≠ (.slice Ao46 t430.length co46 : Value).ownBlock) (.slice Ao43 t426.length co43) t426) := ⟨by (with_reducible repeat (first | apply Kd.R_alloc | apply Kd.R_drewN | apply Kd.R_drew)); exact Kd.R_mono (Kd.R_far (p := ⟨gb419, 1, none⟩) (Kd.R_far (p := ⟨gb419, 0, none⟩) (Kd.R_types HO428.out BK419.out (by decide)) (fun _ hk => hk.2) (.bool t429)) (fun _ hk => hk.2) (.slice Ao46 t430.length co46)) (fun _ hk => ⟨hk.1.1, ⟨hk.1.2.1, ⟨hk.1.2.2.1, hk.1.2.2.2⟩⟩⟩)⟩
                  have n4_ : Aside0 (Kd.R (Kd.int .i64) 3 ((w44.setCell ⟨gb419, 0, none⟩ (.bool t429)).setCell ⟨gb419, 1, none⟩ (.slice Ao46 t430.length co46)) w.heap.size (fun k_ => some k_ ≠ (.slice Ao24 t408.length co24 : Value).ownBlock ∧ some k_ ≠ (.slice Ao25 t412.length co25 : Value).ownBlock ∧ some k_ ≠ (.slice Ao34 t421.length co34 : Value).ownBlock ∧ some k_ ≠ (.slice Ao43 t426.length co43 : Value).ownBlock) (.slice Ao46 t430.length co46) t430) := ⟨by (with_reducible repeat (first | apply Kd.R_alloc | apply Kd.R_drewN | apply Kd.R_drew)); exact Kd.R_mono (Kd.R_far (p := ⟨gb419, 1, none⟩) (Kd.R_far (p := ⟨gb419, 0, none⟩) (Kd.R_types HO432.out BK419.out (by decide)) (fun _ hk => hk.2) (.bool t429)) (fun _ hk => hk.2) (.slice Ao46 t430.length co46)) (fun _ hk => ⟨hk.1.1, ⟨hk.1.2.1, ⟨hk.1.2.2.1, hk.1.2.2.2⟩⟩⟩)⟩
                  have n5_ : Aside0 (((w44.setCell ⟨gb419, 0, none⟩ (.bool t429)).setCell ⟨gb419, 1, none⟩ (.slice Ao46 t430.length co46)).heap[gb419]? = some (.cells #[.bool t429, .slice Ao46 t430.length co46] 30 (0, 0))) := ⟨by (with_reducible repeat (first | refine blk_drewN ?_ _ | refine blk_drew ?_ | refine blk_alloc ?_ _)); refine blk_put (cs := #[.bool t429, .slice Ao29 t416.length co29]) ?_ 1 _ rfl; (with_reducible repeat (first | refine blk_drewN ?_ _ | refine blk_drew ?_ | refine blk_alloc ?_ _)); refine blk_put (cs := #[.bool t415, .slice Ao29 t416.length co29]) ?_ 0 _ rfl; (with_reducible repeat (first | refine blk_drewN ?_ _ | refine blk_drew ?_ | refine blk_alloc ?_ _)); exact BK419.out⟩
                  have n6_ : Aside0 (((w44.setCell ⟨gb419, 0, none⟩ (.bool t429)).setCell ⟨gb419, 1, none⟩ (.slice Ao46 t430.length co46)).heap[gb424]? = some (.cells #[.bool t420, .slice Ao34 t421.length co34] 30 (0, 0))) := ⟨by (with_reducible repeat (first | refine blk_drewN ?_ _ | refine blk_drew ?_ | refine blk_alloc ?_ _)); refine blk_far ?_ NB424_419.out _; (with_reducible repeat (first | refine blk_drewN ?_ _ | refine blk_drew ?_ | refine blk_alloc ?_ _)); refine blk_far ?_ NB424_419.out _; (with_reducible repeat (first | refine blk_drewN ?_ _ | refine blk_drew ?_ | refine blk_alloc ?_ _)); exact BK424.out⟩
                  have n7_ : Aside0 (Below w.heap.size w ((w44.setCell ⟨gb419, 0, none⟩ (.bool t429)).setCell ⟨gb419, 1, none⟩ (.slice Ao46 t430.length co46))) := ⟨by repeat (first | (with_reducible first | exact HB.out | apply below_alloc | apply pw_below_drewN | apply below_drew1 | refine below_set ?_ GE419.out | refine below_set ?_ GE424.out) | exact HB.out)⟩
                  (try clear HO410)
                  (try clear HO414)
                  (try clear HO423)
                  (try clear HO428)
                  (try clear HO432)
                  (try clear BK419)
                  (try clear BK424)
                  (try clear HB)
                  generalize ((w44.setCell ⟨gb419, 0, none⟩ (.bool t429)).setCell ⟨gb419, 1, none⟩ (.slice Ao46 t430.length co46)) = w48 at n0_ n1_ n2_ n3_ n4_ n5_ n6_ n7_ ⊢
                  have HO410 := n0_
                  have HO414 := n1_
                  have HO423 := n2_
                  have HO428 := n3_
                  have HO432 := n4_
                  have BK419 := n5_
                  have BK424 := n6_
                  have HB := n7_
                  clear n0_ n1_ n2_ n3_ n4_ n5_ n6_ n7_
                  have n0_ := Aside0.mk (Kd.R_drew HO410.out)
                  have n1_ := Aside0.mk (Kd.R_drew HO414.out)
                  have n2_ := Aside0.mk (Kd.R_drew HO423.out)
                  have n3_ := Aside0.mk (Kd.R_drew HO428.out)
                  have n4_ := Aside0.mk (Kd.R_drew HO432.out)
                  have n5_ := Aside0.mk (blk_drew BK419.out)
                  have n6_ := Aside0.mk (blk_drew BK424.out)
                  have n7_ := Aside0.mk (below_drew1 HB.out)
                  clear HO410
                  clear HO414
                  clear HO423
                  clear HO428
                  clear HO432
                  clear BK419
                  clear BK424
                  clear HB
                  have HO410 := n0_
                  have HO414 := n1_
                  have HO423 := n2_
                  have HO428 := n3_
                  have HO432 := n4_
                  have BK419 := n5_
                  have BK424 := n6_
                  have HB := n7_
                  clear n0_ n1_ n2_ n3_ n4_ n5_ n6_ n7_
                  refine start_ (n := 4) (S := fun w' => w'.cell? ⟨gb424, 0, none⟩ = some (.bool t420) ∧ w'.cell? ⟨gb424, 1, none⟩ = some (.slice Ao34 t421.length co34)) (ds := [3]) #[false, false, false, false] (by kernel_rfl) rfl rfl ⟨(blk_cell BK424.out 0).trans rfl, (blk_cell BK424.out 1).trans rfl⟩ (fun hHeld => ?_)
                  generalize w48.drew = w49 at HO410 HO414 HO423 HO428 HO432 BK419 BK424 HB hHeld ⊢
                  refine take_ (i := 1) (N := some 68) (v := ?_) (a' := ?_) #[false, true, false, false] rfl rfl (by kernel_rfl) (fun _ _ _ h => h) (Or.inl ⟨by rfl, ?_⟩) hHeld ?_ ?_
                  rotate_left
                  · rintro w' ⟨s0, s1⟩
                    go_simp
                    with_reducible rfl
                  rotate_left
                  · simp only [Act.put, List.setIfInBounds_toArray, List.set_cons_zero, List.set_cons_succ, i64_w, i32_w]
                    rfl
                  refine one_ (i := 0) (N := some 67) #[true, true, false, false] rfl rfl (by kernel_rfl) (by decide) (fun K hK => ?_)
                  refine goes_ Try.func21 (by kernel_rfl) rfl #[.int .i64 0] (by rfl) rfl rfl (by (try simp only [List.map_toArray, List.map_cons, List.map_nil]); first | done | rfl | (simp only [List.length_drop, List.length_take]; rfl)) ?_
                  with_reducible refine (windhoverref00_Of.calls kj10 0 t433 t434 _ A38.out).mono ?_
                  rintro e w50 ⟨v435, rfl, ho0, hb⟩
                  refine ⟨_, rfl, ?_⟩
                  have n0_ := Aside0.mk (Kd.R_elder' (by (with_reducible repeat (first | apply Kd.R_alloc | apply Kd.R_drewN | apply Kd.R_drew)); exact HO410.out) (Kd.R_base ho0) hb)
                  have n1_ := Aside0.mk (Kd.R_elder' (by (with_reducible repeat (first | apply Kd.R_alloc | apply Kd.R_drewN | apply Kd.R_drew)); exact HO414.out) (Kd.R_base ho0) hb)
                  have n2_ := Aside0.mk (Kd.R_elder' (by (with_reducible repeat (first | apply Kd.R_alloc | apply Kd.R_drewN | apply Kd.R_drew)); exact HO423.out) (Kd.R_base ho0) hb)
                  have n3_ := Aside0.mk (Kd.R_elder' (by (with_reducible repeat (first | apply Kd.R_alloc | apply Kd.R_drewN | apply Kd.R_drew)); exact HO428.out) (Kd.R_base ho0) hb)
                  have n4_ := Aside0.mk (Kd.R_elder' (by (with_reducible repeat (first | apply Kd.R_alloc | apply Kd.R_drewN | apply Kd.R_drew)); exact HO432.out) (Kd.R_base ho0) hb)
                  have n5_ := Aside0.mk (Kd.R_lower (Kd.R_new' (Kd.R_new' (Kd.R_new' (Kd.R_new' (Kd.R_new' ho0 (Kd.R_lt (by (with_reducible repeat (first | apply Kd.R_alloc | apply Kd.R_drewN | apply Kd.R_drew)); exact HO410.out))) (Kd.R_lt (by (with_reducible repeat (first | apply Kd.R_alloc | apply Kd.R_drewN | apply Kd.R_drew)); exact HO414.out))) (Kd.R_lt (by (with_reducible repeat (first | apply Kd.R_alloc | apply Kd.R_drewN | apply Kd.R_drew)); exact HO423.out))) (Kd.R_lt (by (with_reducible repeat (first | apply Kd.R_alloc | apply Kd.R_drewN | apply Kd.R_drew)); exact HO428.out))) (Kd.R_lt (by (with_reducible repeat (first | apply Kd.R_alloc | apply Kd.R_drewN | apply Kd.R_drew)); exact HO432.out))) (below_size (by repeat (first | (with_reducible first | exact HB.out | apply below_alloc | apply pw_below_drewN | apply below_drew1 | refine below_set ?_ GE419.out | refine below_set ?_ GE424.out) | exact HB.out))))
                  have n6_ := Aside0.mk (blk_below (g := gb419) (o := .cells #[.bool t429, .slice Ao46 t430.length co46] 30 (0, 0)) (by (with_reducible repeat (first | refine blk_drewN ?_ _ | refine blk_drew ?_ | refine blk_alloc ?_ _)); exact BK419.out) hb)
                  have n7_ := Aside0.mk (blk_below (g := gb424) (o := .cells #[.bool t420, .slice Ao34 t421.length co34] 30 (0, 0)) (by (with_reducible repeat (first | refine blk_drewN ?_ _ | refine blk_drew ?_ | refine blk_alloc ?_ _)); exact BK424.out) hb)
                  have n8_ := Aside0.mk (below_step (by repeat (first | (with_reducible first | exact HB.out | apply below_alloc | apply pw_below_drewN | apply below_drew1 | refine below_set ?_ GE419.out | refine below_set ?_ GE424.out) | exact HB.out)) hb)
                  clear HO410
                  clear HO414
                  clear HO423
                  clear HO428
                  clear HO432
                  clear BK419
                  clear BK424
                  clear HB
                  have HO410 := n0_
                  have HO414 := n1_
                  have HO423 := n2_
                  have HO428 := n3_
                  have HO432 := n4_
                  have HO436 := n5_
                  have BK419 := n6_
                  have BK424 := n7_
                  have HB := n8_
                  clear n0_ n1_ n2_ n3_ n4_ n5_ n6_ n7_ n8_
                  (try clear hb)
                  (try clear hb2)
                  (try clear hk)
                  (try clear hi)
                  (try clear ho0)
                  obtain ⟨Ao51, co51, eo51⟩ := Kd.R_slice HO436.out
                  (first | subst eo51 | (injection eo51 with f1_ f2_ f3_; have f4_ := f1_.symm; have f5_ := f3_.symm; clear f1_ f2_ f3_; subst f4_; subst f5_))
                  refine hK.out _ _ ⟨(blk_cell BK424.out 0).trans rfl, (blk_cell BK424.out 1).trans rfl⟩ (fun hHeld => ?_)
                  clear hK K
                  refine norm_ (a' := ?_) ?_ ?_
                  rotate_left
                  · show Act.put _ (some 67) _ = _
                    simp only [Act.put, List.setIfInBounds_toArray, List.set_cons_zero, List.set_cons_succ, i64_w, i32_w]
                    rfl
                  refine one_ (i := 2) (N := some 69) #[true, true, true, false] rfl rfl (by kernel_rfl) (by decide) (fun K hK => ?_)
                  refine goes_ Try.func25 (by kernel_rfl) rfl #[.agg #[.bool t433, .slice Ao51 t434.length co51], .agg #[.bool t420, .slice Ao34 t421.length co34]] (by rfl) rfl rfl (by (try simp only [List.map_toArray, List.map_cons, List.map_nil]); first | done | rfl | (simp only [List.length_drop, List.length_take]; rfl)) ?_
                  with_reducible refine (windhoverref00_Minus.calls kj10 t433 _ _ t434 t420 (fun k_ => some k_ = (.slice Ao34 t421.length co34 : Value).ownBlock) (.slice Ao34 t421.length co34) t421 t437 t438 w _ ?side1 ?side2 ?side3 ?side4 A39.out).mono ?_
                  (case side1 => repeat (first | (with_reducible first | exact HB.out | apply below_alloc | apply pw_below_drewN | apply below_drew1 | refine below_set ?_ GE419.out | refine below_set ?_ GE424.out) | exact HB.out))
                  (case side2 => exact Kd.C_kept_own (HO436.out) (fun k_ hk_ hs_ => (hk_.1.1.2) hs_))
                  (case side3 => exact (Kd.R_reads' HO436.out).2.1)
                  (case side4 => exact Kd.R_tight rfl HO423.out)
                  rintro e w52 ⟨v439, rfl, ho0, hb, hkp⟩
                  refine ⟨_, rfl, ?_⟩
                  have n0_ := Aside0.mk (Kd.R_mono (ok' := fun k_ => some k_ ≠ (.slice Ao25 t412.length co25 : Value).ownBlock ∧ some k_ ≠ (.slice Ao43 t426.length co43 : Value).ownBlock ∧ some k_ ≠ (.slice Ao46 t430.length co46 : Value).ownBlock ∧ some k_ ≠ (.slice Ao51 t434.length co51 : Value).ownBlock ∧ some k_ ≠ (v439 : Value).ownBlock) (Kd.R_keptB (HO410.out) hkp (fun k_ hk_ hs_ => (hk_.1.2.1) hs_)) (fun k_ hk_ => ⟨hk_.1.1.1, hk_.1.1.2.2.1, hk_.1.1.2.2.2, hk_.1.2, fun e_ => Or.elim (ho0.1 k_ e_.symm) (fun hs_ => hk_.2.1 hs_) (fun hn_ => Nat.not_le.2 hk_.2.2 hn_)⟩))
                  have n1_ := Aside0.mk (Kd.R_mono (ok' := fun k_ => some k_ ≠ (.slice Ao24 t408.length co24 : Value).ownBlock ∧ some k_ ≠ (.slice Ao43 t426.length co43 : Value).ownBlock ∧ some k_ ≠ (.slice Ao46 t430.length co46 : Value).ownBlock ∧ some k_ ≠ (.slice Ao51 t434.length co51 : Value).ownBlock ∧ some k_ ≠ (v439 : Value).ownBlock) (Kd.R_keptB (HO414.out) hkp (fun k_ hk_ hs_ => (hk_.1.2.1) hs_)) (fun k_ hk_ => ⟨hk_.1.1.1, hk_.1.1.2.2.1, hk_.1.1.2.2.2, hk_.1.2, fun e_ => Or.elim (ho0.1 k_ e_.symm) (fun hs_ => hk_.2.1 hs_) (fun hn_ => Nat.not_le.2 hk_.2.2 hn_)⟩))
                  have n2_ := Aside0.mk (blk_kept (by (with_reducible repeat (first | refine blk_drewN ?_ _ | refine blk_drew ?_ | refine blk_alloc ?_ _)); exact BK419.out) hkp (fun hs_ => (fun e_ => (Kd.R_ne HO423.out BK419.out (by decide)) e_) hs_))
                  have n3_ := Aside0.mk (blk_kept (by (with_reducible repeat (first | refine blk_drewN ?_ _ | refine blk_drew ?_ | refine blk_alloc ?_ _)); exact BK424.out) hkp (fun hs_ => (fun e_ => (Kd.R_ne HO423.out BK424.out (by decide)) e_) hs_))
                  have n4_ := Aside0.mk (Kd.R_mono (ok' := fun k_ => some k_ ≠ (.slice Ao24 t408.length co24 : Value).ownBlock ∧ some k_ ≠ (.slice Ao25 t412.length co25 : Value).ownBlock ∧ some k_ ≠ (.slice Ao46 t430.length co46 : Value).ownBlock ∧ some k_ ≠ (.slice Ao51 t434.length co51 : Value).ownBlock ∧ some k_ ≠ (v439 : Value).ownBlock) (Kd.R_keptB (HO428.out) hkp (fun k_ hk_ hs_ => (hk_.1.2.2.1) hs_)) (fun k_ hk_ => ⟨hk_.1.1.1, hk_.1.1.2.1, hk_.1.1.2.2.2, hk_.1.2, fun e_ => Or.elim (ho0.1 k_ e_.symm) (fun hs_ => hk_.2.1 hs_) (fun hn_ => Nat.not_le.2 hk_.2.2 hn_)⟩))
                  have n5_ := Aside0.mk (Kd.R_mono (ok' := fun k_ => some k_ ≠ (.slice Ao24 t408.length co24 : Value).ownBlock ∧ some k_ ≠ (.slice Ao25 t412.length co25 : Value).ownBlock ∧ some k_ ≠ (.slice Ao43 t426.length co43 : Value).ownBlock ∧ some k_ ≠ (.slice Ao51 t434.length co51 : Value).ownBlock ∧ some k_ ≠ (v439 : Value).ownBlock) (Kd.R_keptB (HO432.out) hkp (fun k_ hk_ hs_ => (hk_.1.2.2.1) hs_)) (fun k_ hk_ => ⟨hk_.1.1.1, hk_.1.1.2.1, hk_.1.1.2.2.2, hk_.1.2, fun e_ => Or.elim (ho0.1 k_ e_.symm) (fun hs_ => hk_.2.1 hs_) (fun hn_ => Nat.not_le.2 hk_.2.2 hn_)⟩))
                  have n6_ := Aside0.mk (Kd.R_mono (ok' := fun k_ => some k_ ≠ (.slice Ao24 t408.length co24 : Value).ownBlock ∧ some k_ ≠ (.slice Ao25 t412.length co25 : Value).ownBlock ∧ some k_ ≠ (.slice Ao43 t426.length co43 : Value).ownBlock ∧ some k_ ≠ (.slice Ao46 t430.length co46 : Value).ownBlock ∧ some k_ ≠ (v439 : Value).ownBlock) (Kd.R_keptB (HO436.out) hkp (fun k_ hk_ hs_ => (hk_.1.1.2) hs_)) (fun k_ hk_ => ⟨hk_.1.1.1.1.1.2, hk_.1.1.1.1.2, hk_.1.1.2, hk_.1.2, fun e_ => Or.elim (ho0.1 k_ e_.symm) (fun hs_ => hk_.2.1 hs_) (fun hn_ => Nat.not_le.2 hk_.2.2 hn_)⟩))
                  have n7_ := Aside0.mk (Kd.R_mono (ok' := fun k_ => some k_ ≠ (.slice Ao24 t408.length co24 : Value).ownBlock ∧ some k_ ≠ (.slice Ao25 t412.length co25 : Value).ownBlock ∧ some k_ ≠ (.slice Ao43 t426.length co43 : Value).ownBlock ∧ some k_ ≠ (.slice Ao46 t430.length co46 : Value).ownBlock ∧ some k_ ≠ (.slice Ao51 t434.length co51 : Value).ownBlock) ho0 (fun k_ hk_ => ⟨Or.elim hk_ (fun hs_ => fun e_ => (((HO410.out).1 k_ e_.symm).1.2.1) hs_) (fun hn_ => (Kd.fresh' (Kd.R_lt (by (with_reducible repeat (first | apply Kd.R_alloc | apply Kd.R_drewN | apply Kd.R_drew)); exact HO410.out)) k_ hn_)), Or.elim hk_ (fun hs_ => fun e_ => (((HO414.out).1 k_ e_.symm).1.2.1) hs_) (fun hn_ => (Kd.fresh' (Kd.R_lt (by (with_reducible repeat (first | apply Kd.R_alloc | apply Kd.R_drewN | apply Kd.R_drew)); exact HO414.out)) k_ hn_)), Or.elim hk_ (fun hs_ => fun e_ => (((HO428.out).1 k_ e_.symm).1.2.2.1) hs_) (fun hn_ => (Kd.fresh' (Kd.R_lt (by (with_reducible repeat (first | apply Kd.R_alloc | apply Kd.R_drewN | apply Kd.R_drew)); exact HO428.out)) k_ hn_)), Or.elim hk_ (fun hs_ => fun e_ => (((HO432.out).1 k_ e_.symm).1.2.2.1) hs_) (fun hn_ => (Kd.fresh' (Kd.R_lt (by (with_reducible repeat (first | apply Kd.R_alloc | apply Kd.R_drewN | apply Kd.R_drew)); exact HO432.out)) k_ hn_)), Or.elim hk_ (fun hs_ => fun e_ => (((HO436.out).1 k_ e_.symm).1.1.2) hs_) (fun hn_ => (Kd.fresh' (Kd.R_lt (by (with_reducible repeat (first | apply Kd.R_alloc | apply Kd.R_drewN | apply Kd.R_drew)); exact HO436.out)) k_ hn_))⟩))
                  have n8_ := Aside0.mk (hb)
                  clear HO410
                  clear HO414
                  clear BK419
                  clear BK424
                  clear HO428
                  clear HO432
                  clear HO436
                  clear HB
                  clear HO423
                  have HO410 := n0_
                  have HO414 := n1_
                  have BK419 := n2_
                  have BK424 := n3_
                  have HO428 := n4_
                  have HO432 := n5_
                  have HO436 := n6_
                  have HO440 := n7_
                  have HB := n8_
                  clear n0_ n1_ n2_ n3_ n4_ n5_ n6_ n7_ n8_
                  (try clear hb)
                  (try clear hkp)
                  (try clear ho0)
                  obtain ⟨Ao54, co54, eo54⟩ := Kd.R_slice HO440.out
                  (first | subst eo54 | (injection eo54 with f1_ f2_ f3_; have f4_ := f1_.symm; have f5_ := f3_.symm; clear f1_ f2_ f3_; subst f4_; subst f5_))
                  refine hK.out _ _ ⟨(blk_cell BK424.out 0).trans rfl, (blk_cell BK424.out 1).trans rfl⟩ (fun hHeld => ?_)
                  clear hK K
                  refine norm_ (a' := ?_) ?_ ?_
                  rotate_left
                  · show Act.put _ (some 69) _ = _
                    simp only [Act.put, List.setIfInBounds_toArray, List.set_cons_zero, List.set_cons_succ, i64_w, i32_w]
                    rfl
                  refine last_ (i := 3) (N := none) #[true, true, true, true] rfl rfl (by kernel_rfl) (by decide) (fun K hK => ?_)
                  have hs53 : w52.cell? ⟨gb424, 0, none⟩ = some (.bool t420) := (blk_cell BK424.out 0).trans rfl
                  have hfs53 := blk_frozen BK424.out 0
                  have hns53_0 := NB419_424.out
                  have hms53_0 := NB424_419.out
                  have hs55 : w52.cell? ⟨gb424, 1, none⟩ = some (.slice Ao34 t421.length co34) := (blk_cell BK424.out 1).trans rfl
                  have hfs55 := blk_frozen BK424.out 1
                  have hns55_0 := NB419_424.out
                  have hms55_0 := NB424_419.out
                  refine skip_ (w1 := ?_) (by rfl) rfl ?_ ?_
                  rotate_left
                  · go_simp
                    rfl
                  refine hK.out _ _ ?_
                  clear hK K
                  refine done_ (by kernel_rfl) ?_
                  try go_wp2
                  go_meet
                  case rel => exact ⟨_, (t429), (t430), (t437), (t438), (.slice Ao46 t430.length co46), (.slice Ao54 t438.length co54), H', ⟨by have := HJ5.out; have := HJ10.out; first | omega | exact Nat.le_refl _⟩, ⟨by (with_reducible repeat (first | apply Kd.R_alloc | apply Kd.R_drewN | apply Kd.R_drew)); exact Kd.R_mono (Kd.R_far (p := ⟨gb424, 1, none⟩) (Kd.R_far (p := ⟨gb424, 0, none⟩) (Kd.R_types HO432.out BK424.out (by decide)) (fun _ hk => hk.2) (.bool t437)) (fun _ hk => hk.2) (.slice Ao54 t438.length co54)) (fun _ hk => hk.1.2.2.2.2)⟩, ⟨by (with_reducible repeat (first | apply Kd.R_alloc | apply Kd.R_drewN | apply Kd.R_drew)); exact Kd.R_mono (Kd.R_far (p := ⟨gb424, 1, none⟩) (Kd.R_far (p := ⟨gb424, 0, none⟩) (Kd.R_types HO440.out BK424.out (by decide)) (fun _ hk => hk.2) (.bool t437)) (fun _ hk => hk.2) (.slice Ao54 t438.length co54)) (fun _ hk => hk.1.2.2.2.1)⟩, ⟨by (with_reducible repeat (first | refine blk_drewN ?_ _ | refine blk_drew ?_ | refine blk_alloc ?_ _)); refine blk_far ?_ NB419_424.out _; (with_reducible repeat (first | refine blk_drewN ?_ _ | refine blk_drew ?_ | refine blk_alloc ?_ _)); refine blk_far ?_ NB419_424.out _; (with_reducible repeat (first | refine blk_drewN ?_ _ | refine blk_drew ?_ | refine blk_alloc ?_ _)); exact BK419.out⟩, ⟨by (with_reducible repeat (first | refine blk_drewN ?_ _ | refine blk_drew ?_ | refine blk_alloc ?_ _)); refine blk_put (cs := #[.bool t437, .slice Ao34 t421.length co34]) ?_ 1 _ rfl; (with_reducible repeat (first | refine blk_drewN ?_ _ | refine blk_drew ?_ | refine blk_alloc ?_ _)); refine blk_put (cs := #[.bool t420, .slice Ao34 t421.length co34]) ?_ 0 _ rfl; (with_reducible repeat (first | refine blk_drewN ?_ _ | refine blk_drew ?_ | refine blk_alloc ?_ _)); exact BK424.out⟩, ⟨by repeat (first | (with_reducible first | exact HB.out | apply below_alloc | apply pw_below_drewN | apply below_drew1 | refine below_set ?_ GE419.out | refine below_set ?_ GE424.out) | exact HB.out)⟩⟩
                · rw [if_neg c35] at H
                  have c35b0 : decide (a2 < 0) = false := decide_eq_false c35
                  clear c35
                  (first | rw [c35b0] | (simp only [i64_w, i32_w]; rw [c35b0]) | skip)
                  have H' := Aside0.mk H
                  clear H
                  go_wp2
                  go_meet
                  case rel => exact ⟨_, (t415), (t416), (t420), (t421), (.slice Ao29 t416.length co29), (.slice Ao34 t421.length co34), H', ⟨by have := HJ5.out; have := HJ10.out; first | omega | exact Nat.le_refl _⟩, ⟨by (with_reducible repeat (first | apply Kd.R_alloc | apply Kd.R_drewN | apply Kd.R_drew)); exact Kd.R_mono (Kd.R_far (p := ⟨gb424, 1, none⟩) (Kd.R_far (p := ⟨gb424, 0, none⟩) (Kd.R_types HO418.out BK424.out (by decide)) (fun _ hk => hk.2) (.bool t420)) (fun _ hk => hk.2) (.slice Ao34 t421.length co34)) (fun _ hk => hk.1.2)⟩, ⟨by (with_reducible repeat (first | apply Kd.R_alloc | apply Kd.R_drewN | apply Kd.R_drew)); exact Kd.R_mono (Kd.R_far (p := ⟨gb424, 1, none⟩) (Kd.R_far (p := ⟨gb424, 0, none⟩) (Kd.R_types HO423.out BK424.out (by decide)) (fun _ hk => hk.2) (.bool t420)) (fun _ hk => hk.2) (.slice Ao34 t421.length co34)) (fun _ hk => hk.1.2)⟩, ⟨by (with_reducible repeat (first | refine blk_drewN ?_ _ | refine blk_drew ?_ | refine blk_alloc ?_ _)); refine blk_far ?_ NB419_424.out _; (with_reducible repeat (first | refine blk_drewN ?_ _ | refine blk_drew ?_ | refine blk_alloc ?_ _)); refine blk_far ?_ NB419_424.out _; (with_reducible repeat (first | refine blk_drewN ?_ _ | refine blk_drew ?_ | refine blk_alloc ?_ _)); exact BK419.out⟩, ⟨by (with_reducible repeat (first | refine blk_drewN ?_ _ | refine blk_drew ?_ | refine blk_alloc ?_ _)); refine blk_put (cs := #[.bool t420, .slice none 0 0]) ?_ 1 _ rfl; (with_reducible repeat (first | refine blk_drewN ?_ _ | refine blk_drew ?_ | refine blk_alloc ?_ _)); refine blk_put (cs := #[.bool false, .slice none 0 0]) ?_ 0 _ rfl; (with_reducible repeat (first | refine blk_drewN ?_ _ | refine blk_drew ?_ | refine blk_alloc ?_ _)); exact BK424.out⟩, ⟨by repeat (first | (with_reducible first | exact HB.out | apply below_alloc | apply pw_below_drewN | apply below_drew1 | refine below_set ?_ GE419.out | refine below_set ?_ GE424.out) | exact HB.out)⟩⟩
              case rest =>
                clear HC21
                try clear c1
                try clear c2
                try clear p2
                try clear c3
                try clear c6
                try clear c8
                try clear c8b0
                try clear c8b1
                try clear c9
                try clear c9b0
                try clear c9b1
                try clear c10
                try clear c12
                try clear c12b0
                try clear c12b1
                try clear c13
                try clear c13b0
                try clear c13b1
                try clear c14
                try clear c16
                try clear c20
                try clear c21
                try clear c23
                try clear c24
                try clear c25
                try clear c32
                try clear c35
                try clear c35b0
                try clear hcz28_0
                try clear hcz33_0
                try clear hfz28_0
                try clear hfz33_0
                try clear p2
                obtain ⟨kq, x420000_20, x420001_20, x425000_20, x425001_20, u420001, u425001, HA, HJ20, HO_420001, HO_425001, BK419, BK424, HB⟩ := hcut
                cases kq with
                | zero => exact absurd HA.out (by simp [windhoverlaw01_FixShares.j2])
                | succ kj20 =>
                  have H := HA.out
                  clear HA
                  simp only [windhoverlaw01_FixShares.j2] at H
                  replace H := Option.bind_eq_some_iff.mp H
                  obtain ⟨⟨t441, t442⟩, A560, H⟩ := H
                  replace H : ((windhoverref00_Times.f kj20 t441 t442 x425000_20 x425001_20).bind fun bt445 => ((windhoverref00_Cmp.f kj20 bt445.1 bt445.2 x420000_20 x420001_20).bind fun t449 => ((windhoverref00_Of.f kj20 (wrap64 (t402 + 1))).bind fun bt450 => ((windhoverref00_Times.f kj20 bt450.1 bt450.2 x425000_20 x425001_20).bind fun bt454 => ((windhoverref00_Cmp.f kj20 bt454.1 bt454.2 x420000_20 x420001_20).bind fun t458 => (if t449 ≤ 0 then (if t458 > 0 then ((windhoverlaw01_awake.f kj20).bind fun t459 => (some t459)) else (none)) else (none))))))) = some r := H
                  have A56 := Aside0.mk A560
                  clear A560
                  replace H := Option.bind_eq_some_iff.mp H
                  obtain ⟨⟨t445, t446⟩, A570, H⟩ := H
                  replace H : ((windhoverref00_Cmp.f kj20 t445 t446 x420000_20 x420001_20).bind fun t449 => ((windhoverref00_Of.f kj20 (wrap64 (t402 + 1))).bind fun bt450 => ((windhoverref00_Times.f kj20 bt450.1 bt450.2 x425000_20 x425001_20).bind fun bt454 => ((windhoverref00_Cmp.f kj20 bt454.1 bt454.2 x420000_20 x420001_20).bind fun t458 => (if t449 ≤ 0 then (if t458 > 0 then ((windhoverlaw01_awake.f kj20).bind fun t459 => (some t459)) else (none)) else (none)))))) = some r := H
                  have A57 := Aside0.mk A570
                  clear A570
                  replace H := Option.bind_eq_some_iff.mp H
                  obtain ⟨t449, A580, H⟩ := H
                  replace H : ((windhoverref00_Of.f kj20 (wrap64 (t402 + 1))).bind fun bt450 => ((windhoverref00_Times.f kj20 bt450.1 bt450.2 x425000_20 x425001_20).bind fun bt454 => ((windhoverref00_Cmp.f kj20 bt454.1 bt454.2 x420000_20 x420001_20).bind fun t458 => (if t449 ≤ 0 then (if t458 > 0 then ((windhoverlaw01_awake.f kj20).bind fun t459 => (some t459)) else (none)) else (none))))) = some r := H
                  have A58 := Aside0.mk A580
                  clear A580
                  replace H := Option.bind_eq_some_iff.mp H
                  obtain ⟨⟨t450, t451⟩, A590, H⟩ := H
                  replace H : ((windhoverref00_Times.f kj20 t450 t451 x425000_20 x425001_20).bind fun bt454 => ((windhoverref00_Cmp.f kj20 bt454.1 bt454.2 x420000_20 x420001_20).bind fun t458 => (if t449 ≤ 0 then (if t458 > 0 then ((windhoverlaw01_awake.f kj20).bind fun t459 => (some t459)) else (none)) else (none)))) = some r := H
                  have A59 := Aside0.mk A590
                  clear A590
                  replace H := Option.bind_eq_some_iff.mp H
                  obtain ⟨⟨t454, t455⟩, A600, H⟩ := H
                  replace H : ((windhoverref00_Cmp.f kj20 t454 t455 x420000_20 x420001_20).bind fun t458 => (if t449 ≤ 0 then (if t458 > 0 then ((windhoverlaw01_awake.f kj20).bind fun t459 => (some t459)) else (none)) else (none))) = some r := H
                  have A60 := Aside0.mk A600
                  clear A600
                  replace H := Option.bind_eq_some_iff.mp H
                  obtain ⟨t458, A610, H⟩ := H
                  replace H : (if t449 ≤ 0 then (if t458 > 0 then ((windhoverlaw01_awake.f kj20).bind fun t459 => (some t459)) else (none)) else (none)) = some r := H
                  have A61 := Aside0.mk A610
                  clear A610
                  by_cases c62 : t449 ≤ 0
                  · rw [if_pos c62] at H
                    have c62b0 : decide (t449 ≤ 0) = true := decide_eq_true c62
                    clear c62
                    by_cases c63 : t458 > 0
                    · rw [if_pos c63] at H
                      have c63b0 : decide (0 < t458) = true := decide_eq_true c63
                      clear c63
                      replace H := Option.bind_eq_some_iff.mp H
                      obtain ⟨t459, A640, H⟩ := H
                      replace H : (some t459) = some r := H
                      have A64 := Aside0.mk A640
                      clear A640
                      obtain rfl := Option.some.inj H
                      try go_wp2
                      have n0_ := Aside0.mk (Kd.R_drew HO_420001.out)
                      have n1_ := Aside0.mk (Kd.R_drew HO_425001.out)
                      have n2_ := Aside0.mk (blk_drew BK419.out)
                      have n3_ := Aside0.mk (blk_drew BK424.out)
                      have n4_ := Aside0.mk (below_drew1 HB.out)
                      clear HO_420001
                      clear HO_425001
                      clear BK419
                      clear BK424
                      clear HB
                      have HO_420001 := n0_
                      have HO_425001 := n1_
                      have BK419 := n2_
                      have BK424 := n3_
                      have HB := n4_
                      clear n0_ n1_ n2_ n3_ n4_
                      refine start_ (n := 8) (S := fun w' => w'.cell? ⟨gb424, 0, none⟩ = some (.bool x425000_20) ∧ w'.cell? ⟨gb424, 1, none⟩ = some (u425001) ∧ w'.cell? ⟨gb419, 0, none⟩ = some (.bool x420000_20) ∧ w'.cell? ⟨gb419, 1, none⟩ = some (u420001)) (ds := []) #[false, false, false, false, false, false, false, false] (by kernel_rfl) rfl rfl ⟨(blk_cell BK424.out 0).trans rfl, (blk_cell BK424.out 1).trans rfl, (blk_cell BK419.out 0).trans rfl, (blk_cell BK419.out 1).trans rfl⟩ (fun hHeld => ?_); refine with_tabW windhoverlaw01_FixShares.tab12 windhoverlaw01_FixShares.bits12 (fun HT_ HW_ => ?_)
                      generalize wc.drew = w65 at HO_420001 HO_425001 BK419 BK424 HB hHeld ⊢
                      refine pure_ (i := 0) (N := some 70) (v := ?_) (a' := ?_) #[true, false, false, false, false, false, false, false] rfl rfl (any_of HT_.out (by kernel_rfl)) (fun _ _ _ h => h) (Or.inl ⟨by rfl, ?_⟩) ?_ ?_
                      rotate_left
                      · intro w'
                        go_simp
                        with_reducible rfl
                      rotate_left
                      · simp only [Act.put, List.setIfInBounds_toArray, List.set_cons_zero, List.set_cons_succ, i64_w, i32_w]
                        rfl
                      refine take_ (i := 2) (N := some 72) (v := ?_) (a' := ?_) #[true, false, true, false, false, false, false, false] rfl rfl (take_ofW HT_.out HW_.out (by kernel_rfl)) (fun _ _ _ h => h) (Or.inl ⟨by rfl, ?_⟩) hHeld ?_ ?_
                      rotate_left
                      · rintro w' ⟨s0, s1, s2, s3⟩
                        go_simp
                        with_reducible rfl
                      rotate_left
                      · simp only [Act.put, List.setIfInBounds_toArray, List.set_cons_zero, List.set_cons_succ, i64_w, i32_w]
                        rfl
                      refine take_ (i := 4) (N := some 74) (v := ?_) (a' := ?_) #[true, false, true, false, true, false, false, false] rfl rfl (take_ofW HT_.out HW_.out (by kernel_rfl)) (fun _ _ _ h => h) (Or.inl ⟨by rfl, ?_⟩) hHeld ?_ ?_
                      rotate_left
                      · rintro w' ⟨s0, s1, s2, s3⟩
                        go_simp
                        with_reducible rfl
                      rotate_left
                      · simp only [Act.put, List.setIfInBounds_toArray, List.set_cons_zero, List.set_cons_succ, i64_w, i32_w]
                        rfl
                      refine one_ (i := 1) (N := some 71) #[true, true, true, false, true, false, false, false] rfl rfl (one_of HT_.out (by kernel_rfl)) (by decide) (fun K hK => ?_)
                      refine goes_ Try.func21 (by kernel_rfl) rfl #[.int .i64 t402] (by rfl) rfl rfl (by (try simp only [List.map_toArray, List.map_cons, List.map_nil]); first | done | rfl | (simp only [List.length_drop, List.length_take]; rfl)) ?_
                      with_reducible refine (windhoverref00_Of.calls kj20 t402 t441 t442 _ A56.out).mono ?_
                      rintro e w66 ⟨v443, rfl, ho0, hb⟩
                      refine ⟨_, rfl, ?_⟩
                      have n0_ := Aside0.mk (Kd.R_elder' (by (with_reducible repeat (first | apply Kd.R_alloc | apply Kd.R_drewN | apply Kd.R_drew)); exact HO_420001.out) (Kd.R_base ho0) hb)
                      have n1_ := Aside0.mk (Kd.R_elder' (by (with_reducible repeat (first | apply Kd.R_alloc | apply Kd.R_drewN | apply Kd.R_drew)); exact HO_425001.out) (Kd.R_base ho0) hb)
                      have n2_ := Aside0.mk (Kd.R_lower (Kd.R_new' (Kd.R_new' ho0 (Kd.R_lt (by (with_reducible repeat (first | apply Kd.R_alloc | apply Kd.R_drewN | apply Kd.R_drew)); exact HO_420001.out))) (Kd.R_lt (by (with_reducible repeat (first | apply Kd.R_alloc | apply Kd.R_drewN | apply Kd.R_drew)); exact HO_425001.out))) (below_size (by repeat (first | (with_reducible first | exact HB.out | apply below_alloc | apply pw_below_drewN | apply below_drew1 | refine below_set ?_ GE419.out | refine below_set ?_ GE424.out) | exact HB.out))))
                      have n3_ := Aside0.mk (blk_below (g := gb419) (o := .cells #[.bool x420000_20, u420001] 30 (0, 0)) (by (with_reducible repeat (first | refine blk_drewN ?_ _ | refine blk_drew ?_ | refine blk_alloc ?_ _)); exact BK419.out) hb)
                      have n4_ := Aside0.mk (blk_below (g := gb424) (o := .cells #[.bool x425000_20, u425001] 30 (0, 0)) (by (with_reducible repeat (first | refine blk_drewN ?_ _ | refine blk_drew ?_ | refine blk_alloc ?_ _)); exact BK424.out) hb)
                      have n5_ := Aside0.mk (below_step (by repeat (first | (with_reducible first | exact HB.out | apply below_alloc | apply pw_below_drewN | apply below_drew1 | refine below_set ?_ GE419.out | refine below_set ?_ GE424.out) | exact HB.out)) hb)
                      clear HO_420001
                      clear HO_425001
                      clear BK419
                      clear BK424
                      clear HB
                      have HO_420001 := n0_
                      have HO_425001 := n1_
                      have HO444 := n2_
                      have BK419 := n3_
                      have BK424 := n4_
                      have HB := n5_
                      clear n0_ n1_ n2_ n3_ n4_ n5_
                      (try clear hb)
                      (try clear hb2)
                      (try clear hk)
                      (try clear hi)
                      (try clear ho0)
                      obtain ⟨Ao67, co67, eo67⟩ := Kd.R_slice HO444.out
                      (first | subst eo67 | (injection eo67 with f1_ f2_ f3_; have f4_ := f1_.symm; have f5_ := f3_.symm; clear f1_ f2_ f3_; subst f4_; subst f5_))
                      obtain ⟨Ao68, co68, eo68⟩ := Kd.R_slice HO_425001.out
                      (first | subst eo68 | (injection eo68 with f1_ f2_ f3_; have f4_ := f1_.symm; have f5_ := f3_.symm; clear f1_ f2_ f3_; subst f4_; subst f5_))
                      refine hK.out _ _ ⟨(blk_cell BK424.out 0).trans rfl, (blk_cell BK424.out 1).trans rfl, (blk_cell BK419.out 0).trans rfl, (blk_cell BK419.out 1).trans rfl⟩ (fun hHeld => ?_)
                      clear hK K
                      refine norm_ (a' := ?_) ?_ ?_
                      rotate_left
                      · show Act.put _ (some 71) _ = _
                        simp only [Act.put, List.setIfInBounds_toArray, List.set_cons_zero, List.set_cons_succ, i64_w, i32_w]
                        rfl
                      refine one_ (i := 3) (N := some 73) #[true, true, true, true, true, false, false, false] rfl rfl (one_of HT_.out (by kernel_rfl)) (by decide) (fun K hK => ?_)
                      refine goes_ Try.func20 (by kernel_rfl) rfl #[.agg #[.bool t441, .slice Ao67 t442.length co67], .agg #[.bool x425000_20, .slice Ao68 x425001_20.length co68]] (by rfl) rfl rfl (by (try simp only [List.map_toArray, List.map_cons, List.map_nil]); first | done | rfl | (simp only [List.length_drop, List.length_take]; rfl)) ?_
                      with_reducible refine (windhoverref00_Times.calls kj20 t441 _ _ t442 x425000_20 _ _ x425001_20 t445 t446 _ ?side1 ?side2 ?side3 ?side4 A57.out).mono ?_
                      (case side1 => repeat (first | exact (Kd.R_reads' HO444.out).2.2 | (with_reducible refine Kd.C_alloc ?_ _) | (with_reducible refine Kd.C_drewN ?_ _) | (with_reducible refine Kd.C_drew ?_)))
                      (case side2 => exact (Kd.R_reads' HO444.out).2.1)
                      (case side3 => repeat (first | exact (Kd.R_reads' HO_425001.out).2.2 | (with_reducible refine Kd.C_alloc ?_ _) | (with_reducible refine Kd.C_drewN ?_ _) | (with_reducible refine Kd.C_drew ?_)))
                      (case side4 => exact (Kd.R_reads' HO_425001.out).2.1)
                      rintro e w69 ⟨v447, rfl, ho0, hb⟩
                      refine ⟨_, rfl, ?_⟩
                      have n0_ := Aside0.mk (Kd.R_elder' (by (with_reducible repeat (first | apply Kd.R_alloc | apply Kd.R_drewN | apply Kd.R_drew)); exact HO_420001.out) (Kd.R_base ho0) hb)
                      have n1_ := Aside0.mk (Kd.R_elder' (by (with_reducible repeat (first | apply Kd.R_alloc | apply Kd.R_drewN | apply Kd.R_drew)); exact HO_425001.out) (Kd.R_base ho0) hb)
                      have n2_ := Aside0.mk (Kd.R_elder' (by (with_reducible repeat (first | apply Kd.R_alloc | apply Kd.R_drewN | apply Kd.R_drew)); exact HO444.out) (Kd.R_base ho0) hb)
                      have n3_ := Aside0.mk (Kd.R_lower (Kd.R_new' (Kd.R_new' (Kd.R_new' ho0 (Kd.R_lt (by (with_reducible repeat (first | apply Kd.R_alloc | apply Kd.R_drewN | apply Kd.R_drew)); exact HO_420001.out))) (Kd.R_lt (by (with_reducible repeat (first | apply Kd.R_alloc | apply Kd.R_drewN | apply Kd.R_drew)); exact HO_425001.out))) (Kd.R_lt (by (with_reducible repeat (first | apply Kd.R_alloc | apply Kd.R_drewN | apply Kd.R_drew)); exact HO444.out))) (below_size (by repeat (first | (with_reducible first | exact HB.out | apply below_alloc | apply pw_below_drewN | apply below_drew1 | refine below_set ?_ GE419.out | refine below_set ?_ GE424.out) | exact HB.out))))
                      have n4_ := Aside0.mk (blk_below (g := gb419) (o := .cells #[.bool x420000_20, u420001] 30 (0, 0)) (by (with_reducible repeat (first | refine blk_drewN ?_ _ | refine blk_drew ?_ | refine blk_alloc ?_ _)); exact BK419.out) hb)
                      have n5_ := Aside0.mk (blk_below (g := gb424) (o := .cells #[.bool x425000_20, .slice Ao68 x425001_20.length co68] 30 (0, 0)) (by (with_reducible repeat (first | refine blk_drewN ?_ _ | refine blk_drew ?_ | refine blk_alloc ?_ _)); exact BK424.out) hb)
                      have n6_ := Aside0.mk (below_step (by repeat (first | (with_reducible first | exact HB.out | apply below_alloc | apply pw_below_drewN | apply below_drew1 | refine below_set ?_ GE419.out | refine below_set ?_ GE424.out) | exact HB.out)) hb)
                      clear HO_420001
                      clear HO_425001
                      clear HO444
                      clear BK419
                      clear BK424
                      clear HB
                      have HO_420001 := n0_
                      have HO_425001 := n1_
                      have HO444 := n2_
                      have HO448 := n3_
                      have BK419 := n4_
                      have BK424 := n5_
                      have HB := n6_
                      clear n0_ n1_ n2_ n3_ n4_ n5_ n6_
                      (try clear hb)
                      (try clear hb2)
                      (try clear hk)
                      (try clear hi)
                      (try clear ho0)
                      obtain ⟨Ao70, co70, eo70⟩ := Kd.R_slice HO448.out
                      (first | subst eo70 | (injection eo70 with f1_ f2_ f3_; have f4_ := f1_.symm; have f5_ := f3_.symm; clear f1_ f2_ f3_; subst f4_; subst f5_))
                      obtain ⟨Ao71, co71, eo71⟩ := Kd.R_slice HO_420001.out
                      (first | subst eo71 | (injection eo71 with f1_ f2_ f3_; have f4_ := f1_.symm; have f5_ := f3_.symm; clear f1_ f2_ f3_; subst f4_; subst f5_))
                      refine hK.out _ _ ⟨(blk_cell BK424.out 0).trans rfl, (blk_cell BK424.out 1).trans rfl, (blk_cell BK419.out 0).trans rfl, (blk_cell BK419.out 1).trans rfl⟩ (fun hHeld => ?_)
                      clear hK K
                      refine norm_ (a' := ?_) ?_ ?_
                      rotate_left
                      · show Act.put _ (some 73) _ = _
                        simp only [Act.put, List.setIfInBounds_toArray, List.set_cons_zero, List.set_cons_succ, i64_w, i32_w]
                        rfl
                      refine one_ (i := 5) (N := some 75) #[true, true, true, true, true, true, false, false] rfl rfl (one_of HT_.out (by kernel_rfl)) (by decide) (fun K hK => ?_)
                      refine goes_ Try.func22 (by kernel_rfl) rfl #[.agg #[.bool t445, .slice Ao70 t446.length co70], .agg #[.bool x420000_20, .slice Ao71 x420001_20.length co71]] (by rfl) rfl rfl (by (try simp only [List.map_toArray, List.map_cons, List.map_nil]); first | done | rfl | (simp only [List.length_drop, List.length_take]; rfl)) ?_
                      with_reducible refine (windhoverref00_Cmp.calls kj20 t445 _ _ t446 x420000_20 _ _ x420001_20 t449 _ ?side1 ?side2 ?side3 ?side4 A58.out).mono ?_
                      (case side1 => repeat (first | exact (Kd.R_reads' HO448.out).2.2 | (with_reducible refine Kd.C_alloc ?_ _) | (with_reducible refine Kd.C_drewN ?_ _) | (with_reducible refine Kd.C_drew ?_)))
                      (case side2 => exact (Kd.R_reads' HO448.out).2.1)
                      (case side3 => repeat (first | exact (Kd.R_reads' HO_420001.out).2.2 | (with_reducible refine Kd.C_alloc ?_ _) | (with_reducible refine Kd.C_drewN ?_ _) | (with_reducible refine Kd.C_drew ?_)))
                      (case side4 => exact (Kd.R_reads' HO_420001.out).2.1)
                      rintro e w72 ⟨rfl, hb⟩
                      refine ⟨_, rfl, ?_⟩
                      have n0_ := Aside0.mk (Kd.R_below (by (with_reducible repeat (first | apply Kd.R_alloc | apply Kd.R_drewN | apply Kd.R_drew)); exact HO_420001.out) hb)
                      have n1_ := Aside0.mk (Kd.R_below (by (with_reducible repeat (first | apply Kd.R_alloc | apply Kd.R_drewN | apply Kd.R_drew)); exact HO_425001.out) hb)
                      have n2_ := Aside0.mk (Kd.R_below (by (with_reducible repeat (first | apply Kd.R_alloc | apply Kd.R_drewN | apply Kd.R_drew)); exact HO444.out) hb)
                      have n3_ := Aside0.mk (Kd.R_below (by (with_reducible repeat (first | apply Kd.R_alloc | apply Kd.R_drewN | apply Kd.R_drew)); exact HO448.out) hb)
                      have n4_ := Aside0.mk (blk_below (g := gb419) (o := .cells #[.bool x420000_20, .slice Ao71 x420001_20.length co71] 30 (0, 0)) (by (with_reducible repeat (first | refine blk_drewN ?_ _ | refine blk_drew ?_ | refine blk_alloc ?_ _)); exact BK419.out) hb)
                      have n5_ := Aside0.mk (blk_below (g := gb424) (o := .cells #[.bool x425000_20, .slice Ao68 x425001_20.length co68] 30 (0, 0)) (by (with_reducible repeat (first | refine blk_drewN ?_ _ | refine blk_drew ?_ | refine blk_alloc ?_ _)); exact BK424.out) hb)
                      have n6_ := Aside0.mk (below_step (by repeat (first | (with_reducible first | exact HB.out | apply below_alloc | apply pw_below_drewN | apply below_drew1 | refine below_set ?_ GE419.out | refine below_set ?_ GE424.out) | exact HB.out)) hb)
                      clear HO_420001
                      clear HO_425001
                      clear HO444
                      clear HO448
                      clear BK419
                      clear BK424
                      clear HB
                      have HO_420001 := n0_
                      have HO_425001 := n1_
                      have HO444 := n2_
                      have HO448 := n3_
                      have BK419 := n4_
                      have BK424 := n5_
                      have HB := n6_
                      clear n0_ n1_ n2_ n3_ n4_ n5_ n6_
                      (try clear hb)
                      (try clear hb2)
                      (try clear hk)
                      (try clear hi)
                      refine hK.out _ _ ⟨(blk_cell BK424.out 0).trans rfl, (blk_cell BK424.out 1).trans rfl, (blk_cell BK419.out 0).trans rfl, (blk_cell BK419.out 1).trans rfl⟩ (fun hHeld => ?_)
                      clear hK K
                      refine norm_ (a' := ?_) ?_ ?_
                      rotate_left
                      · show Act.put _ (some 75) _ = _
                        simp only [Act.put, List.setIfInBounds_toArray, List.set_cons_zero, List.set_cons_succ, i64_w, i32_w]
                        rfl
                      refine pure_ (i := 6) (N := some 76) (v := ?_) (a' := ?_) #[true, true, true, true, true, true, true, false] rfl rfl (any_of HT_.out (by kernel_rfl)) (fun _ _ _ h => h) (Or.inl ⟨by rfl, ?_⟩) ?_ ?_
                      rotate_left
                      · intro w'
                        go_simp
                        with_reducible rfl
                      rotate_left
                      · simp only [Act.put, List.setIfInBounds_toArray, List.set_cons_zero, List.set_cons_succ, i64_w, i32_w]
                        rfl
                      refine pure_ (i := 7) (N := some 13) (v := ?_) (a' := ?_) #[true, true, true, true, true, true, true, true] rfl rfl (any_of HT_.out (by kernel_rfl)) (fun _ _ _ h => h) (Or.inl ⟨by rfl, ?_⟩) ?_ ?_
                      rotate_left
                      · intro w'
                        go_simp
                        with_reducible rfl
                      rotate_left
                      · simp only [Act.put, List.setIfInBounds_toArray, List.set_cons_zero, List.set_cons_succ, i64_w, i32_w]
                        rfl
                      refine done_ (done_of HT_.out (by kernel_rfl)) ?_
                      try go_wp2
                      have n0_ := Aside0.mk (Kd.R_drew HO_420001.out)
                      have n1_ := Aside0.mk (Kd.R_drew HO_425001.out)
                      have n2_ := Aside0.mk (Kd.R_drew HO444.out)
                      have n3_ := Aside0.mk (Kd.R_drew HO448.out)
                      have n4_ := Aside0.mk (blk_drew BK419.out)
                      have n5_ := Aside0.mk (blk_drew BK424.out)
                      have n6_ := Aside0.mk (below_drew1 HB.out)
                      clear HO_420001
                      clear HO_425001
                      clear HO444
                      clear HO448
                      clear BK419
                      clear BK424
                      clear HB
                      have HO_420001 := n0_
                      have HO_425001 := n1_
                      have HO444 := n2_
                      have HO448 := n3_
                      have BK419 := n4_
                      have BK424 := n5_
                      have HB := n6_
                      clear n0_ n1_ n2_ n3_ n4_ n5_ n6_
                      refine start_ (n := 9) (S := fun w' => w'.cell? ⟨gb424, 0, none⟩ = some (.bool x425000_20) ∧ w'.cell? ⟨gb424, 1, none⟩ = some (.slice Ao68 x425001_20.length co68) ∧ w'.cell? ⟨gb419, 0, none⟩ = some (.bool x420000_20) ∧ w'.cell? ⟨gb419, 1, none⟩ = some (.slice Ao71 x420001_20.length co71)) (ds := []) #[false, false, false, false, false, false, false, false, false] (by kernel_rfl) rfl rfl ⟨(blk_cell BK424.out 0).trans rfl, (blk_cell BK424.out 1).trans rfl, (blk_cell BK419.out 0).trans rfl, (blk_cell BK419.out 1).trans rfl⟩ (fun hHeld => ?_); refine with_tabW windhoverlaw01_FixShares.tab13 windhoverlaw01_FixShares.bits13 (fun HT_ HW_ => ?_)
                      generalize w72.drew = w73 at HO_420001 HO_425001 HO444 HO448 BK419 BK424 HB hHeld ⊢
                      refine pure_ (i := 0) (N := some 77) (v := ?_) (a' := ?_) #[true, false, false, false, false, false, false, false, false] rfl rfl (any_of HT_.out (by kernel_rfl)) (fun _ _ _ h => h) (Or.inl ⟨by rfl, ?_⟩) ?_ ?_
                      rotate_left
                      · intro w'
                        go_simp
                        with_reducible rfl
                      rotate_left
                      · simp only [Act.put, List.setIfInBounds_toArray, List.set_cons_zero, List.set_cons_succ, i64_w, i32_w]
                        rfl
                      refine pure_ (i := 1) (N := some 78) (v := ?_) (a' := ?_) #[true, true, false, false, false, false, false, false, false] rfl rfl (any_of HT_.out (by kernel_rfl)) (fun _ _ _ h => h) (Or.inl ⟨by rfl, ?_⟩) ?_ ?_
                      rotate_left
                      · intro w'
                        go_simp
                        with_reducible rfl
                      rotate_left
                      · simp only [Act.put, List.setIfInBounds_toArray, List.set_cons_zero, List.set_cons_succ, i64_w, i32_w]
                        rfl
                      refine take_ (i := 3) (N := some 80) (v := ?_) (a' := ?_) #[true, true, false, true, false, false, false, false, false] rfl rfl (take_ofW HT_.out HW_.out (by kernel_rfl)) (fun _ _ _ h => h) (Or.inl ⟨by rfl, ?_⟩) hHeld ?_ ?_
                      rotate_left
                      · rintro w' ⟨s0, s1, s2, s3⟩
                        go_simp
                        with_reducible rfl
                      rotate_left
                      · simp only [Act.put, List.setIfInBounds_toArray, List.set_cons_zero, List.set_cons_succ, i64_w, i32_w]
                        rfl
                      refine take_ (i := 5) (N := some 82) (v := ?_) (a' := ?_) #[true, true, false, true, false, true, false, false, false] rfl rfl (take_ofW HT_.out HW_.out (by kernel_rfl)) (fun _ _ _ h => h) (Or.inl ⟨by rfl, ?_⟩) hHeld ?_ ?_
                      rotate_left
                      · rintro w' ⟨s0, s1, s2, s3⟩
                        go_simp
                        with_reducible rfl
                      rotate_left
                      · simp only [Act.put, List.setIfInBounds_toArray, List.set_cons_zero, List.set_cons_succ, i64_w, i32_w]
                        rfl
                      refine one_ (i := 2) (N := some 79) #[true, true, true, true, false, true, false, false, false] rfl rfl (one_of HT_.out (by kernel_rfl)) (by decide) (fun K hK => ?_)
                      refine goes_ Try.func21 (by kernel_rfl) rfl #[.int .i64 (wrap64 (t402 + 1))] (by rfl) rfl rfl (by (try simp only [List.map_toArray, List.map_cons, List.map_nil]); first | done | rfl | (simp only [List.length_drop, List.length_take]; rfl)) ?_
                      with_reducible refine (windhoverref00_Of.calls kj20 (wrap64 (t402 + 1)) t450 t451 _ A59.out).mono ?_
                      rintro e w74 ⟨v452, rfl, ho0, hb⟩
                      refine ⟨_, rfl, ?_⟩
                      have n0_ := Aside0.mk (Kd.R_elder' (by (with_reducible repeat (first | apply Kd.R_alloc | apply Kd.R_drewN | apply Kd.R_drew)); exact HO_420001.out) (Kd.R_base ho0) hb)
                      have n1_ := Aside0.mk (Kd.R_elder' (by (with_reducible repeat (first | apply Kd.R_alloc | apply Kd.R_drewN | apply Kd.R_drew)); exact HO_425001.out) (Kd.R_base ho0) hb)
                      have n2_ := Aside0.mk (Kd.R_elder' (by (with_reducible repeat (first | apply Kd.R_alloc | apply Kd.R_drewN | apply Kd.R_drew)); exact HO444.out) (Kd.R_base ho0) hb)
                      have n3_ := Aside0.mk (Kd.R_elder' (by (with_reducible repeat (first | apply Kd.R_alloc | apply Kd.R_drewN | apply Kd.R_drew)); exact HO448.out) (Kd.R_base ho0) hb)
                      have n4_ := Aside0.mk (Kd.R_lower (Kd.R_new' (Kd.R_new' (Kd.R_new' (Kd.R_new' ho0 (Kd.R_lt (by (with_reducible repeat (first | apply Kd.R_alloc | apply Kd.R_drewN | apply Kd.R_drew)); exact HO_420001.out))) (Kd.R_lt (by (with_reducible repeat (first | apply Kd.R_alloc | apply Kd.R_drewN | apply Kd.R_drew)); exact HO_425001.out))) (Kd.R_lt (by (with_reducible repeat (first | apply Kd.R_alloc | apply Kd.R_drewN | apply Kd.R_drew)); exact HO444.out))) (Kd.R_lt (by (with_reducible repeat (first | apply Kd.R_alloc | apply Kd.R_drewN | apply Kd.R_drew)); exact HO448.out))) (below_size (by repeat (first | (with_reducible first | exact HB.out | apply below_alloc | apply pw_below_drewN | apply below_drew1 | refine below_set ?_ GE419.out | refine below_set ?_ GE424.out) | exact HB.out))))
                      have n5_ := Aside0.mk (blk_below (g := gb419) (o := .cells #[.bool x420000_20, .slice Ao71 x420001_20.length co71] 30 (0, 0)) (by (with_reducible repeat (first | refine blk_drewN ?_ _ | refine blk_drew ?_ | refine blk_alloc ?_ _)); exact BK419.out) hb)
                      have n6_ := Aside0.mk (blk_below (g := gb424) (o := .cells #[.bool x425000_20, .slice Ao68 x425001_20.length co68] 30 (0, 0)) (by (with_reducible repeat (first | refine blk_drewN ?_ _ | refine blk_drew ?_ | refine blk_alloc ?_ _)); exact BK424.out) hb)
                      have n7_ := Aside0.mk (below_step (by repeat (first | (with_reducible first | exact HB.out | apply below_alloc | apply pw_below_drewN | apply below_drew1 | refine below_set ?_ GE419.out | refine below_set ?_ GE424.out) | exact HB.out)) hb)
                      clear HO_420001
                      clear HO_425001
                      clear HO444
                      clear HO448
                      clear BK419
                      clear BK424
                      clear HB
                      have HO_420001 := n0_
                      have HO_425001 := n1_
                      have HO444 := n2_
                      have HO448 := n3_
                      have HO453 := n4_
                      have BK419 := n5_
                      have BK424 := n6_
                      have HB := n7_
                      clear n0_ n1_ n2_ n3_ n4_ n5_ n6_ n7_
                      (try clear hb)
                      (try clear hb2)
                      (try clear hk)
                      (try clear hi)
                      (try clear ho0)
                      obtain ⟨Ao75, co75, eo75⟩ := Kd.R_slice HO453.out
                      (first | subst eo75 | (injection eo75 with f1_ f2_ f3_; have f4_ := f1_.symm; have f5_ := f3_.symm; clear f1_ f2_ f3_; subst f4_; subst f5_))
                      refine hK.out _ _ ⟨(blk_cell BK424.out 0).trans rfl, (blk_cell BK424.out 1).trans rfl, (blk_cell BK419.out 0).trans rfl, (blk_cell BK419.out 1).trans rfl⟩ (fun hHeld => ?_)
                      clear hK K
                      refine norm_ (a' := ?_) ?_ ?_
                      rotate_left
                      · show Act.put _ (some 79) _ = _
                        simp only [Act.put, List.setIfInBounds_toArray, List.set_cons_zero, List.set_cons_succ, i64_w, i32_w]
                        rfl
                      refine one_ (i := 4) (N := some 81) #[true, true, true, true, true, true, false, false, false] rfl rfl (one_of HT_.out (by kernel_rfl)) (by decide) (fun K hK => ?_)
                      refine goes_ Try.func20 (by kernel_rfl) rfl #[.agg #[.bool t450, .slice Ao75 t451.length co75], .agg #[.bool x425000_20, .slice Ao68 x425001_20.length co68]] (by rfl) rfl rfl (by (try simp only [List.map_toArray, List.map_cons, List.map_nil]); first | done | rfl | (simp only [List.length_drop, List.length_take]; rfl)) ?_
                      with_reducible refine (windhoverref00_Times.calls kj20 t450 _ _ t451 x425000_20 _ _ x425001_20 t454 t455 _ ?side1 ?side2 ?side3 ?side4 A60.out).mono ?_
                      (case side1 => repeat (first | exact (Kd.R_reads' HO453.out).2.2 | (with_reducible refine Kd.C_alloc ?_ _) | (with_reducible refine Kd.C_drewN ?_ _) | (with_reducible refine Kd.C_drew ?_)))
                      (case side2 => exact (Kd.R_reads' HO453.out).2.1)
                      (case side3 => repeat (first | exact (Kd.R_reads' HO_425001.out).2.2 | (with_reducible refine Kd.C_alloc ?_ _) | (with_reducible refine Kd.C_drewN ?_ _) | (with_reducible refine Kd.C_drew ?_)))
                      (case side4 => exact (Kd.R_reads' HO_425001.out).2.1)
                      rintro e w76 ⟨v456, rfl, ho0, hb⟩
                      refine ⟨_, rfl, ?_⟩
                      have n0_ := Aside0.mk (Kd.R_elder' (by (with_reducible repeat (first | apply Kd.R_alloc | apply Kd.R_drewN | apply Kd.R_drew)); exact HO_420001.out) (Kd.R_base ho0) hb)
                      have n1_ := Aside0.mk (Kd.R_elder' (by (with_reducible repeat (first | apply Kd.R_alloc | apply Kd.R_drewN | apply Kd.R_drew)); exact HO_425001.out) (Kd.R_base ho0) hb)
                      have n2_ := Aside0.mk (Kd.R_elder' (by (with_reducible repeat (first | apply Kd.R_alloc | apply Kd.R_drewN | apply Kd.R_drew)); exact HO444.out) (Kd.R_base ho0) hb)
                      have n3_ := Aside0.mk (Kd.R_elder' (by (with_reducible repeat (first | apply Kd.R_alloc | apply Kd.R_drewN | apply Kd.R_drew)); exact HO448.out) (Kd.R_base ho0) hb)
                      have n4_ := Aside0.mk (Kd.R_elder' (by (with_reducible repeat (first | apply Kd.R_alloc | apply Kd.R_drewN | apply Kd.R_drew)); exact HO453.out) (Kd.R_base ho0) hb)
                      have n5_ := Aside0.mk (Kd.R_lower (Kd.R_new' (Kd.R_new' (Kd.R_new' (Kd.R_new' (Kd.R_new' ho0 (Kd.R_lt (by (with_reducible repeat (first | apply Kd.R_alloc | apply Kd.R_drewN | apply Kd.R_drew)); exact HO_420001.out))) (Kd.R_lt (by (with_reducible repeat (first | apply Kd.R_alloc | apply Kd.R_drewN | apply Kd.R_drew)); exact HO_425001.out))) (Kd.R_lt (by (with_reducible repeat (first | apply Kd.R_alloc | apply Kd.R_drewN | apply Kd.R_drew)); exact HO444.out))) (Kd.R_lt (by (with_reducible repeat (first | apply Kd.R_alloc | apply Kd.R_drewN | apply Kd.R_drew)); exact HO448.out))) (Kd.R_lt (by (with_reducible repeat (first | apply Kd.R_alloc | apply Kd.R_drewN | apply Kd.R_drew)); exact HO453.out))) (below_size (by repeat (first | (with_reducible first | exact HB.out | apply below_alloc | apply pw_below_drewN | apply below_drew1 | refine below_set ?_ GE419.out | refine below_set ?_ GE424.out) | exact HB.out))))
                      have n6_ := Aside0.mk (blk_below (g := gb419) (o := .cells #[.bool x420000_20, .slice Ao71 x420001_20.length co71] 30 (0, 0)) (by (with_reducible repeat (first | refine blk_drewN ?_ _ | refine blk_drew ?_ | refine blk_alloc ?_ _)); exact BK419.out) hb)
                      have n7_ := Aside0.mk (blk_below (g := gb424) (o := .cells #[.bool x425000_20, .slice Ao68 x425001_20.length co68] 30 (0, 0)) (by (with_reducible repeat (first | refine blk_drewN ?_ _ | refine blk_drew ?_ | refine blk_alloc ?_ _)); exact BK424.out) hb)
                      have n8_ := Aside0.mk (below_step (by repeat (first | (with_reducible first | exact HB.out | apply below_alloc | apply pw_below_drewN | apply below_drew1 | refine below_set ?_ GE419.out | refine below_set ?_ GE424.out) | exact HB.out)) hb)
                      clear HO_420001
                      clear HO_425001
                      clear HO444
                      clear HO448
                      clear HO453
                      clear BK419
                      clear BK424
                      clear HB
                      have HO_420001 := n0_
                      have HO_425001 := n1_
                      have HO444 := n2_
                      have HO448 := n3_
                      have HO453 := n4_
                      have HO457 := n5_
                      have BK419 := n6_
                      have BK424 := n7_
                      have HB := n8_
                      clear n0_ n1_ n2_ n3_ n4_ n5_ n6_ n7_ n8_
                      (try clear hb)
                      (try clear hb2)
                      (try clear hk)
                      (try clear hi)
                      (try clear ho0)
                      obtain ⟨Ao77, co77, eo77⟩ := Kd.R_slice HO457.out
                      (first | subst eo77 | (injection eo77 with f1_ f2_ f3_; have f4_ := f1_.symm; have f5_ := f3_.symm; clear f1_ f2_ f3_; subst f4_; subst f5_))
                      refine hK.out _ _ ⟨(blk_cell BK424.out 0).trans rfl, (blk_cell BK424.out 1).trans rfl, (blk_cell BK419.out 0).trans rfl, (blk_cell BK419.out 1).trans rfl⟩ (fun hHeld => ?_)
                      clear hK K
                      refine norm_ (a' := ?_) ?_ ?_
                      rotate_left
                      · show Act.put _ (some 81) _ = _
                        simp only [Act.put, List.setIfInBounds_toArray, List.set_cons_zero, List.set_cons_succ, i64_w, i32_w]
                        rfl
                      refine one_ (i := 6) (N := some 83) #[true, true, true, true, true, true, true, false, false] rfl rfl (one_of HT_.out (by kernel_rfl)) (by decide) (fun K hK => ?_)
                      refine goes_ Try.func22 (by kernel_rfl) rfl #[.agg #[.bool t454, .slice Ao77 t455.length co77], .agg #[.bool x420000_20, .slice Ao71 x420001_20.length co71]] (by rfl) rfl rfl (by (try simp only [List.map_toArray, List.map_cons, List.map_nil]); first | done | rfl | (simp only [List.length_drop, List.length_take]; rfl)) ?_
                      with_reducible refine (windhoverref00_Cmp.calls kj20 t454 _ _ t455 x420000_20 _ _ x420001_20 t458 _ ?side1 ?side2 ?side3 ?side4 A61.out).mono ?_
                      (case side1 => repeat (first | exact (Kd.R_reads' HO457.out).2.2 | (with_reducible refine Kd.C_alloc ?_ _) | (with_reducible refine Kd.C_drewN ?_ _) | (with_reducible refine Kd.C_drew ?_)))
                      (case side2 => exact (Kd.R_reads' HO457.out).2.1)
                      (case side3 => repeat (first | exact (Kd.R_reads' HO_420001.out).2.2 | (with_reducible refine Kd.C_alloc ?_ _) | (with_reducible refine Kd.C_drewN ?_ _) | (with_reducible refine Kd.C_drew ?_)))
                      (case side4 => exact (Kd.R_reads' HO_420001.out).2.1)
                      rintro e w78 ⟨rfl, hb⟩
                      refine ⟨_, rfl, ?_⟩
                      have n0_ := Aside0.mk (Kd.R_below (by (with_reducible repeat (first | apply Kd.R_alloc | apply Kd.R_drewN | apply Kd.R_drew)); exact HO_420001.out) hb)
                      have n1_ := Aside0.mk (Kd.R_below (by (with_reducible repeat (first | apply Kd.R_alloc | apply Kd.R_drewN | apply Kd.R_drew)); exact HO_425001.out) hb)
                      have n2_ := Aside0.mk (Kd.R_below (by (with_reducible repeat (first | apply Kd.R_alloc | apply Kd.R_drewN | apply Kd.R_drew)); exact HO444.out) hb)
                      have n3_ := Aside0.mk (Kd.R_below (by (with_reducible repeat (first | apply Kd.R_alloc | apply Kd.R_drewN | apply Kd.R_drew)); exact HO448.out) hb)
                      have n4_ := Aside0.mk (Kd.R_below (by (with_reducible repeat (first | apply Kd.R_alloc | apply Kd.R_drewN | apply Kd.R_drew)); exact HO453.out) hb)
                      have n5_ := Aside0.mk (Kd.R_below (by (with_reducible repeat (first | apply Kd.R_alloc | apply Kd.R_drewN | apply Kd.R_drew)); exact HO457.out) hb)
                      have n6_ := Aside0.mk (blk_below (g := gb419) (o := .cells #[.bool x420000_20, .slice Ao71 x420001_20.length co71] 30 (0, 0)) (by (with_reducible repeat (first | refine blk_drewN ?_ _ | refine blk_drew ?_ | refine blk_alloc ?_ _)); exact BK419.out) hb)
                      have n7_ := Aside0.mk (blk_below (g := gb424) (o := .cells #[.bool x425000_20, .slice Ao68 x425001_20.length co68] 30 (0, 0)) (by (with_reducible repeat (first | refine blk_drewN ?_ _ | refine blk_drew ?_ | refine blk_alloc ?_ _)); exact BK424.out) hb)
                      have n8_ := Aside0.mk (below_step (by repeat (first | (with_reducible first | exact HB.out | apply below_alloc | apply pw_below_drewN | apply below_drew1 | refine below_set ?_ GE419.out | refine below_set ?_ GE424.out) | exact HB.out)) hb)
                      clear HO_420001
                      clear HO_425001
                      clear HO444
                      clear HO448
                      clear HO453
                      clear HO457
                      clear BK419
                      clear BK424
                      clear HB
                      have HO_420001 := n0_
                      have HO_425001 := n1_
                      have HO444 := n2_
                      have HO448 := n3_
                      have HO453 := n4_
                      have HO457 := n5_
                      have BK419 := n6_
                      have BK424 := n7_
                      have HB := n8_
                      clear n0_ n1_ n2_ n3_ n4_ n5_ n6_ n7_ n8_
                      (try clear hb)
                      (try clear hb2)
                      (try clear hk)
                      (try clear hi)
                      refine hK.out _ _ ⟨(blk_cell BK424.out 0).trans rfl, (blk_cell BK424.out 1).trans rfl, (blk_cell BK419.out 0).trans rfl, (blk_cell BK419.out 1).trans rfl⟩ (fun hHeld => ?_)
                      clear hK K
                      refine norm_ (a' := ?_) ?_ ?_
                      rotate_left
                      · show Act.put _ (some 83) _ = _
                        simp only [Act.put, List.setIfInBounds_toArray, List.set_cons_zero, List.set_cons_succ, i64_w, i32_w]
                        rfl
                      refine pure_ (i := 7) (N := some 84) (v := ?_) (a' := ?_) #[true, true, true, true, true, true, true, true, false] rfl rfl (any_of HT_.out (by kernel_rfl)) (fun _ _ _ h => h) (Or.inl ⟨by rfl, ?_⟩) ?_ ?_
                      rotate_left
                      · intro w'
                        go_simp
                        with_reducible rfl
                      rotate_left
                      · simp only [Act.put, List.setIfInBounds_toArray, List.set_cons_zero, List.set_cons_succ, i64_w, i32_w]
                        rfl
                      refine pure_ (i := 8) (N := some 14) (v := ?_) (a' := ?_) #[true, true, true, true, true, true, true, true, true] rfl rfl (any_of HT_.out (by kernel_rfl)) (fun _ _ _ h => h) (Or.inl ⟨by rfl, ?_⟩) ?_ ?_
                      rotate_left
                      · intro w'
                        go_simp
                        with_reducible rfl
                      rotate_left
                      · simp only [Act.put, List.setIfInBounds_toArray, List.set_cons_zero, List.set_cons_succ, i64_w, i32_w]
                        rfl
                      refine done_ (done_of HT_.out (by kernel_rfl)) ?_
                      try go_wp2_with (first | (go_at_call 16; (with_reducible refine (windhoverlaw01_awake.calls kj20  t459 _ A64.out).mono ?_); rintro e w79 ⟨rfl, hb⟩; have n0_ := Aside0.mk (Kd.R_below (by (with_reducible repeat (first | apply Kd.R_alloc | apply Kd.R_drewN | apply Kd.R_drew)); exact HO_420001.out) hb); have n1_ := Aside0.mk (Kd.R_below (by (with_reducible repeat (first | apply Kd.R_alloc | apply Kd.R_drewN | apply Kd.R_drew)); exact HO_425001.out) hb); have n2_ := Aside0.mk (Kd.R_below (by (with_reducible repeat (first | apply Kd.R_alloc | apply Kd.R_drewN | apply Kd.R_drew)); exact HO444.out) hb); have n3_ := Aside0.mk (Kd.R_below (by (with_reducible repeat (first | apply Kd.R_alloc | apply Kd.R_drewN | apply Kd.R_drew)); exact HO448.out) hb); have n4_ := Aside0.mk (Kd.R_below (by (with_reducible repeat (first | apply Kd.R_alloc | apply Kd.R_drewN | apply Kd.R_drew)); exact HO453.out) hb); have n5_ := Aside0.mk (Kd.R_below (by (with_reducible repeat (first | apply Kd.R_alloc | apply Kd.R_drewN | apply Kd.R_drew)); exact HO457.out) hb); have n6_ := Aside0.mk (blk_below (g := gb419) (o := .cells #[.bool x420000_20, .slice Ao71 x420001_20.length co71] 30 (0, 0)) (by (with_reducible repeat (first | refine blk_drewN ?_ _ | refine blk_drew ?_ | refine blk_alloc ?_ _)); exact BK419.out) hb); have n7_ := Aside0.mk (blk_below (g := gb424) (o := .cells #[.bool x425000_20, .slice Ao68 x425001_20.length co68] 30 (0, 0)) (by (with_reducible repeat (first | refine blk_drewN ?_ _ | refine blk_drew ?_ | refine blk_alloc ?_ _)); exact BK424.out) hb); have n8_ := Aside0.mk (below_step (by repeat (first | (with_reducible first | exact HB.out | apply below_alloc | apply pw_below_drewN | apply below_drew1 | refine below_set ?_ GE419.out | refine below_set ?_ GE424.out) | exact HB.out)) hb); clear HO_420001; clear HO_425001; clear HO444; clear HO448; clear HO453; clear HO457; clear BK419; clear BK424; clear HB; have HO_420001 := n0_; have HO_425001 := n1_; have HO444 := n2_; have HO448 := n3_; have HO453 := n4_; have HO457 := n5_; have BK419 := n6_; have BK424 := n7_; have HB := n8_; clear n0_ n1_ n2_ n3_ n4_ n5_ n6_ n7_ n8_; (try clear hb); (try clear hb2); (try clear hk); (try clear hi)))
                      go_ret
                      exact ⟨by first | rfl | (simp [errW_none, errW_some] <;> rfl) | (simp [*, errW_none, errW_some] <;> rfl), by repeat (first | (with_reducible first | exact HB.out | apply below_alloc | apply pw_below_drewN | apply below_drew1 | refine below_set ?_ GE419.out | refine below_set ?_ GE424.out) | exact HB.out)⟩
                    · rw [if_neg c63] at H
                      exact absurd H (by simp)
                  · rw [if_neg c62] at H
                    exact absurd H (by simp)

/-- THE ONE PURE STATEMENT of windhoverlaw01_FixShares: yours. -/
def windhoverlaw01_FixShares.Pure : Prop := ∀ (a0 : Int) (a1 : Int) (a2 : Int), (Lit.int .i64 a0).wf = true → (Lit.int .i64 a1).wf = true → (Lit.int .i64 a2).wf = true → ∃ k, windhoverlaw01_FixShares.f k a0 a1 a2 = some true
theorem windhoverlaw01_FixShares.walk (P : windhoverlaw01_FixShares.Pure) (a0 : Int) (a1 : Int) (a2 : Int) (w : World) (w0 : (Lit.int .i64 a0).wf = true) (w1 : (Lit.int .i64 a1).wf = true) (w2 : (Lit.int .i64 a2).wf = true) :
    Calls Try.prog 6 #[.int .i64 a0, .int .i64 a1, .int .i64 a2] w fun e w' => e = .returned (.bool true) ∧ Below w.heap.size w w' := by
  obtain ⟨k, h⟩ := P a0 a1 a2 w0 w1 w2
  refine (windhoverlaw01_FixShares.calls k a0 a1 a2 true w h).mono ?_
  rintro e w' ⟨rfl, hd⟩
  exact ⟨rfl, hd⟩

end Go.Proofs.Ytmjhhcalcpodjaa.PFixShares
