-- WRITTEN BY wip/tools/aprint.py of this claim's repository over the kit's words: not typed by hand
import Derived.Test.YtpfnonfehkiemaaPEstTurnsx0
import Derived.Test.YtpfnonfehkiemaaPEstTurnsx5
import Derived.Test.YtpfnonfehkiemaaPEstTurnsx7
import Derived.Test.YtpfnonfehkiemaaPEstTurnsx8
namespace Go.Proofs.Ytpfnonfehkiemaa.PEstTurns
open Go.RowKit Go.Proofs.YtpfnonfehkiemaaW.PrintWords Go.Proofs.YtpfnonfehkiemaaW.PrintLast Go.Proofs.YtpfnonfehkiemaaW.PrintMore
attribute [local go_sem] max2_int min2_int max_two min_two max_three min_three max_four min_four   -- for this text's walks alone
set_option linter.unusedVariables false
set_option linter.unusedSimpArgs false

/-! ### windhoverlaw13_EstTurns: function 4 -/
mutual
def windhoverlaw13_EstTurns.j0 : Nat → Int → Int → List (S48) → Bool → Int → Bool → Int → Int → Int → Int → Option (Bool)
  | 0, _, _, _, _, _, _, _, _, _, _ => none
  | k + 1, x0, x1, x2, x40, x336000, x336001, x336002, x336003, x336004, x336005 => if x40 = true then ((windhoverlaw13_awake.f k).bind fun t338 => (some t338)) else ((est_Compass_Step.f k x336000 x336001 x336002 x336003 x336004 x336005 false 0 0 true x0 x1).bind fun bt339 => (windhoverlaw13_EstTurns.l0 k x1 x2 (wrap64 (16 * x0)) 0 bt339.1 bt339.2.1 bt339.2.2.1 bt339.2.2.2.1 bt339.2.2.2.2.1 bt339.2.2.2.2.2))
def windhoverlaw13_EstTurns.l0 : Nat → Int → List (S48) → Int → Int → Int → Bool → Int → Int → Int → Int → Option (Bool)
  | 0, _, _, _, _, _, _, _, _, _, _ => none
  | k + 1, x1, x2, x9, x10, x336000, x336001, x336002, x336003, x336004, x336005 => if x10 < (x2.length : Int) then (if 0 ≤ x10 then (if ((rd_T48 x2 x10).f0) < (-4000) then (windhoverlaw13_EstTurns.j2 k x1 x2 x9 x10 true x336000 x336001 x336002 x336003 x336004 x336005 ((rd_T48 x2 x10).f0) ((rd_T48 x2 x10).f1) ((rd_T48 x2 x10).f2) ((rd_T48 x2 x10).f3) ((rd_T48 x2 x10).f4)) else (if ((rd_T48 x2 x10).f0) > 4000 then (windhoverlaw13_EstTurns.j2 k x1 x2 x9 x10 true x336000 x336001 x336002 x336003 x336004 x336005 ((rd_T48 x2 x10).f0) ((rd_T48 x2 x10).f1) ((rd_T48 x2 x10).f2) ((rd_T48 x2 x10).f3) ((rd_T48 x2 x10).f4)) else (if ((rd_T48 x2 x10).f1) < (wrap64 (-x1)) then (windhoverlaw13_EstTurns.j2 k x1 x2 x9 x10 true x336000 x336001 x336002 x336003 x336004 x336005 ((rd_T48 x2 x10).f0) ((rd_T48 x2 x10).f1) ((rd_T48 x2 x10).f2) ((rd_T48 x2 x10).f3) ((rd_T48 x2 x10).f4)) else (if ((rd_T48 x2 x10).f1) > x1 then (windhoverlaw13_EstTurns.j2 k x1 x2 x9 x10 true x336000 x336001 x336002 x336003 x336004 x336005 ((rd_T48 x2 x10).f0) ((rd_T48 x2 x10).f1) ((rd_T48 x2 x10).f2) ((rd_T48 x2 x10).f3) ((rd_T48 x2 x10).f4)) else (if ((rd_T48 x2 x10).f2) < (wrap64 (-x1)) then (windhoverlaw13_EstTurns.j2 k x1 x2 x9 x10 true x336000 x336001 x336002 x336003 x336004 x336005 ((rd_T48 x2 x10).f0) ((rd_T48 x2 x10).f1) ((rd_T48 x2 x10).f2) ((rd_T48 x2 x10).f3) ((rd_T48 x2 x10).f4)) else (windhoverlaw13_EstTurns.j2 k x1 x2 x9 x10 (decide (((rd_T48 x2 x10).f2) > x1)) x336000 x336001 x336002 x336003 x336004 x336005 ((rd_T48 x2 x10).f0) ((rd_T48 x2 x10).f1) ((rd_T48 x2 x10).f2) ((rd_T48 x2 x10).f3) ((rd_T48 x2 x10).f4))))))) else (none)) else ((windhoverlaw13_awake.f k).bind fun t345 => (some t345))
def windhoverlaw13_EstTurns.j2 : Nat → Int → List (S48) → Int → Int → Bool → Int → Bool → Int → Int → Int → Int → Int → Int → Int → Bool → Bool → Option (Bool)
  | 0, _, _, _, _, _, _, _, _, _, _, _, _, _, _, _, _ => none
  | k + 1, x1, x2, x9, x10, x93, x336000, x336001, x336002, x336003, x336004, x336005, x348000, x348001, x348002, x348003, x348004 => if x93 = true then ((windhoverlaw13_awake.f k).bind fun t348 => (some t348)) else ((windhoverref13_Round.f (wrap64 (x9 + x348000))).bind fun t349 => ((windhoverref13_Round.f (wrap64 (t349 + 8))).bind fun t350 => ((est_Compass_Step.f k x336000 x336001 x336002 x336003 x336004 x336005 x348003 (wrap64 (x348000 + x348001)) x1 x348004 (wrap64 ((wrap64 (Int.tdiv t350 16)) + x348002)) (wrap64 (x1 + 1))).bind fun bt351 => ((est_Compass_Heading.f bt351.1 bt351.2.1 bt351.2.2.1 bt351.2.2.2.1 bt351.2.2.2.2.1 bt351.2.2.2.2.2).bind fun bt357 => (if bt357.2.1 > 400000 then ((windhoverlaw13_awake.f k).bind fun t366 => (some t366)) else ((windhoverref13_Way.f t349 bt357.1).bind fun t367 => (if t367 > bt357.2.1 then (none) else (if t367 < (wrap64 (-bt357.2.1)) then (none) else (windhoverlaw13_EstTurns.l0 k x1 x2 t349 (wrap64 (x10 + 1)) bt351.1 bt351.2.1 bt351.2.2.1 bt351.2.2.2.1 bt351.2.2.2.2.1 bt351.2.2.2.2.2)))))))))
end
def windhoverlaw13_EstTurns.f (k : Nat) (a0 : Int) (a1 : Int) (l2 : List (S48)) : Option (Bool) := (est_NewCompass.f 5).bind fun bt329 => (if bt329.2.2.2.2.2.2 = 0 then (if a0 < 0 then (windhoverlaw13_EstTurns.j0 k a0 a1 l2 true bt329.1 bt329.2.1 bt329.2.2.1 bt329.2.2.2.1 bt329.2.2.2.2.1 bt329.2.2.2.2.2.1) else (if a0 ≥ 65536 then (windhoverlaw13_EstTurns.j0 k a0 a1 l2 true bt329.1 bt329.2.1 bt329.2.2.1 bt329.2.2.2.1 bt329.2.2.2.2.1 bt329.2.2.2.2.2.1) else (if a1 < 0 then (windhoverlaw13_EstTurns.j0 k a0 a1 l2 true bt329.1 bt329.2.1 bt329.2.2.1 bt329.2.2.2.1 bt329.2.2.2.2.1 bt329.2.2.2.2.2.1) else (windhoverlaw13_EstTurns.j0 k a0 a1 l2 (decide (a1 > 64)) bt329.1 bt329.2.1 bt329.2.2.1 bt329.2.2.2.1 bt329.2.2.2.2.1 bt329.2.2.2.2.2.1)))) else (none))
theorem windhoverlaw13_EstTurns.mono_l : ∀ k, (∀ y0 y1 y2 y3 y4 y5 y6 y7 y8 y9, LeO (windhoverlaw13_EstTurns.j0 k y0 y1 y2 y3 y4 y5 y6 y7 y8 y9) (windhoverlaw13_EstTurns.j0 (k + 1) y0 y1 y2 y3 y4 y5 y6 y7 y8 y9)) ∧ (∀ y0 y1 y2 y3 y4 y5 y6 y7 y8 y9, LeO (windhoverlaw13_EstTurns.l0 k y0 y1 y2 y3 y4 y5 y6 y7 y8 y9) (windhoverlaw13_EstTurns.l0 (k + 1) y0 y1 y2 y3 y4 y5 y6 y7 y8 y9)) ∧ (∀ y0 y1 y2 y3 y4 y5 y6 y7 y8 y9 y10 y11 y12 y13 y14 y15, LeO (windhoverlaw13_EstTurns.j2 k y0 y1 y2 y3 y4 y5 y6 y7 y8 y9 y10 y11 y12 y13 y14 y15) (windhoverlaw13_EstTurns.j2 (k + 1) y0 y1 y2 y3 y4 y5 y6 y7 y8 y9 y10 y11 y12 y13 y14 y15))
  | 0 => ⟨fun _ _ _ _ _ _ _ _ _ _ r h => by simp [windhoverlaw13_EstTurns.j0] at h, fun _ _ _ _ _ _ _ _ _ _ r h => by simp [windhoverlaw13_EstTurns.l0] at h, fun _ _ _ _ _ _ _ _ _ _ _ _ _ _ _ _ r h => by simp [windhoverlaw13_EstTurns.j2] at h⟩
  | k + 1 => by
    obtain ⟨ih0, ih1, ih2⟩ := windhoverlaw13_EstTurns.mono_l k
    refine ⟨?_, ?_, ?_⟩
    · intro y0 y1 y2 y3 y4 y5 y6 y7 y8 y9
      unfold windhoverlaw13_EstTurns.j0
      repeat' first
      | (with_reducible exact ih0 _ _ _ _ _ _ _ _ _ _)
      | (with_reducible exact ih1 _ _ _ _ _ _ _ _ _ _)
      | (with_reducible exact ih2 _ _ _ _ _ _ _ _ _ _ _ _ _ _ _ _)
      | (with_reducible exact est_Compass_Step.mono _ _ _ _ _ _ _ _ _ _ _ _ _)
      | (with_reducible exact windhoverlaw13_awake.mono _)
      | (with_reducible exact LeO.refl _)
      | (with_reducible exact LeO.none _)
      | (with_reducible refine LeO.ite ?_ ?_)
      | (with_reducible refine LeO.bind ?_ (fun _ => ?_))
      | exact ih0 _ _ _ _ _ _ _ _ _ _
      | exact ih1 _ _ _ _ _ _ _ _ _ _
      | exact ih2 _ _ _ _ _ _ _ _ _ _ _ _ _ _ _ _
      | exact est_Compass_Step.mono _ _ _ _ _ _ _ _ _ _ _ _ _
      | exact windhoverlaw13_awake.mono _
      | exact LeO.none _
      | refine LeO.ite ?_ ?_
      | refine LeO.bind ?_ (fun _ => ?_)
    · intro y0 y1 y2 y3 y4 y5 y6 y7 y8 y9
      unfold windhoverlaw13_EstTurns.l0
      repeat' first
      | (with_reducible exact ih0 _ _ _ _ _ _ _ _ _ _)
      | (with_reducible exact ih1 _ _ _ _ _ _ _ _ _ _)
      | (with_reducible exact ih2 _ _ _ _ _ _ _ _ _ _ _ _ _ _ _ _)
      | (with_reducible exact est_Compass_Step.mono _ _ _ _ _ _ _ _ _ _ _ _ _)
      | (with_reducible exact windhoverlaw13_awake.mono _)
      | (with_reducible exact LeO.refl _)
      | (with_reducible exact LeO.none _)
      | (with_reducible refine LeO.ite ?_ ?_)
      | (with_reducible refine LeO.bind ?_ (fun _ => ?_))
      | exact ih0 _ _ _ _ _ _ _ _ _ _
      | exact ih1 _ _ _ _ _ _ _ _ _ _
      | exact ih2 _ _ _ _ _ _ _ _ _ _ _ _ _ _ _ _
      | exact est_Compass_Step.mono _ _ _ _ _ _ _ _ _ _ _ _ _
      | exact windhoverlaw13_awake.mono _
      | exact LeO.none _
      | refine LeO.ite ?_ ?_
      | refine LeO.bind ?_ (fun _ => ?_)
    · intro y0 y1 y2 y3 y4 y5 y6 y7 y8 y9 y10 y11 y12 y13 y14 y15
      unfold windhoverlaw13_EstTurns.j2
      repeat' first
      | (with_reducible exact ih0 _ _ _ _ _ _ _ _ _ _)
      | (with_reducible exact ih1 _ _ _ _ _ _ _ _ _ _)
      | (with_reducible exact ih2 _ _ _ _ _ _ _ _ _ _ _ _ _ _ _ _)
      | (with_reducible exact est_Compass_Step.mono _ _ _ _ _ _ _ _ _ _ _ _ _)
      | (with_reducible exact windhoverlaw13_awake.mono _)
      | (with_reducible exact LeO.refl _)
      | (with_reducible exact LeO.none _)
      | (with_reducible refine LeO.ite ?_ ?_)
      | (with_reducible refine LeO.bind ?_ (fun _ => ?_))
      | exact ih0 _ _ _ _ _ _ _ _ _ _
      | exact ih1 _ _ _ _ _ _ _ _ _ _
      | exact ih2 _ _ _ _ _ _ _ _ _ _ _ _ _ _ _ _
      | exact est_Compass_Step.mono _ _ _ _ _ _ _ _ _ _ _ _ _
      | exact windhoverlaw13_awake.mono _
      | exact LeO.none _
      | refine LeO.ite ?_ ?_
      | refine LeO.bind ?_ (fun _ => ?_)
theorem windhoverlaw13_EstTurns.mono : ∀ a0 a1 a2 k, LeO (windhoverlaw13_EstTurns.f k a0 a1 a2) (windhoverlaw13_EstTurns.f (k + 1) a0 a1 a2) := by
  intro a0 a1 a2 k
  obtain ⟨ih0, ih1, ih2⟩ := windhoverlaw13_EstTurns.mono_l k
  unfold windhoverlaw13_EstTurns.f
  repeat' first
      | (with_reducible exact ih0 _ _ _ _ _ _ _ _ _ _)
      | (with_reducible exact ih1 _ _ _ _ _ _ _ _ _ _)
      | (with_reducible exact ih2 _ _ _ _ _ _ _ _ _ _ _ _ _ _ _ _)
      | (with_reducible exact est_Compass_Step.mono _ _ _ _ _ _ _ _ _ _ _ _ _)
      | (with_reducible exact windhoverlaw13_awake.mono _)
      | (with_reducible exact LeO.refl _)
      | (with_reducible exact LeO.none _)
      | (with_reducible refine LeO.ite ?_ ?_)
      | (with_reducible refine LeO.bind ?_ (fun _ => ?_))
      | exact ih0 _ _ _ _ _ _ _ _ _ _
      | exact ih1 _ _ _ _ _ _ _ _ _ _
      | exact ih2 _ _ _ _ _ _ _ _ _ _ _ _ _ _ _ _
      | exact est_Compass_Step.mono _ _ _ _ _ _ _ _ _ _ _ _ _
      | exact windhoverlaw13_awake.mono _
      | exact LeO.none _
      | refine LeO.ite ?_ ?_
      | refine LeO.bind ?_ (fun _ => ?_)
set_option maxHeartbeats 8000000 in
set_option maxRecDepth 100000 in
theorem windhoverlaw13_EstTurns.calls (k : Nat) (a0 : Int) (a1 : Int) (A2 : Option Addr) (c2 : Nat) (l2 : List (S48)) (r : Bool) (w : World) (hr2 : Kd.C k48 w A2 l2.length l2) (hc2 : l2.length ≤ c2) (h : windhoverlaw13_EstTurns.f k a0 a1 l2 = some r) :
    Calls Try.prog 4 #[.int .i64 a0, .int .i64 a1, .slice A2 l2.length c2] w fun e w' => e = .returned (.bool r) ∧ Below w.heap.size w w' := by
  have hu33 := Try.underlying33
  have hu48 := Try.underlying48
  have HR2 := Aside0.mk hr2
  have HC2 := Aside0.mk hc2
  clear hr2 hc2
  have HB := Aside0.mk (Below.refl w.heap.size w)
  have H : ((est_NewCompass.f 5).bind fun bt329 => (if bt329.2.2.2.2.2.2 = 0 then (if a0 < 0 then (windhoverlaw13_EstTurns.j0 k a0 a1 l2 true bt329.1 bt329.2.1 bt329.2.2.1 bt329.2.2.2.1 bt329.2.2.2.2.1 bt329.2.2.2.2.2.1) else (if a0 ≥ 65536 then (windhoverlaw13_EstTurns.j0 k a0 a1 l2 true bt329.1 bt329.2.1 bt329.2.2.1 bt329.2.2.2.1 bt329.2.2.2.2.1 bt329.2.2.2.2.2.1) else (if a1 < 0 then (windhoverlaw13_EstTurns.j0 k a0 a1 l2 true bt329.1 bt329.2.1 bt329.2.2.1 bt329.2.2.2.1 bt329.2.2.2.2.1 bt329.2.2.2.2.2.1) else (windhoverlaw13_EstTurns.j0 k a0 a1 l2 (decide (a1 > 64)) bt329.1 bt329.2.1 bt329.2.2.1 bt329.2.2.2.1 bt329.2.2.2.2.1 bt329.2.2.2.2.2.1)))) else (none))) = some r := h
  clear h
  replace H := Option.bind_eq_some_iff.mp H
  obtain ⟨⟨t329, t330, t331, t332, t333, t334, t336⟩, A40, H⟩ := H
  replace H : (if t336 = 0 then (if a0 < 0 then (windhoverlaw13_EstTurns.j0 k a0 a1 l2 true t329 t330 t331 t332 t333 t334) else (if a0 ≥ 65536 then (windhoverlaw13_EstTurns.j0 k a0 a1 l2 true t329 t330 t331 t332 t333 t334) else (if a1 < 0 then (windhoverlaw13_EstTurns.j0 k a0 a1 l2 true t329 t330 t331 t332 t333 t334) else (windhoverlaw13_EstTurns.j0 k a0 a1 l2 (decide (a1 > 64)) t329 t330 t331 t332 t333 t334)))) else (none)) = some r := H
  have A4 := Aside0.mk A40
  clear A40
  by_cases c5 : t336 = 0
  · rw [if_pos c5] at H
    have c5b0 : (t336 == 0) = true := beq_iff_eq.mpr c5
    have c5b1 : (t336 != 0) = false := bne_eq_false_iff_eq.mpr c5
    clear c5
    have HC6 := Aside0.mk H
    clear H
    go_enter Try.func4, Try.ntmps4
    go_upto_region 4 with (first | (go_at_call 12; (with_reducible refine (est_NewCompass.callsNew 5 t329 t330 t331 t332 t333 t334 t336 w _ ?side1 A4.out (by assumption)).mono ?_); (case side1 => repeat (first | (with_reducible first | exact HB.out | apply below_alloc | apply pw_below_drewN | apply below_drew1) | exact HB.out)); rintro e w7 ⟨g335, rfl, hi, hb, hb2⟩; have n0_ := Aside0.mk (hb); have n1_ := Aside0.mk (hi); clear HB; have HB := n0_; have HI335 := n1_; clear n0_ n1_; (try clear hb); (try clear hb2); (try clear hk); (try clear hi)))
    repeat (go_quiet (first | (go_at_call 12; (with_reducible refine (est_NewCompass.callsNew 5 t329 t330 t331 t332 t333 t334 t336 w _ ?side1 A4.out (by assumption)).mono ?_); (case side1 => repeat (first | (with_reducible first | exact HB.out | apply below_alloc | apply pw_below_drewN | apply below_drew1) | exact HB.out)); rintro e w7 ⟨g335, rfl, hi, hb, hb2⟩; have n0_ := Aside0.mk (hb); have n1_ := Aside0.mk (hi); clear HB; have HB := n0_; have HI335 := n1_; clear n0_ n1_; (try clear hb); (try clear hb2); (try clear hk); (try clear hi))); go_upto_region 4 with (first | (go_at_call 12; (with_reducible refine (est_NewCompass.callsNew 5 t329 t330 t331 t332 t333 t334 t336 w _ ?side1 A4.out (by assumption)).mono ?_); (case side1 => repeat (first | (with_reducible first | exact HB.out | apply below_alloc | apply pw_below_drewN | apply below_drew1) | exact HB.out)); rintro e w7 ⟨g335, rfl, hi, hb, hb2⟩; have n0_ := Aside0.mk (hb); have n1_ := Aside0.mk (hi); clear HB; have HB := n0_; have HI335 := n1_; clear n0_ n1_; (try clear hb); (try clear hb2); (try clear hk); (try clear hi))))
    (try simp only [Act.put, List.setIfInBounds_toArray, List.set_cons_zero, List.set_cons_succ])
    go_cut [40] (fun v40 wc => ∃ (kq : Nat) (x40_5 : Bool), v40 = .bool x40_5 ∧ Aside0 (windhoverlaw13_EstTurns.j0 kq a0 a1 l2 x40_5 t329 t330 t331 t332 t333 t334 = some r) ∧ Aside0 (kq ≤ k) ∧ Aside0 (IsS67 w wc g335 t329 t330 t331 t332 t333 t334) ∧ Aside0 (Below w.heap.size w wc))
    case first =>
      have H := HC6.out
      clear HC6
      by_cases c8 : a0 < 0
      · rw [if_pos c8] at H
        have c8b0 : decide (a0 < 0) = true := decide_eq_true c8
        clear c8
        (first | rw [c8b0] | (simp only [i64_w, i32_w]; rw [c8b0]) | skip)
        have H' := Aside0.mk H
        clear H
        go_wp2
        go_meet
        case rel => exact ⟨_, (true), (by first | rfl | (simp; done) | (simp [*]; done)), H', ⟨by first | omega | exact Nat.le_refl _⟩, ⟨by repeat (first | (with_reducible first | exact HI335.out | apply IsS67.alloc | apply IsS67.drewN | apply IsS67.drew | apply IsS67.set_0 | apply IsS67.set_1 | apply IsS67.set_2 | apply IsS67.set_3 | apply IsS67.set_4 | apply IsS67.set_5) | exact HI335.out)⟩, ⟨by repeat (first | (with_reducible first | exact HB.out | apply below_alloc | apply pw_below_drewN | apply below_drew1 | refine below_set ?_ (IsS67.ge HI335.out)) | exact HB.out)⟩⟩
      · rw [if_neg c8] at H
        have c8b0 : decide (a0 < 0) = false := decide_eq_false c8
        clear c8
        (first | rw [c8b0] | (simp only [i64_w, i32_w]; rw [c8b0]) | skip)
        by_cases c9 : a0 ≥ 65536
        · rw [if_pos c9] at H
          have c9b0 : decide (65536 ≤ a0) = true := decide_eq_true c9
          clear c9
          have H' := Aside0.mk H
          clear H
          go_wp2
          go_meet
          case rel => exact ⟨_, (true), (by first | rfl | (simp; done) | (simp [*]; done)), H', ⟨by first | omega | exact Nat.le_refl _⟩, ⟨by repeat (first | (with_reducible first | exact HI335.out | apply IsS67.alloc | apply IsS67.drewN | apply IsS67.drew | apply IsS67.set_0 | apply IsS67.set_1 | apply IsS67.set_2 | apply IsS67.set_3 | apply IsS67.set_4 | apply IsS67.set_5) | exact HI335.out)⟩, ⟨by repeat (first | (with_reducible first | exact HB.out | apply below_alloc | apply pw_below_drewN | apply below_drew1 | refine below_set ?_ (IsS67.ge HI335.out)) | exact HB.out)⟩⟩
        · rw [if_neg c9] at H
          have c9b0 : decide (65536 ≤ a0) = false := decide_eq_false c9
          clear c9
          by_cases c10 : a1 < 0
          · rw [if_pos c10] at H
            have c10b0 : decide (a1 < 0) = true := decide_eq_true c10
            clear c10
            have H' := Aside0.mk H
            clear H
            go_wp2
            go_meet
            case rel => exact ⟨_, (true), (by first | rfl | (simp; done) | (simp [*]; done)), H', ⟨by first | omega | exact Nat.le_refl _⟩, ⟨by repeat (first | (with_reducible first | exact HI335.out | apply IsS67.alloc | apply IsS67.drewN | apply IsS67.drew | apply IsS67.set_0 | apply IsS67.set_1 | apply IsS67.set_2 | apply IsS67.set_3 | apply IsS67.set_4 | apply IsS67.set_5) | exact HI335.out)⟩, ⟨by repeat (first | (with_reducible first | exact HB.out | apply below_alloc | apply pw_below_drewN | apply below_drew1 | refine below_set ?_ (IsS67.ge HI335.out)) | exact HB.out)⟩⟩
          · rw [if_neg c10] at H
            have c10b0 : decide (a1 < 0) = false := decide_eq_false c10
            clear c10
            have H' := Aside0.mk H
            clear H
            go_wp2
            go_meet
            case rel => exact ⟨_, (decide (a1 > 64)), (by first | rfl | (simp; done) | (simp [*]; done)), H', ⟨by first | omega | exact Nat.le_refl _⟩, ⟨by repeat (first | (with_reducible first | exact HI335.out | apply IsS67.alloc | apply IsS67.drewN | apply IsS67.drew | apply IsS67.set_0 | apply IsS67.set_1 | apply IsS67.set_2 | apply IsS67.set_3 | apply IsS67.set_4 | apply IsS67.set_5) | exact HI335.out)⟩, ⟨by repeat (first | (with_reducible first | exact HB.out | apply below_alloc | apply pw_below_drewN | apply below_drew1 | refine below_set ?_ (IsS67.ge HI335.out)) | exact HB.out)⟩⟩
    case rest =>
      clear HC6
      try clear c1
      try clear c2
      try clear p2
      try clear c4
      try clear c5
      try clear c5b0
      try clear c5b1
      try clear c8
      try clear c8b0
      try clear c9
      try clear c9b0
      try clear c10
      try clear c10b0
      obtain ⟨kq, x40_5, rfl, HA, HJ5, HI335, HB⟩ := hcut
      cases kq with
      | zero => exact absurd HA.out (by simp [windhoverlaw13_EstTurns.j0])
      | succ kj5 =>
        have H := HA.out
        clear HA
        simp only [windhoverlaw13_EstTurns.j0] at H
        by_cases c11 : x40_5 = true
        · subst c11
          have H1 : ((windhoverlaw13_awake.f kj5).bind fun t338 => (some t338)) = some r := by rw [if_pos rfl] at H; exact H
          clear H
          have H := H1
          clear H1
          replace H := Option.bind_eq_some_iff.mp H
          obtain ⟨t338, A120, H⟩ := H
          replace H : (some t338) = some r := H
          have A12 := Aside0.mk A120
          clear A120
          obtain rfl := Option.some.inj H
          go_wp2_with (first | (go_at_call 8; (with_reducible refine (windhoverlaw13_awake.calls kj5  t338 _ A12.out).mono ?_); rintro e w13 ⟨rfl, hb⟩; have n0_ := Aside0.mk (IsS67.below (by repeat (first | (with_reducible first | exact HI335.out | apply IsS67.alloc | apply IsS67.drewN | apply IsS67.drew | apply IsS67.set_0 | apply IsS67.set_1 | apply IsS67.set_2 | apply IsS67.set_3 | apply IsS67.set_4 | apply IsS67.set_5) | exact HI335.out)) hb); have n1_ := Aside0.mk (below_step (by repeat (first | (with_reducible first | exact HB.out | apply below_alloc | apply pw_below_drewN | apply below_drew1 | refine below_set ?_ (IsS67.ge HI335.out)) | exact HB.out)) hb); clear HI335; clear HB; have HI335 := n0_; have HB := n1_; clear n0_ n1_; (try clear hb); (try clear hb2); (try clear hk); (try clear hi)))
          go_ret
          exact ⟨by first | rfl | (simp [errW_none, errW_some] <;> rfl) | (simp [*, errW_none, errW_some] <;> rfl), by repeat (first | (with_reducible first | exact HB.out | apply below_alloc | apply pw_below_drewN | apply below_drew1 | refine below_set ?_ (IsS67.ge HI335.out)) | exact HB.out)⟩
        · replace c11 := Bool.eq_false_iff.mpr c11
          subst c11
          have H1 : ((est_Compass_Step.f kj5 t329 t330 t331 t332 t333 t334 false 0 0 true a0 a1).bind fun bt339 => (windhoverlaw13_EstTurns.l0 kj5 a1 l2 (wrap64 (16 * a0)) 0 bt339.1 bt339.2.1 bt339.2.2.1 bt339.2.2.2.1 bt339.2.2.2.2.1 bt339.2.2.2.2.2)) = some r := by rw [if_neg (show ¬ (false = true) by decide)] at H; exact H
          clear H
          have H := H1
          clear H1
          replace H := Option.bind_eq_some_iff.mp H
          obtain ⟨⟨t339, t340, t341, t342, t343, t344⟩, A140, H⟩ := H
          replace H : (windhoverlaw13_EstTurns.l0 kj5 a1 l2 (wrap64 (16 * a0)) 0 t339 t340 t341 t342 t343 t344) = some r := H
          have A14 := Aside0.mk A140
          clear A140
          have H' := Aside0.mk H
          clear H
          go_wp2_with (first | (go_at_call 13; (with_reducible refine (est_Compass_Step.calls kj5 g335 t329 t330 t331 t332 t333 t334 false 0 0 true a0 a1 t339 t340 t341 t342 t343 t344 w _ ?side1 ?side2 A14.out).mono ?_); (case side1 => repeat (first | (with_reducible first | exact HI335.out | apply IsS67.alloc | apply IsS67.drewN | apply IsS67.drew | apply IsS67.set_0 | apply IsS67.set_1 | apply IsS67.set_2 | apply IsS67.set_3 | apply IsS67.set_4 | apply IsS67.set_5) | exact HI335.out)); (case side2 => repeat (first | (with_reducible first | exact HB.out | apply below_alloc | apply pw_below_drewN | apply below_drew1 | refine below_set ?_ (IsS67.ge HI335.out)) | exact HB.out)); rintro e w15 ⟨rfl, hi, hb, hk⟩; have n0_ := Aside0.mk (hb); have n1_ := Aside0.mk (hi); clear HB; clear HI335; have HB := n0_; have HI335 := n1_; clear n0_ n1_; (try clear hb); (try clear hb2); (try clear hk); (try clear hi)))
          go_loopg [9, 10] kj5 (fun kq v9 v10 w' => ∃ (x9_2 : Int) (x10_2 : Int) (x336000_2 : Int) (x336001_2 : Bool) (x336002_2 : Int) (x336003_2 : Int) (x336004_2 : Int) (x336005_2 : Int), v9 = .int .i64 x9_2 ∧ v10 = .int .i64 x10_2 ∧ Aside0 (windhoverlaw13_EstTurns.l0 kq a1 l2 x9_2 x10_2 x336000_2 x336001_2 x336002_2 x336003_2 x336004_2 x336005_2 = some r) ∧ Aside0 (kq ≤ kj5) ∧ Aside0 (IsS67 w w' g335 x336000_2 x336001_2 x336002_2 x336003_2 x336004_2 x336005_2) ∧ Aside0 (Below w.heap.size w w'))
          case atStart => exact ⟨(wrap64 (16 * a0)), (0), (t339), (t340), (t341), (t342), (t343), (t344), (by first | rfl | (simp; done) | (simp [*]; done)), (by first | rfl | (simp; done) | (simp [*]; done)), H', ⟨Nat.le_refl _⟩, ⟨by repeat (first | (with_reducible first | exact HI335.out | apply IsS67.alloc | apply IsS67.drewN | apply IsS67.drew | apply IsS67.set_0 | apply IsS67.set_1 | apply IsS67.set_2 | apply IsS67.set_3 | apply IsS67.set_4 | apply IsS67.set_5) | exact HI335.out)⟩, ⟨by repeat (first | (with_reducible first | exact HB.out | apply below_alloc | apply pw_below_drewN | apply below_drew1 | refine below_set ?_ (IsS67.ge HI335.out)) | exact HB.out)⟩⟩
          case round =>
            clear H'
            try clear c1
            try clear c2
            try clear p2
            try clear c4
            try clear c5
            try clear c5b0
            try clear c5b1
            try clear p6
            try clear c8
            try clear c8b0
            try clear c9
            try clear c9b0
            try clear c10
            try clear c10b0
            try clear c11
            try clear p2
            obtain ⟨x9_2, x10_2, x336000_2, x336001_2, x336002_2, x336003_2, x336004_2, x336005_2, rfl, rfl, HA, HK2, HI335, HB⟩ := hrel
            cases gk with
            | zero => exact absurd HA.out (by simp [windhoverlaw13_EstTurns.l0])
            | succ k2 =>
              have H := HA.out
              clear HA
              simp only [windhoverlaw13_EstTurns.l0] at H
              by_cases c16 : x10_2 < (l2.length : Int)
              · rw [if_pos c16] at H
                have c16b0 : decide (x10_2 < (l2.length : Int)) = true := decide_eq_true c16
                clear c16
                by_cases c17 : 0 ≤ x10_2
                · rw [if_pos c17] at H
                  have c17b0 : decide (0 ≤ x10_2) = true := decide_eq_true c17
                  clear c17
                  have HC18 := Aside0.mk H
                  clear H
                  have p346 : 0 ≤ (x10_2 : Int) := of_decide_eq_true (by first | (with_reducible assumption) | assumption)
                  have q346 : x10_2 < (l2.length : Int) := of_decide_eq_true (by first | (with_reducible assumption) | assumption)
                  obtain ⟨ad346, e346, hx346_0, hx346_1, hx346_2, hx346_3, hx346_4⟩ := at_T48 HR2.out x10_2 p346 q346
                  cases e346
                  replace hx346_0 := (HB.out.cell (World.block_lt_of_cell? w _ hx346_0)).trans hx346_0
                  replace hx346_1 := (HB.out.cell (World.block_lt_of_cell? w _ hx346_1)).trans hx346_1
                  replace hx346_2 := (HB.out.cell (World.block_lt_of_cell? w _ hx346_2)).trans hx346_2
                  replace hx346_3 := (HB.out.cell (World.block_lt_of_cell? w _ hx346_3)).trans hx346_3
                  replace hx346_4 := (HB.out.cell (World.block_lt_of_cell? w _ hx346_4)).trans hx346_4
                  replace p346 := eq_true p346
                  replace q346 := eq_true q346
                  go_upto_region 12 with (first | ((with_reducible refine gate_dst (N := 11) rfl ?_); refine box_event ?hg (N := 11) ?hd (cs := #[.int .i64 0, .int .i64 0, .int .i64 0, .bool false, .bool false]) (t := 48) ?hr ?_; (case hd => rfl); (case hg => rfl); (case hr => first | (go_simp; done) | (go_simp; rfl)); intro gb347 hg w19 hbox hb; have n0_ := Aside0.mk (IsS67.below (by repeat (first | (with_reducible first | exact HI335.out | apply IsS67.alloc | apply IsS67.drewN | apply IsS67.drew | apply IsS67.set_0 | apply IsS67.set_1 | apply IsS67.set_2 | apply IsS67.set_3 | apply IsS67.set_4 | apply IsS67.set_5) | exact HI335.out)) hb); have n1_ := Aside0.mk (below_step (by repeat (first | (with_reducible first | exact HB.out | apply below_alloc | apply pw_below_drewN | apply below_drew1 | refine below_set ?_ (IsS67.ge HI335.out)) | exact HB.out)) hb); have n2_ := Aside0.mk (hbox); have n3_ := Aside0.mk ((by rw [hg]; exact (below_size (by repeat (first | (with_reducible first | exact HB.out | apply below_alloc | apply pw_below_drewN | apply below_drew1 | refine below_set ?_ (IsS67.ge HI335.out)) | exact HB.out))) : w.heap.size ≤ gb347)); have n4_ := Aside0.mk ((by rw [hg]; exact (below_size (by repeat (first | (with_reducible first | exact HB.out | apply below_alloc | apply pw_below_drewN | apply below_drew1 | refine below_set ?_ (IsS67.ge HI335.out)) | exact HB.out))) : w.heap.size ≤ gb347)); have n5_ := Aside0.mk ((by rw [hg]; exact Nat.ne_of_lt (IsS67.lt (show IsS67 w _ g335 x336000_2 x336001_2 x336002_2 x336003_2 x336004_2 x336005_2 from by repeat (first | (with_reducible first | exact HI335.out | apply IsS67.alloc | apply IsS67.drewN | apply IsS67.drew | apply IsS67.set_0 | apply IsS67.set_1 | apply IsS67.set_2 | apply IsS67.set_3 | apply IsS67.set_4 | apply IsS67.set_5) | exact HI335.out))) : g335 ≠ gb347)); have n6_ := Aside0.mk ((by rw [hg]; exact Nat.ne_of_gt (IsS67.lt (show IsS67 w _ g335 x336000_2 x336001_2 x336002_2 x336003_2 x336004_2 x336005_2 from by repeat (first | (with_reducible first | exact HI335.out | apply IsS67.alloc | apply IsS67.drewN | apply IsS67.drew | apply IsS67.set_0 | apply IsS67.set_1 | apply IsS67.set_2 | apply IsS67.set_3 | apply IsS67.set_4 | apply IsS67.set_5) | exact HI335.out))) : gb347 ≠ g335)); clear HI335; clear HB; have HI335 := n0_; have HB := n1_; have BK347 := n2_; have GW347 := n3_; have GE347 := n4_; have NB335_347 := n5_; have NB347_335 := n6_; clear n0_ n1_ n2_ n3_ n4_ n5_ n6_; clear hb hbox hg; have hnb20 := NB347_335.out; have hnc20 := NB335_347.out; have hcz21_0 := blk_cells5 (w := w19) (g := gb347) BK347.out; have hfz21_0 := blk_frozen BK347.out))
                  repeat (go_quiet (first | ((with_reducible refine gate_dst (N := 11) rfl ?_); refine box_event ?hg (N := 11) ?hd (cs := #[.int .i64 0, .int .i64 0, .int .i64 0, .bool false, .bool false]) (t := 48) ?hr ?_; (case hd => rfl); (case hg => rfl); (case hr => first | (go_simp; done) | (go_simp; rfl)); intro gb347 hg w19 hbox hb; have n0_ := Aside0.mk (IsS67.below (by repeat (first | (with_reducible first | exact HI335.out | apply IsS67.alloc | apply IsS67.drewN | apply IsS67.drew | apply IsS67.set_0 | apply IsS67.set_1 | apply IsS67.set_2 | apply IsS67.set_3 | apply IsS67.set_4 | apply IsS67.set_5) | exact HI335.out)) hb); have n1_ := Aside0.mk (below_step (by repeat (first | (with_reducible first | exact HB.out | apply below_alloc | apply pw_below_drewN | apply below_drew1 | refine below_set ?_ (IsS67.ge HI335.out)) | exact HB.out)) hb); have n2_ := Aside0.mk (hbox); have n3_ := Aside0.mk ((by rw [hg]; exact (below_size (by repeat (first | (with_reducible first | exact HB.out | apply below_alloc | apply pw_below_drewN | apply below_drew1 | refine below_set ?_ (IsS67.ge HI335.out)) | exact HB.out))) : w.heap.size ≤ gb347)); have n4_ := Aside0.mk ((by rw [hg]; exact (below_size (by repeat (first | (with_reducible first | exact HB.out | apply below_alloc | apply pw_below_drewN | apply below_drew1 | refine below_set ?_ (IsS67.ge HI335.out)) | exact HB.out))) : w.heap.size ≤ gb347)); have n5_ := Aside0.mk ((by rw [hg]; exact Nat.ne_of_lt (IsS67.lt (show IsS67 w _ g335 x336000_2 x336001_2 x336002_2 x336003_2 x336004_2 x336005_2 from by repeat (first | (with_reducible first | exact HI335.out | apply IsS67.alloc | apply IsS67.drewN | apply IsS67.drew | apply IsS67.set_0 | apply IsS67.set_1 | apply IsS67.set_2 | apply IsS67.set_3 | apply IsS67.set_4 | apply IsS67.set_5) | exact HI335.out))) : g335 ≠ gb347)); have n6_ := Aside0.mk ((by rw [hg]; exact Nat.ne_of_gt (IsS67.lt (show IsS67 w _ g335 x336000_2 x336001_2 x336002_2 x336003_2 x336004_2 x336005_2 from by repeat (first | (with_reducible first | exact HI335.out | apply IsS67.alloc | apply IsS67.drewN | apply IsS67.drew | apply IsS67.set_0 | apply IsS67.set_1 | apply IsS67.set_2 | apply IsS67.set_3 | apply IsS67.set_4 | apply IsS67.set_5) | exact HI335.out))) : gb347 ≠ g335)); clear HI335; clear HB; have HI335 := n0_; have HB := n1_; have BK347 := n2_; have GW347 := n3_; have GE347 := n4_; have NB335_347 := n5_; have NB347_335 := n6_; clear n0_ n1_ n2_ n3_ n4_ n5_ n6_; clear hb hbox hg; have hnb20 := NB347_335.out; have hnc20 := NB335_347.out; have hcz21_0 := blk_cells5 (w := w19) (g := gb347) BK347.out; have hfz21_0 := blk_frozen BK347.out)); go_upto_region 12 with (first | ((with_reducible refine gate_dst (N := 11) rfl ?_); refine box_event ?hg (N := 11) ?hd (cs := #[.int .i64 0, .int .i64 0, .int .i64 0, .bool false, .bool false]) (t := 48) ?hr ?_; (case hd => rfl); (case hg => rfl); (case hr => first | (go_simp; done) | (go_simp; rfl)); intro gb347 hg w19 hbox hb; have n0_ := Aside0.mk (IsS67.below (by repeat (first | (with_reducible first | exact HI335.out | apply IsS67.alloc | apply IsS67.drewN | apply IsS67.drew | apply IsS67.set_0 | apply IsS67.set_1 | apply IsS67.set_2 | apply IsS67.set_3 | apply IsS67.set_4 | apply IsS67.set_5) | exact HI335.out)) hb); have n1_ := Aside0.mk (below_step (by repeat (first | (with_reducible first | exact HB.out | apply below_alloc | apply pw_below_drewN | apply below_drew1 | refine below_set ?_ (IsS67.ge HI335.out)) | exact HB.out)) hb); have n2_ := Aside0.mk (hbox); have n3_ := Aside0.mk ((by rw [hg]; exact (below_size (by repeat (first | (with_reducible first | exact HB.out | apply below_alloc | apply pw_below_drewN | apply below_drew1 | refine below_set ?_ (IsS67.ge HI335.out)) | exact HB.out))) : w.heap.size ≤ gb347)); have n4_ := Aside0.mk ((by rw [hg]; exact (below_size (by repeat (first | (with_reducible first | exact HB.out | apply below_alloc | apply pw_below_drewN | apply below_drew1 | refine below_set ?_ (IsS67.ge HI335.out)) | exact HB.out))) : w.heap.size ≤ gb347)); have n5_ := Aside0.mk ((by rw [hg]; exact Nat.ne_of_lt (IsS67.lt (show IsS67 w _ g335 x336000_2 x336001_2 x336002_2 x336003_2 x336004_2 x336005_2 from by repeat (first | (with_reducible first | exact HI335.out | apply IsS67.alloc | apply IsS67.drewN | apply IsS67.drew | apply IsS67.set_0 | apply IsS67.set_1 | apply IsS67.set_2 | apply IsS67.set_3 | apply IsS67.set_4 | apply IsS67.set_5) | exact HI335.out))) : g335 ≠ gb347)); have n6_ := Aside0.mk ((by rw [hg]; exact Nat.ne_of_gt (IsS67.lt (show IsS67 w _ g335 x336000_2 x336001_2 x336002_2 x336003_2 x336004_2 x336005_2 from by repeat (first | (with_reducible first | exact HI335.out | apply IsS67.alloc | apply IsS67.drewN | apply IsS67.drew | apply IsS67.set_0 | apply IsS67.set_1 | apply IsS67.set_2 | apply IsS67.set_3 | apply IsS67.set_4 | apply IsS67.set_5) | exact HI335.out))) : gb347 ≠ g335)); clear HI335; clear HB; have HI335 := n0_; have HB := n1_; have BK347 := n2_; have GW347 := n3_; have GE347 := n4_; have NB335_347 := n5_; have NB347_335 := n6_; clear n0_ n1_ n2_ n3_ n4_ n5_ n6_; clear hb hbox hg; have hnb20 := NB347_335.out; have hnc20 := NB335_347.out; have hcz21_0 := blk_cells5 (w := w19) (g := gb347) BK347.out; have hfz21_0 := blk_frozen BK347.out)))
                  (try simp only [Act.put, List.setIfInBounds_toArray, List.set_cons_zero, List.set_cons_succ])
                  go_cut [93] (fun v93 wc => ∃ (kq : Nat) (x93_17 : Bool), v93 = .bool x93_17 ∧ Aside0 (windhoverlaw13_EstTurns.j2 kq a1 l2 x9_2 x10_2 x93_17 x336000_2 x336001_2 x336002_2 x336003_2 x336004_2 x336005_2 ((rd_T48 l2 x10_2).f0) ((rd_T48 l2 x10_2).f1) ((rd_T48 l2 x10_2).f2) ((rd_T48 l2 x10_2).f3) ((rd_T48 l2 x10_2).f4) = some r) ∧ Aside0 (kq ≤ k2) ∧ Aside0 (wc.heap[gb347]? = some (.cells #[.int .i64 ((rd_T48 l2 x10_2).f0), .int .i64 ((rd_T48 l2 x10_2).f1), .int .i64 ((rd_T48 l2 x10_2).f2), .bool ((rd_T48 l2 x10_2).f3), .bool ((rd_T48 l2 x10_2).f4)] 48 (0, 0))) ∧ Aside0 (IsS67 w wc g335 x336000_2 x336001_2 x336002_2 x336003_2 x336004_2 x336005_2) ∧ Aside0 (Below w.heap.size w wc))
                  case first =>
                    have H := HC18.out
                    clear HC18
                    by_cases c22 : ((rd_T48 l2 x10_2).f0) < (-4000)
                    · rw [if_pos c22] at H
                      have c22b0 : decide (((rd_T48 l2 x10_2).f0) < (-4000)) = true := decide_eq_true c22
                      clear c22
                      (first | rw [c22b0] | (simp only [i64_w, i32_w]; rw [c22b0]) | skip)
                      have H' := Aside0.mk H
                      clear H
                      have hnb23 := NB347_335.out
                      have hnc23 := NB335_347.out
                      have hcz24_0 := blk_cells5 (w := w19) (g := gb347) BK347.out
                      have hfz24_0 := blk_frozen BK347.out
                      go_wp2
                      go_meet
                      case rel => exact ⟨_, (true), (by first | rfl | (simp; done) | (simp [*]; done)), H', ⟨by have := HJ5.out; have := HK2.out; first | omega | exact Nat.le_refl _⟩, ⟨by (with_reducible repeat (first | refine blk_drewN ?_ _ | refine blk_drew ?_ | refine blk_alloc ?_ _)); refine blk_put (cs := #[.int .i64 ((rd_T48 l2 x10_2).f0), .int .i64 ((rd_T48 l2 x10_2).f1), .int .i64 ((rd_T48 l2 x10_2).f2), .bool ((rd_T48 l2 x10_2).f3), .bool false]) ?_ 4 _ rfl; (with_reducible repeat (first | refine blk_drewN ?_ _ | refine blk_drew ?_ | refine blk_alloc ?_ _)); refine blk_put (cs := #[.int .i64 ((rd_T48 l2 x10_2).f0), .int .i64 ((rd_T48 l2 x10_2).f1), .int .i64 ((rd_T48 l2 x10_2).f2), .bool false, .bool false]) ?_ 3 _ rfl; (with_reducible repeat (first | refine blk_drewN ?_ _ | refine blk_drew ?_ | refine blk_alloc ?_ _)); refine blk_put (cs := #[.int .i64 ((rd_T48 l2 x10_2).f0), .int .i64 ((rd_T48 l2 x10_2).f1), .int .i64 0, .bool false, .bool false]) ?_ 2 _ rfl; (with_reducible repeat (first | refine blk_drewN ?_ _ | refine blk_drew ?_ | refine blk_alloc ?_ _)); refine blk_put (cs := #[.int .i64 ((rd_T48 l2 x10_2).f0), .int .i64 0, .int .i64 0, .bool false, .bool false]) ?_ 1 _ rfl; (with_reducible repeat (first | refine blk_drewN ?_ _ | refine blk_drew ?_ | refine blk_alloc ?_ _)); refine blk_put (cs := #[.int .i64 0, .int .i64 0, .int .i64 0, .bool false, .bool false]) ?_ 0 _ rfl; (with_reducible repeat (first | refine blk_drewN ?_ _ | refine blk_drew ?_ | refine blk_alloc ?_ _)); exact BK347.out⟩, ⟨by repeat (first | (with_reducible first | exact HI335.out | apply IsS67.alloc | apply IsS67.drewN | apply IsS67.drew | apply IsS67.set_0 | apply IsS67.set_1 | apply IsS67.set_2 | apply IsS67.set_3 | apply IsS67.set_4 | apply IsS67.set_5 | apply IsS67.farb NB335_347.out) | exact HI335.out)⟩, ⟨by repeat (first | (with_reducible first | exact HB.out | apply below_alloc | apply pw_below_drewN | apply below_drew1 | refine below_set ?_ (IsS67.ge HI335.out) | refine below_set ?_ GE347.out) | exact HB.out)⟩⟩
                    · rw [if_neg c22] at H
                      have c22b0 : decide (((rd_T48 l2 x10_2).f0) < (-4000)) = false := decide_eq_false c22
                      clear c22
                      (first | rw [c22b0] | (simp only [i64_w, i32_w]; rw [c22b0]) | skip)
                      by_cases c25 : ((rd_T48 l2 x10_2).f0) > 4000
                      · rw [if_pos c25] at H
                        have c25b0 : decide (4000 < ((rd_T48 l2 x10_2).f0)) = true := decide_eq_true c25
                        clear c25
                        have H' := Aside0.mk H
                        clear H
                        have hnb26 := NB347_335.out
                        have hnc26 := NB335_347.out
                        have hcz27_0 := blk_cells5 (w := w19) (g := gb347) BK347.out
                        have hfz27_0 := blk_frozen BK347.out
                        go_wp2
                        go_meet
                        case rel => exact ⟨_, (true), (by first | rfl | (simp; done) | (simp [*]; done)), H', ⟨by have := HJ5.out; have := HK2.out; first | omega | exact Nat.le_refl _⟩, ⟨by (with_reducible repeat (first | refine blk_drewN ?_ _ | refine blk_drew ?_ | refine blk_alloc ?_ _)); refine blk_put (cs := #[.int .i64 ((rd_T48 l2 x10_2).f0), .int .i64 ((rd_T48 l2 x10_2).f1), .int .i64 ((rd_T48 l2 x10_2).f2), .bool ((rd_T48 l2 x10_2).f3), .bool false]) ?_ 4 _ rfl; (with_reducible repeat (first | refine blk_drewN ?_ _ | refine blk_drew ?_ | refine blk_alloc ?_ _)); refine blk_put (cs := #[.int .i64 ((rd_T48 l2 x10_2).f0), .int .i64 ((rd_T48 l2 x10_2).f1), .int .i64 ((rd_T48 l2 x10_2).f2), .bool false, .bool false]) ?_ 3 _ rfl; (with_reducible repeat (first | refine blk_drewN ?_ _ | refine blk_drew ?_ | refine blk_alloc ?_ _)); refine blk_put (cs := #[.int .i64 ((rd_T48 l2 x10_2).f0), .int .i64 ((rd_T48 l2 x10_2).f1), .int .i64 0, .bool false, .bool false]) ?_ 2 _ rfl; (with_reducible repeat (first | refine blk_drewN ?_ _ | refine blk_drew ?_ | refine blk_alloc ?_ _)); refine blk_put (cs := #[.int .i64 ((rd_T48 l2 x10_2).f0), .int .i64 0, .int .i64 0, .bool false, .bool false]) ?_ 1 _ rfl; (with_reducible repeat (first | refine blk_drewN ?_ _ | refine blk_drew ?_ | refine blk_alloc ?_ _)); refine blk_put (cs := #[.int .i64 0, .int .i64 0, .int .i64 0, .bool false, .bool false]) ?_ 0 _ rfl; (with_reducible repeat (first | refine blk_drewN ?_ _ | refine blk_drew ?_ | refine blk_alloc ?_ _)); exact BK347.out⟩, ⟨by repeat (first | (with_reducible first | exact HI335.out | apply IsS67.alloc | apply IsS67.drewN | apply IsS67.drew | apply IsS67.set_0 | apply IsS67.set_1 | apply IsS67.set_2 | apply IsS67.set_3 | apply IsS67.set_4 | apply IsS67.set_5 | apply IsS67.farb NB335_347.out) | exact HI335.out)⟩, ⟨by repeat (first | (with_reducible first | exact HB.out | apply below_alloc | apply pw_below_drewN | apply below_drew1 | refine below_set ?_ (IsS67.ge HI335.out) | refine below_set ?_ GE347.out) | exact HB.out)⟩⟩
                      · rw [if_neg c25] at H
                        have c25b0 : decide (4000 < ((rd_T48 l2 x10_2).f0)) = false := decide_eq_false c25
                        clear c25
                        by_cases c28 : ((rd_T48 l2 x10_2).f1) < (wrap64 (-a1))
                        · rw [if_pos c28] at H
                          have c28b0 : decide (((rd_T48 l2 x10_2).f1) < (wrap64 (-a1))) = true := decide_eq_true c28
                          clear c28
                          have H' := Aside0.mk H
                          clear H
                          have hnb29 := NB347_335.out
                          have hnc29 := NB335_347.out
                          have hcz30_0 := blk_cells5 (w := w19) (g := gb347) BK347.out
                          have hfz30_0 := blk_frozen BK347.out
                          go_wp2
                          go_meet
                          case rel => exact ⟨_, (true), (by first | rfl | (simp; done) | (simp [*]; done)), H', ⟨by have := HJ5.out; have := HK2.out; first | omega | exact Nat.le_refl _⟩, ⟨by (with_reducible repeat (first | refine blk_drewN ?_ _ | refine blk_drew ?_ | refine blk_alloc ?_ _)); refine blk_put (cs := #[.int .i64 ((rd_T48 l2 x10_2).f0), .int .i64 ((rd_T48 l2 x10_2).f1), .int .i64 ((rd_T48 l2 x10_2).f2), .bool ((rd_T48 l2 x10_2).f3), .bool false]) ?_ 4 _ rfl; (with_reducible repeat (first | refine blk_drewN ?_ _ | refine blk_drew ?_ | refine blk_alloc ?_ _)); refine blk_put (cs := #[.int .i64 ((rd_T48 l2 x10_2).f0), .int .i64 ((rd_T48 l2 x10_2).f1), .int .i64 ((rd_T48 l2 x10_2).f2), .bool false, .bool false]) ?_ 3 _ rfl; (with_reducible repeat (first | refine blk_drewN ?_ _ | refine blk_drew ?_ | refine blk_alloc ?_ _)); refine blk_put (cs := #[.int .i64 ((rd_T48 l2 x10_2).f0), .int .i64 ((rd_T48 l2 x10_2).f1), .int .i64 0, .bool false, .bool false]) ?_ 2 _ rfl; (with_reducible repeat (first | refine blk_drewN ?_ _ | refine blk_drew ?_ | refine blk_alloc ?_ _)); refine blk_put (cs := #[.int .i64 ((rd_T48 l2 x10_2).f0), .int .i64 0, .int .i64 0, .bool false, .bool false]) ?_ 1 _ rfl; (with_reducible repeat (first | refine blk_drewN ?_ _ | refine blk_drew ?_ | refine blk_alloc ?_ _)); refine blk_put (cs := #[.int .i64 0, .int .i64 0, .int .i64 0, .bool false, .bool false]) ?_ 0 _ rfl; (with_reducible repeat (first | refine blk_drewN ?_ _ | refine blk_drew ?_ | refine blk_alloc ?_ _)); exact BK347.out⟩, ⟨by repeat (first | (with_reducible first | exact HI335.out | apply IsS67.alloc | apply IsS67.drewN | apply IsS67.drew | apply IsS67.set_0 | apply IsS67.set_1 | apply IsS67.set_2 | apply IsS67.set_3 | apply IsS67.set_4 | apply IsS67.set_5 | apply IsS67.farb NB335_347.out) | exact HI335.out)⟩, ⟨by repeat (first | (with_reducible first | exact HB.out | apply below_alloc | apply pw_below_drewN | apply below_drew1 | refine below_set ?_ (IsS67.ge HI335.out) | refine below_set ?_ GE347.out) | exact HB.out)⟩⟩
                        · rw [if_neg c28] at H
                          have c28b0 : decide (((rd_T48 l2 x10_2).f1) < (wrap64 (-a1))) = false := decide_eq_false c28
                          clear c28
                          by_cases c31 : ((rd_T48 l2 x10_2).f1) > a1
                          · rw [if_pos c31] at H
                            have c31b0 : decide (a1 < ((rd_T48 l2 x10_2).f1)) = true := decide_eq_true c31
                            clear c31
                            have H' := Aside0.mk H
                            clear H
                            have hnb32 := NB347_335.out
                            have hnc32 := NB335_347.out
                            have hcz33_0 := blk_cells5 (w := w19) (g := gb347) BK347.out
                            have hfz33_0 := blk_frozen BK347.out
                            go_wp2
                            go_meet
                            case rel => exact ⟨_, (true), (by first | rfl | (simp; done) | (simp [*]; done)), H', ⟨by have := HJ5.out; have := HK2.out; first | omega | exact Nat.le_refl _⟩, ⟨by (with_reducible repeat (first | refine blk_drewN ?_ _ | refine blk_drew ?_ | refine blk_alloc ?_ _)); refine blk_put (cs := #[.int .i64 ((rd_T48 l2 x10_2).f0), .int .i64 ((rd_T48 l2 x10_2).f1), .int .i64 ((rd_T48 l2 x10_2).f2), .bool ((rd_T48 l2 x10_2).f3), .bool false]) ?_ 4 _ rfl; (with_reducible repeat (first | refine blk_drewN ?_ _ | refine blk_drew ?_ | refine blk_alloc ?_ _)); refine blk_put (cs := #[.int .i64 ((rd_T48 l2 x10_2).f0), .int .i64 ((rd_T48 l2 x10_2).f1), .int .i64 ((rd_T48 l2 x10_2).f2), .bool false, .bool false]) ?_ 3 _ rfl; (with_reducible repeat (first | refine blk_drewN ?_ _ | refine blk_drew ?_ | refine blk_alloc ?_ _)); refine blk_put (cs := #[.int .i64 ((rd_T48 l2 x10_2).f0), .int .i64 ((rd_T48 l2 x10_2).f1), .int .i64 0, .bool false, .bool false]) ?_ 2 _ rfl; (with_reducible repeat (first | refine blk_drewN ?_ _ | refine blk_drew ?_ | refine blk_alloc ?_ _)); refine blk_put (cs := #[.int .i64 ((rd_T48 l2 x10_2).f0), .int .i64 0, .int .i64 0, .bool false, .bool false]) ?_ 1 _ rfl; (with_reducible repeat (first | refine blk_drewN ?_ _ | refine blk_drew ?_ | refine blk_alloc ?_ _)); refine blk_put (cs := #[.int .i64 0, .int .i64 0, .int .i64 0, .bool false, .bool false]) ?_ 0 _ rfl; (with_reducible repeat (first | refine blk_drewN ?_ _ | refine blk_drew ?_ | refine blk_alloc ?_ _)); exact BK347.out⟩, ⟨by repeat (first | (with_reducible first | exact HI335.out | apply IsS67.alloc | apply IsS67.drewN | apply IsS67.drew | apply IsS67.set_0 | apply IsS67.set_1 | apply IsS67.set_2 | apply IsS67.set_3 | apply IsS67.set_4 | apply IsS67.set_5 | apply IsS67.farb NB335_347.out) | exact HI335.out)⟩, ⟨by repeat (first | (with_reducible first | exact HB.out | apply below_alloc | apply pw_below_drewN | apply below_drew1 | refine below_set ?_ (IsS67.ge HI335.out) | refine below_set ?_ GE347.out) | exact HB.out)⟩⟩
                          · rw [if_neg c31] at H
                            have c31b0 : decide (a1 < ((rd_T48 l2 x10_2).f1)) = false := decide_eq_false c31
                            clear c31
                            by_cases c34 : ((rd_T48 l2 x10_2).f2) < (wrap64 (-a1))
                            · rw [if_pos c34] at H
                              have c34b0 : decide (((rd_T48 l2 x10_2).f2) < (wrap64 (-a1))) = true := decide_eq_true c34
                              clear c34
                              have H' := Aside0.mk H
                              clear H
                              have hnb35 := NB347_335.out
                              have hnc35 := NB335_347.out
                              have hcz36_0 := blk_cells5 (w := w19) (g := gb347) BK347.out
                              have hfz36_0 := blk_frozen BK347.out
                              go_wp2
                              go_meet
                              case rel => exact ⟨_, (true), (by first | rfl | (simp; done) | (simp [*]; done)), H', ⟨by have := HJ5.out; have := HK2.out; first | omega | exact Nat.le_refl _⟩, ⟨by (with_reducible repeat (first | refine blk_drewN ?_ _ | refine blk_drew ?_ | refine blk_alloc ?_ _)); refine blk_put (cs := #[.int .i64 ((rd_T48 l2 x10_2).f0), .int .i64 ((rd_T48 l2 x10_2).f1), .int .i64 ((rd_T48 l2 x10_2).f2), .bool ((rd_T48 l2 x10_2).f3), .bool false]) ?_ 4 _ rfl; (with_reducible repeat (first | refine blk_drewN ?_ _ | refine blk_drew ?_ | refine blk_alloc ?_ _)); refine blk_put (cs := #[.int .i64 ((rd_T48 l2 x10_2).f0), .int .i64 ((rd_T48 l2 x10_2).f1), .int .i64 ((rd_T48 l2 x10_2).f2), .bool false, .bool false]) ?_ 3 _ rfl; (with_reducible repeat (first | refine blk_drewN ?_ _ | refine blk_drew ?_ | refine blk_alloc ?_ _)); refine blk_put (cs := #[.int .i64 ((rd_T48 l2 x10_2).f0), .int .i64 ((rd_T48 l2 x10_2).f1), .int .i64 0, .bool false, .bool false]) ?_ 2 _ rfl; (with_reducible repeat (first | refine blk_drewN ?_ _ | refine blk_drew ?_ | refine blk_alloc ?_ _)); refine blk_put (cs := #[.int .i64 ((rd_T48 l2 x10_2).f0), .int .i64 0, .int .i64 0, .bool false, .bool false]) ?_ 1 _ rfl; (with_reducible repeat (first | refine blk_drewN ?_ _ | refine blk_drew ?_ | refine blk_alloc ?_ _)); refine blk_put (cs := #[.int .i64 0, .int .i64 0, .int .i64 0, .bool false, .bool false]) ?_ 0 _ rfl; (with_reducible repeat (first | refine blk_drewN ?_ _ | refine blk_drew ?_ | refine blk_alloc ?_ _)); exact BK347.out⟩, ⟨by repeat (first | (with_reducible first | exact HI335.out | apply IsS67.alloc | apply IsS67.drewN | apply IsS67.drew | apply IsS67.set_0 | apply IsS67.set_1 | apply IsS67.set_2 | apply IsS67.set_3 | apply IsS67.set_4 | apply IsS67.set_5 | apply IsS67.farb NB335_347.out) | exact HI335.out)⟩, ⟨by repeat (first | (with_reducible first | exact HB.out | apply below_alloc | apply pw_below_drewN | apply below_drew1 | refine below_set ?_ (IsS67.ge HI335.out) | refine below_set ?_ GE347.out) | exact HB.out)⟩⟩
                            · rw [if_neg c34] at H
                              have c34b0 : decide (((rd_T48 l2 x10_2).f2) < (wrap64 (-a1))) = false := decide_eq_false c34
                              clear c34
                              have H' := Aside0.mk H
                              clear H
                              have hnb37 := NB347_335.out
                              have hnc37 := NB335_347.out
                              have hcz38_0 := blk_cells5 (w := w19) (g := gb347) BK347.out
                              have hfz38_0 := blk_frozen BK347.out
                              go_wp2
                              go_meet
                              case rel => exact ⟨_, (decide (((rd_T48 l2 x10_2).f2) > a1)), (by first | rfl | (simp; done) | (simp [*]; done)), H', ⟨by have := HJ5.out; have := HK2.out; first | omega | exact Nat.le_refl _⟩, ⟨by (with_reducible repeat (first | refine blk_drewN ?_ _ | refine blk_drew ?_ | refine blk_alloc ?_ _)); refine blk_put (cs := #[.int .i64 ((rd_T48 l2 x10_2).f0), .int .i64 ((rd_T48 l2 x10_2).f1), .int .i64 ((rd_T48 l2 x10_2).f2), .bool ((rd_T48 l2 x10_2).f3), .bool false]) ?_ 4 _ rfl; (with_reducible repeat (first | refine blk_drewN ?_ _ | refine blk_drew ?_ | refine blk_alloc ?_ _)); refine blk_put (cs := #[.int .i64 ((rd_T48 l2 x10_2).f0), .int .i64 ((rd_T48 l2 x10_2).f1), .int .i64 ((rd_T48 l2 x10_2).f2), .bool false, .bool false]) ?_ 3 _ rfl; (with_reducible repeat (first | refine blk_drewN ?_ _ | refine blk_drew ?_ | refine blk_alloc ?_ _)); refine blk_put (cs := #[.int .i64 ((rd_T48 l2 x10_2).f0), .int .i64 ((rd_T48 l2 x10_2).f1), .int .i64 0, .bool false, .bool false]) ?_ 2 _ rfl; (with_reducible repeat (first | refine blk_drewN ?_ _ | refine blk_drew ?_ | refine blk_alloc ?_ _)); refine blk_put (cs := #[.int .i64 ((rd_T48 l2 x10_2).f0), .int .i64 0, .int .i64 0, .bool false, .bool false]) ?_ 1 _ rfl; (with_reducible repeat (first | refine blk_drewN ?_ _ | refine blk_drew ?_ | refine blk_alloc ?_ _)); refine blk_put (cs := #[.int .i64 0, .int .i64 0, .int .i64 0, .bool false, .bool false]) ?_ 0 _ rfl; (with_reducible repeat (first | refine blk_drewN ?_ _ | refine blk_drew ?_ | refine blk_alloc ?_ _)); exact BK347.out⟩, ⟨by repeat (first | (with_reducible first | exact HI335.out | apply IsS67.alloc | apply IsS67.drewN | apply IsS67.drew | apply IsS67.set_0 | apply IsS67.set_1 | apply IsS67.set_2 | apply IsS67.set_3 | apply IsS67.set_4 | apply IsS67.set_5 | apply IsS67.farb NB335_347.out) | exact HI335.out)⟩, ⟨by repeat (first | (with_reducible first | exact HB.out | apply below_alloc | apply pw_below_drewN | apply below_drew1 | refine below_set ?_ (IsS67.ge HI335.out) | refine below_set ?_ GE347.out) | exact HB.out)⟩⟩
                  case rest =>
                    clear HC18
                    try clear c1
                    try clear c2
                    try clear p2
                    try clear c3
                    try clear p3
                    try clear q3
                    try clear hx3
                    try clear c4
                    try clear c5
                    try clear c5b0
                    try clear c5b1
                    try clear p6
                    try clear c8
                    try clear c8b0
                    try clear c9
                    try clear c9b0
                    try clear c10
                    try clear c10b0
                    try clear c11
                    try clear c16
                    try clear c16b0
                    try clear c17
                    try clear c17b0
                    try clear c20
                    try clear c22
                    try clear c22b0
                    try clear c23
                    try clear c25
                    try clear c25b0
                    try clear c26
                    try clear c28
                    try clear c28b0
                    try clear c29
                    try clear c31
                    try clear c31b0
                    try clear c32
                    try clear c34
                    try clear c34b0
                    try clear p34
                    try clear q34
                    try clear hx34
                    try clear c35
                    try clear c37
                    try clear hcz21_0
                    try clear hcz24_0
                    try clear hcz27_0
                    try clear hcz30_0
                    try clear hcz33_0
                    try clear hcz36_0
                    try clear hcz38_0
                    try clear hfz21_0
                    try clear hfz24_0
                    try clear hfz27_0
                    try clear hfz30_0
                    try clear hfz33_0
                    try clear hfz36_0
                    try clear hfz38_0
                    try clear hx346_0
                    try clear hx346_1
                    try clear hx346_2
                    try clear hx346_3
                    try clear hx346_4
                    try clear p2
                    try clear p346
                    try clear p6
                    try clear q346
                    obtain ⟨kq, x93_17, rfl, HA, HJ17, BK347, HI335, HB⟩ := hcut
                    cases kq with
                    | zero => exact absurd HA.out (by simp [windhoverlaw13_EstTurns.j2])
                    | succ kj17 =>
                      have H := HA.out
                      clear HA
                      simp only [windhoverlaw13_EstTurns.j2] at H
                      by_cases c39 : x93_17 = true
                      · subst c39
                        have H1 : ((windhoverlaw13_awake.f kj17).bind fun t348 => (some t348)) = some r := by rw [if_pos rfl] at H; exact H
                        clear H
                        have H := H1
                        clear H1
                        replace H := Option.bind_eq_some_iff.mp H
                        obtain ⟨t348, A400, H⟩ := H
                        replace H : (some t348) = some r := H
                        have A40 := Aside0.mk A400
                        clear A400
                        obtain rfl := Option.some.inj H
                        go_wp2_with (first | (go_at_call 8; (with_reducible refine (windhoverlaw13_awake.calls kj17  t348 _ A40.out).mono ?_); rintro e w41 ⟨rfl, hb⟩; have n0_ := Aside0.mk (blk_below (g := gb347) (o := .cells #[.int .i64 ((rd_T48 l2 x10_2).f0), .int .i64 ((rd_T48 l2 x10_2).f1), .int .i64 ((rd_T48 l2 x10_2).f2), .bool ((rd_T48 l2 x10_2).f3), .bool ((rd_T48 l2 x10_2).f4)] 48 (0, 0)) (by (with_reducible repeat (first | refine blk_drewN ?_ _ | refine blk_drew ?_ | refine blk_alloc ?_ _)); exact BK347.out) hb); have n1_ := Aside0.mk (IsS67.below (by repeat (first | (with_reducible first | exact HI335.out | apply IsS67.alloc | apply IsS67.drewN | apply IsS67.drew | apply IsS67.set_0 | apply IsS67.set_1 | apply IsS67.set_2 | apply IsS67.set_3 | apply IsS67.set_4 | apply IsS67.set_5 | apply IsS67.farb NB335_347.out) | exact HI335.out)) hb); have n2_ := Aside0.mk (below_step (by repeat (first | (with_reducible first | exact HB.out | apply below_alloc | apply pw_below_drewN | apply below_drew1 | refine below_set ?_ (IsS67.ge HI335.out) | refine below_set ?_ GE347.out) | exact HB.out)) hb); clear BK347; clear HI335; clear HB; have BK347 := n0_; have HI335 := n1_; have HB := n2_; clear n0_ n1_ n2_; (try clear hb); (try clear hb2); (try clear hk); (try clear hi)))
                        go_ret
                        exact ⟨by first | rfl | (simp [errW_none, errW_some] <;> rfl) | (simp [*, errW_none, errW_some] <;> rfl), by repeat (first | (with_reducible first | exact HB.out | apply below_alloc | apply pw_below_drewN | apply below_drew1 | refine below_set ?_ (IsS67.ge HI335.out) | refine below_set ?_ GE347.out) | exact HB.out)⟩
                      · replace c39 := Bool.eq_false_iff.mpr c39
                        subst c39
                        have H1 : ((windhoverref13_Round.f (wrap64 (x9_2 + ((rd_T48 l2 x10_2).f0)))).bind fun t349 => ((windhoverref13_Round.f (wrap64 (t349 + 8))).bind fun t350 => ((est_Compass_Step.f kj17 x336000_2 x336001_2 x336002_2 x336003_2 x336004_2 x336005_2 ((rd_T48 l2 x10_2).f3) (wrap64 (((rd_T48 l2 x10_2).f0) + ((rd_T48 l2 x10_2).f1))) a1 ((rd_T48 l2 x10_2).f4) (wrap64 ((wrap64 (Int.tdiv t350 16)) + ((rd_T48 l2 x10_2).f2))) (wrap64 (a1 + 1))).bind fun bt351 => ((est_Compass_Heading.f bt351.1 bt351.2.1 bt351.2.2.1 bt351.2.2.2.1 bt351.2.2.2.2.1 bt351.2.2.2.2.2).bind fun bt357 => (if bt357.2.1 > 400000 then ((windhoverlaw13_awake.f kj17).bind fun t366 => (some t366)) else ((windhoverref13_Way.f t349 bt357.1).bind fun t367 => (if t367 > bt357.2.1 then (none) else (if t367 < (wrap64 (-bt357.2.1)) then (none) else (windhoverlaw13_EstTurns.l0 kj17 a1 l2 t349 (wrap64 (x10_2 + 1)) bt351.1 bt351.2.1 bt351.2.2.1 bt351.2.2.2.1 bt351.2.2.2.2.1 bt351.2.2.2.2.2))))))))) = some r := by rw [if_neg (show ¬ (false = true) by decide)] at H; exact H
                        clear H
                        have H := H1
                        clear H1
                        replace H := Option.bind_eq_some_iff.mp H
                        obtain ⟨t349, A420, H⟩ := H
                        replace H : ((windhoverref13_Round.f (wrap64 (t349 + 8))).bind fun t350 => ((est_Compass_Step.f kj17 x336000_2 x336001_2 x336002_2 x336003_2 x336004_2 x336005_2 ((rd_T48 l2 x10_2).f3) (wrap64 (((rd_T48 l2 x10_2).f0) + ((rd_T48 l2 x10_2).f1))) a1 ((rd_T48 l2 x10_2).f4) (wrap64 ((wrap64 (Int.tdiv t350 16)) + ((rd_T48 l2 x10_2).f2))) (wrap64 (a1 + 1))).bind fun bt351 => ((est_Compass_Heading.f bt351.1 bt351.2.1 bt351.2.2.1 bt351.2.2.2.1 bt351.2.2.2.2.1 bt351.2.2.2.2.2).bind fun bt357 => (if bt357.2.1 > 400000 then ((windhoverlaw13_awake.f kj17).bind fun t366 => (some t366)) else ((windhoverref13_Way.f t349 bt357.1).bind fun t367 => (if t367 > bt357.2.1 then (none) else (if t367 < (wrap64 (-bt357.2.1)) then (none) else (windhoverlaw13_EstTurns.l0 kj17 a1 l2 t349 (wrap64 (x10_2 + 1)) bt351.1 bt351.2.1 bt351.2.2.1 bt351.2.2.2.1 bt351.2.2.2.2.1 bt351.2.2.2.2.2)))))))) = some r := H
                        have A42 := Aside0.mk A420
                        clear A420
                        replace H := Option.bind_eq_some_iff.mp H
                        obtain ⟨t350, A430, H⟩ := H
                        replace H : ((est_Compass_Step.f kj17 x336000_2 x336001_2 x336002_2 x336003_2 x336004_2 x336005_2 ((rd_T48 l2 x10_2).f3) (wrap64 (((rd_T48 l2 x10_2).f0) + ((rd_T48 l2 x10_2).f1))) a1 ((rd_T48 l2 x10_2).f4) (wrap64 ((wrap64 (Int.tdiv t350 16)) + ((rd_T48 l2 x10_2).f2))) (wrap64 (a1 + 1))).bind fun bt351 => ((est_Compass_Heading.f bt351.1 bt351.2.1 bt351.2.2.1 bt351.2.2.2.1 bt351.2.2.2.2.1 bt351.2.2.2.2.2).bind fun bt357 => (if bt357.2.1 > 400000 then ((windhoverlaw13_awake.f kj17).bind fun t366 => (some t366)) else ((windhoverref13_Way.f t349 bt357.1).bind fun t367 => (if t367 > bt357.2.1 then (none) else (if t367 < (wrap64 (-bt357.2.1)) then (none) else (windhoverlaw13_EstTurns.l0 kj17 a1 l2 t349 (wrap64 (x10_2 + 1)) bt351.1 bt351.2.1 bt351.2.2.1 bt351.2.2.2.1 bt351.2.2.2.2.1 bt351.2.2.2.2.2))))))) = some r := H
                        have A43 := Aside0.mk A430
                        clear A430
                        replace H := Option.bind_eq_some_iff.mp H
                        obtain ⟨⟨t351, t352, t353, t354, t355, t356⟩, A440, H⟩ := H
                        replace H : ((est_Compass_Heading.f t351 t352 t353 t354 t355 t356).bind fun bt357 => (if bt357.2.1 > 400000 then ((windhoverlaw13_awake.f kj17).bind fun t366 => (some t366)) else ((windhoverref13_Way.f t349 bt357.1).bind fun t367 => (if t367 > bt357.2.1 then (none) else (if t367 < (wrap64 (-bt357.2.1)) then (none) else (windhoverlaw13_EstTurns.l0 kj17 a1 l2 t349 (wrap64 (x10_2 + 1)) t351 t352 t353 t354 t355 t356)))))) = some r := H
                        have A44 := Aside0.mk A440
                        clear A440
                        replace H := Option.bind_eq_some_iff.mp H
                        obtain ⟨⟨t357, t358, t359, t360, t361, t362, t363, t364, t365⟩, A450, H⟩ := H
                        replace H : (if t358 > 400000 then ((windhoverlaw13_awake.f kj17).bind fun t366 => (some t366)) else ((windhoverref13_Way.f t349 t357).bind fun t367 => (if t367 > t358 then (none) else (if t367 < (wrap64 (-t358)) then (none) else (windhoverlaw13_EstTurns.l0 kj17 a1 l2 t349 (wrap64 (x10_2 + 1)) t351 t352 t353 t354 t355 t356))))) = some r := H
                        have A45 := Aside0.mk A450
                        clear A450
                        obtain ⟨E0_, E1_, E2_, E3_, E4_, E5_⟩ := est_Compass_Heading.same A45.out
                        subst E0_
                        subst E1_
                        subst E2_
                        subst E3_
                        subst E4_
                        subst E5_
                        by_cases c46 : t358 > 400000
                        · rw [if_pos c46] at H
                          have c46b0 : decide (400000 < t358) = true := decide_eq_true c46
                          clear c46
                          replace H := Option.bind_eq_some_iff.mp H
                          obtain ⟨t366, A470, H⟩ := H
                          replace H : (some t366) = some r := H
                          have A47 := Aside0.mk A470
                          clear A470
                          obtain rfl := Option.some.inj H
                          have hnb48 := NB347_335.out
                          have hnc48 := NB335_347.out
                          have hcz49_0 := blk_cells5 (w := wc) (g := gb347) BK347.out
                          have hfz49_0 := blk_frozen BK347.out
                          go_wp2_with (first | (go_at_call 14; (with_reducible refine (windhoverref13_Round.calls (wrap64 (x9_2 + ((rd_T48 l2 x10_2).f0))) t349 _ A42.out).mono ?_); rintro e w' ⟨rfl, ⟨nd, rfl⟩⟩; (try first | exact ⟨rfl, _, World.drewN_drewN _ _ _⟩ | exact ⟨rfl, _, Eq.trans (World.drewN_drewN _ _ _) (congrArg (World.drewN _) (Nat.add_assoc _ _ _))⟩)) | (go_at_call 14; (with_reducible refine (windhoverref13_Round.calls (wrap64 (t349 + 8)) t350 _ A43.out).mono ?_); rintro e w' ⟨rfl, ⟨nd, rfl⟩⟩; (try first | exact ⟨rfl, _, World.drewN_drewN _ _ _⟩ | exact ⟨rfl, _, Eq.trans (World.drewN_drewN _ _ _) (congrArg (World.drewN _) (Nat.add_assoc _ _ _))⟩)) | (go_at_call 13; (with_reducible refine (est_Compass_Step.calls kj17 g335 x336000_2 x336001_2 x336002_2 x336003_2 x336004_2 x336005_2 ((rd_T48 l2 x10_2).f3) (wrap64 (((rd_T48 l2 x10_2).f0) + ((rd_T48 l2 x10_2).f1))) a1 ((rd_T48 l2 x10_2).f4) (wrap64 ((wrap64 (Int.tdiv t350 16)) + ((rd_T48 l2 x10_2).f2))) (wrap64 (a1 + 1)) t351 t352 t353 t354 t355 t356 w _ ?side1 ?side2 A44.out).mono ?_); (case side1 => repeat (first | (with_reducible first | exact HI335.out | apply IsS67.alloc | apply IsS67.drewN | apply IsS67.drew | apply IsS67.set_0 | apply IsS67.set_1 | apply IsS67.set_2 | apply IsS67.set_3 | apply IsS67.set_4 | apply IsS67.set_5 | apply IsS67.farb NB335_347.out) | exact HI335.out)); (case side2 => repeat (first | (with_reducible first | exact HB.out | apply below_alloc | apply pw_below_drewN | apply below_drew1 | refine below_set ?_ (IsS67.ge HI335.out) | refine below_set ?_ GE347.out) | exact HB.out)); rintro e w50 ⟨rfl, hi, hb, hk⟩; have n0_ := Aside0.mk (KeepBut.blk hk (g' := gb347) (o := .cells #[.int .i64 ((rd_T48 l2 x10_2).f0), .int .i64 ((rd_T48 l2 x10_2).f1), .int .i64 ((rd_T48 l2 x10_2).f2), .bool ((rd_T48 l2 x10_2).f3), .bool ((rd_T48 l2 x10_2).f4)] 48 (0, 0)) (by (with_reducible repeat (first | refine blk_drewN ?_ _ | refine blk_drew ?_ | refine blk_alloc ?_ _)); exact BK347.out) NB347_335.out (by simp)); have n1_ := Aside0.mk (hb); have n2_ := Aside0.mk (hi); clear BK347; clear HB; clear HI335; have BK347 := n0_; have HB := n1_; have HI335 := n2_; clear n0_ n1_ n2_; (try clear hb); (try clear hb2); (try clear hk); (try clear hi)) | (go_at_call 15; (with_reducible refine (est_Compass_Heading.calls g335 t351 t352 t353 t354 t355 t356 t357 t358 t359 t351 t352 t353 t354 t355 t356 w _ ?side1 ?side2 A45.out).mono ?_); (case side1 => repeat (first | (with_reducible first | exact HI335.out | apply IsS67.alloc | apply IsS67.drewN | apply IsS67.drew | apply IsS67.set_0 | apply IsS67.set_1 | apply IsS67.set_2 | apply IsS67.set_3 | apply IsS67.set_4 | apply IsS67.set_5 | apply IsS67.farb NB335_347.out) | exact HI335.out)); (case side2 => repeat (first | (with_reducible first | exact HB.out | apply below_alloc | apply pw_below_drewN | apply below_drew1 | refine below_set ?_ (IsS67.ge HI335.out) | refine below_set ?_ GE347.out) | exact HB.out)); rintro e w51 ⟨rfl, hi, hb, hk⟩; have n0_ := Aside0.mk (KeepBut.blk hk (g' := gb347) (o := .cells #[.int .i64 ((rd_T48 l2 x10_2).f0), .int .i64 ((rd_T48 l2 x10_2).f1), .int .i64 ((rd_T48 l2 x10_2).f2), .bool ((rd_T48 l2 x10_2).f3), .bool ((rd_T48 l2 x10_2).f4)] 48 (0, 0)) (by (with_reducible repeat (first | refine blk_drewN ?_ _ | refine blk_drew ?_ | refine blk_alloc ?_ _)); exact BK347.out) NB347_335.out (by simp)); have n1_ := Aside0.mk (hb); have n2_ := Aside0.mk (hi); clear BK347; clear HB; clear HI335; have BK347 := n0_; have HB := n1_; have HI335 := n2_; clear n0_ n1_ n2_; (try clear hb); (try clear hb2); (try clear hk); (try clear hi)) | (go_at_call 8; (with_reducible refine (windhoverlaw13_awake.calls kj17  t366 _ A47.out).mono ?_); rintro e w52 ⟨rfl, hb⟩; have n0_ := Aside0.mk (blk_below (g := gb347) (o := .cells #[.int .i64 ((rd_T48 l2 x10_2).f0), .int .i64 ((rd_T48 l2 x10_2).f1), .int .i64 ((rd_T48 l2 x10_2).f2), .bool ((rd_T48 l2 x10_2).f3), .bool ((rd_T48 l2 x10_2).f4)] 48 (0, 0)) (by (with_reducible repeat (first | refine blk_drewN ?_ _ | refine blk_drew ?_ | refine blk_alloc ?_ _)); exact BK347.out) hb); have n1_ := Aside0.mk (IsS67.below (by repeat (first | (with_reducible first | exact HI335.out | apply IsS67.alloc | apply IsS67.drewN | apply IsS67.drew | apply IsS67.set_0 | apply IsS67.set_1 | apply IsS67.set_2 | apply IsS67.set_3 | apply IsS67.set_4 | apply IsS67.set_5 | apply IsS67.farb NB335_347.out) | exact HI335.out)) hb); have n2_ := Aside0.mk (below_step (by repeat (first | (with_reducible first | exact HB.out | apply below_alloc | apply pw_below_drewN | apply below_drew1 | refine below_set ?_ (IsS67.ge HI335.out) | refine below_set ?_ GE347.out) | exact HB.out)) hb); clear BK347; clear HI335; clear HB; have BK347 := n0_; have HI335 := n1_; have HB := n2_; clear n0_ n1_ n2_; (try clear hb); (try clear hb2); (try clear hk); (try clear hi)))
                          repeat (go_quiet (first | (go_at_call 14; (with_reducible refine (windhoverref13_Round.calls (wrap64 (x9_2 + ((rd_T48 l2 x10_2).f0))) t349 _ A42.out).mono ?_); rintro e w' ⟨rfl, ⟨nd, rfl⟩⟩; (try first | exact ⟨rfl, _, World.drewN_drewN _ _ _⟩ | exact ⟨rfl, _, Eq.trans (World.drewN_drewN _ _ _) (congrArg (World.drewN _) (Nat.add_assoc _ _ _))⟩)) | (go_at_call 14; (with_reducible refine (windhoverref13_Round.calls (wrap64 (t349 + 8)) t350 _ A43.out).mono ?_); rintro e w' ⟨rfl, ⟨nd, rfl⟩⟩; (try first | exact ⟨rfl, _, World.drewN_drewN _ _ _⟩ | exact ⟨rfl, _, Eq.trans (World.drewN_drewN _ _ _) (congrArg (World.drewN _) (Nat.add_assoc _ _ _))⟩)) | (go_at_call 13; (with_reducible refine (est_Compass_Step.calls kj17 g335 x336000_2 x336001_2 x336002_2 x336003_2 x336004_2 x336005_2 ((rd_T48 l2 x10_2).f3) (wrap64 (((rd_T48 l2 x10_2).f0) + ((rd_T48 l2 x10_2).f1))) a1 ((rd_T48 l2 x10_2).f4) (wrap64 ((wrap64 (Int.tdiv t350 16)) + ((rd_T48 l2 x10_2).f2))) (wrap64 (a1 + 1)) t351 t352 t353 t354 t355 t356 w _ ?side1 ?side2 A44.out).mono ?_); (case side1 => repeat (first | (with_reducible first | exact HI335.out | apply IsS67.alloc | apply IsS67.drewN | apply IsS67.drew | apply IsS67.set_0 | apply IsS67.set_1 | apply IsS67.set_2 | apply IsS67.set_3 | apply IsS67.set_4 | apply IsS67.set_5 | apply IsS67.farb NB335_347.out) | exact HI335.out)); (case side2 => repeat (first | (with_reducible first | exact HB.out | apply below_alloc | apply pw_below_drewN | apply below_drew1 | refine below_set ?_ (IsS67.ge HI335.out) | refine below_set ?_ GE347.out) | exact HB.out)); rintro e w50 ⟨rfl, hi, hb, hk⟩; have n0_ := Aside0.mk (KeepBut.blk hk (g' := gb347) (o := .cells #[.int .i64 ((rd_T48 l2 x10_2).f0), .int .i64 ((rd_T48 l2 x10_2).f1), .int .i64 ((rd_T48 l2 x10_2).f2), .bool ((rd_T48 l2 x10_2).f3), .bool ((rd_T48 l2 x10_2).f4)] 48 (0, 0)) (by (with_reducible repeat (first | refine blk_drewN ?_ _ | refine blk_drew ?_ | refine blk_alloc ?_ _)); exact BK347.out) NB347_335.out (by simp)); have n1_ := Aside0.mk (hb); have n2_ := Aside0.mk (hi); clear BK347; clear HB; clear HI335; have BK347 := n0_; have HB := n1_; have HI335 := n2_; clear n0_ n1_ n2_; (try clear hb); (try clear hb2); (try clear hk); (try clear hi)) | (go_at_call 15; (with_reducible refine (est_Compass_Heading.calls g335 t351 t352 t353 t354 t355 t356 t357 t358 t359 t351 t352 t353 t354 t355 t356 w _ ?side1 ?side2 A45.out).mono ?_); (case side1 => repeat (first | (with_reducible first | exact HI335.out | apply IsS67.alloc | apply IsS67.drewN | apply IsS67.drew | apply IsS67.set_0 | apply IsS67.set_1 | apply IsS67.set_2 | apply IsS67.set_3 | apply IsS67.set_4 | apply IsS67.set_5 | apply IsS67.farb NB335_347.out) | exact HI335.out)); (case side2 => repeat (first | (with_reducible first | exact HB.out | apply below_alloc | apply pw_below_drewN | apply below_drew1 | refine below_set ?_ (IsS67.ge HI335.out) | refine below_set ?_ GE347.out) | exact HB.out)); rintro e w51 ⟨rfl, hi, hb, hk⟩; have n0_ := Aside0.mk (KeepBut.blk hk (g' := gb347) (o := .cells #[.int .i64 ((rd_T48 l2 x10_2).f0), .int .i64 ((rd_T48 l2 x10_2).f1), .int .i64 ((rd_T48 l2 x10_2).f2), .bool ((rd_T48 l2 x10_2).f3), .bool ((rd_T48 l2 x10_2).f4)] 48 (0, 0)) (by (with_reducible repeat (first | refine blk_drewN ?_ _ | refine blk_drew ?_ | refine blk_alloc ?_ _)); exact BK347.out) NB347_335.out (by simp)); have n1_ := Aside0.mk (hb); have n2_ := Aside0.mk (hi); clear BK347; clear HB; clear HI335; have BK347 := n0_; have HB := n1_; have HI335 := n2_; clear n0_ n1_ n2_; (try clear hb); (try clear hb2); (try clear hk); (try clear hi)) | (go_at_call 8; (with_reducible refine (windhoverlaw13_awake.calls kj17  t366 _ A47.out).mono ?_); rintro e w52 ⟨rfl, hb⟩; have n0_ := Aside0.mk (blk_below (g := gb347) (o := .cells #[.int .i64 ((rd_T48 l2 x10_2).f0), .int .i64 ((rd_T48 l2 x10_2).f1), .int .i64 ((rd_T48 l2 x10_2).f2), .bool ((rd_T48 l2 x10_2).f3), .bool ((rd_T48 l2 x10_2).f4)] 48 (0, 0)) (by (with_reducible repeat (first | refine blk_drewN ?_ _ | refine blk_drew ?_ | refine blk_alloc ?_ _)); exact BK347.out) hb); have n1_ := Aside0.mk (IsS67.below (by repeat (first | (with_reducible first | exact HI335.out | apply IsS67.alloc | apply IsS67.drewN | apply IsS67.drew | apply IsS67.set_0 | apply IsS67.set_1 | apply IsS67.set_2 | apply IsS67.set_3 | apply IsS67.set_4 | apply IsS67.set_5 | apply IsS67.farb NB335_347.out) | exact HI335.out)) hb); have n2_ := Aside0.mk (below_step (by repeat (first | (with_reducible first | exact HB.out | apply below_alloc | apply pw_below_drewN | apply below_drew1 | refine below_set ?_ (IsS67.ge HI335.out) | refine below_set ?_ GE347.out) | exact HB.out)) hb); clear BK347; clear HI335; clear HB; have BK347 := n0_; have HI335 := n1_; have HB := n2_; clear n0_ n1_ n2_; (try clear hb); (try clear hb2); (try clear hk); (try clear hi))); try go_wp2_with (first | (go_at_call 14; (with_reducible refine (windhoverref13_Round.calls (wrap64 (x9_2 + ((rd_T48 l2 x10_2).f0))) t349 _ A42.out).mono ?_); rintro e w' ⟨rfl, ⟨nd, rfl⟩⟩; (try first | exact ⟨rfl, _, World.drewN_drewN _ _ _⟩ | exact ⟨rfl, _, Eq.trans (World.drewN_drewN _ _ _) (congrArg (World.drewN _) (Nat.add_assoc _ _ _))⟩)) | (go_at_call 14; (with_reducible refine (windhoverref13_Round.calls (wrap64 (t349 + 8)) t350 _ A43.out).mono ?_); rintro e w' ⟨rfl, ⟨nd, rfl⟩⟩; (try first | exact ⟨rfl, _, World.drewN_drewN _ _ _⟩ | exact ⟨rfl, _, Eq.trans (World.drewN_drewN _ _ _) (congrArg (World.drewN _) (Nat.add_assoc _ _ _))⟩)) | (go_at_call 13; (with_reducible refine (est_Compass_Step.calls kj17 g335 x336000_2 x336001_2 x336002_2 x336003_2 x336004_2 x336005_2 ((rd_T48 l2 x10_2).f3) (wrap64 (((rd_T48 l2 x10_2).f0) + ((rd_T48 l2 x10_2).f1))) a1 ((rd_T48 l2 x10_2).f4) (wrap64 ((wrap64 (Int.tdiv t350 16)) + ((rd_T48 l2 x10_2).f2))) (wrap64 (a1 + 1)) t351 t352 t353 t354 t355 t356 w _ ?side1 ?side2 A44.out).mono ?_); (case side1 => repeat (first | (with_reducible first | exact HI335.out | apply IsS67.alloc | apply IsS67.drewN | apply IsS67.drew | apply IsS67.set_0 | apply IsS67.set_1 | apply IsS67.set_2 | apply IsS67.set_3 | apply IsS67.set_4 | apply IsS67.set_5 | apply IsS67.farb NB335_347.out) | exact HI335.out)); (case side2 => repeat (first | (with_reducible first | exact HB.out | apply below_alloc | apply pw_below_drewN | apply below_drew1 | refine below_set ?_ (IsS67.ge HI335.out) | refine below_set ?_ GE347.out) | exact HB.out)); rintro e w50 ⟨rfl, hi, hb, hk⟩; have n0_ := Aside0.mk (KeepBut.blk hk (g' := gb347) (o := .cells #[.int .i64 ((rd_T48 l2 x10_2).f0), .int .i64 ((rd_T48 l2 x10_2).f1), .int .i64 ((rd_T48 l2 x10_2).f2), .bool ((rd_T48 l2 x10_2).f3), .bool ((rd_T48 l2 x10_2).f4)] 48 (0, 0)) (by (with_reducible repeat (first | refine blk_drewN ?_ _ | refine blk_drew ?_ | refine blk_alloc ?_ _)); exact BK347.out) NB347_335.out (by simp)); have n1_ := Aside0.mk (hb); have n2_ := Aside0.mk (hi); clear BK347; clear HB; clear HI335; have BK347 := n0_; have HB := n1_; have HI335 := n2_; clear n0_ n1_ n2_; (try clear hb); (try clear hb2); (try clear hk); (try clear hi)) | (go_at_call 15; (with_reducible refine (est_Compass_Heading.calls g335 t351 t352 t353 t354 t355 t356 t357 t358 t359 t351 t352 t353 t354 t355 t356 w _ ?side1 ?side2 A45.out).mono ?_); (case side1 => repeat (first | (with_reducible first | exact HI335.out | apply IsS67.alloc | apply IsS67.drewN | apply IsS67.drew | apply IsS67.set_0 | apply IsS67.set_1 | apply IsS67.set_2 | apply IsS67.set_3 | apply IsS67.set_4 | apply IsS67.set_5 | apply IsS67.farb NB335_347.out) | exact HI335.out)); (case side2 => repeat (first | (with_reducible first | exact HB.out | apply below_alloc | apply pw_below_drewN | apply below_drew1 | refine below_set ?_ (IsS67.ge HI335.out) | refine below_set ?_ GE347.out) | exact HB.out)); rintro e w51 ⟨rfl, hi, hb, hk⟩; have n0_ := Aside0.mk (KeepBut.blk hk (g' := gb347) (o := .cells #[.int .i64 ((rd_T48 l2 x10_2).f0), .int .i64 ((rd_T48 l2 x10_2).f1), .int .i64 ((rd_T48 l2 x10_2).f2), .bool ((rd_T48 l2 x10_2).f3), .bool ((rd_T48 l2 x10_2).f4)] 48 (0, 0)) (by (with_reducible repeat (first | refine blk_drewN ?_ _ | refine blk_drew ?_ | refine blk_alloc ?_ _)); exact BK347.out) NB347_335.out (by simp)); have n1_ := Aside0.mk (hb); have n2_ := Aside0.mk (hi); clear BK347; clear HB; clear HI335; have BK347 := n0_; have HB := n1_; have HI335 := n2_; clear n0_ n1_ n2_; (try clear hb); (try clear hb2); (try clear hk); (try clear hi)) | (go_at_call 8; (with_reducible refine (windhoverlaw13_awake.calls kj17  t366 _ A47.out).mono ?_); rintro e w52 ⟨rfl, hb⟩; have n0_ := Aside0.mk (blk_below (g := gb347) (o := .cells #[.int .i64 ((rd_T48 l2 x10_2).f0), .int .i64 ((rd_T48 l2 x10_2).f1), .int .i64 ((rd_T48 l2 x10_2).f2), .bool ((rd_T48 l2 x10_2).f3), .bool ((rd_T48 l2 x10_2).f4)] 48 (0, 0)) (by (with_reducible repeat (first | refine blk_drewN ?_ _ | refine blk_drew ?_ | refine blk_alloc ?_ _)); exact BK347.out) hb); have n1_ := Aside0.mk (IsS67.below (by repeat (first | (with_reducible first | exact HI335.out | apply IsS67.alloc | apply IsS67.drewN | apply IsS67.drew | apply IsS67.set_0 | apply IsS67.set_1 | apply IsS67.set_2 | apply IsS67.set_3 | apply IsS67.set_4 | apply IsS67.set_5 | apply IsS67.farb NB335_347.out) | exact HI335.out)) hb); have n2_ := Aside0.mk (below_step (by repeat (first | (with_reducible first | exact HB.out | apply below_alloc | apply pw_below_drewN | apply below_drew1 | refine below_set ?_ (IsS67.ge HI335.out) | refine below_set ?_ GE347.out) | exact HB.out)) hb); clear BK347; clear HI335; clear HB; have BK347 := n0_; have HI335 := n1_; have HB := n2_; clear n0_ n1_ n2_; (try clear hb); (try clear hb2); (try clear hk); (try clear hi))))
                          go_ret
                          exact ⟨by first | rfl | (simp [errW_none, errW_some] <;> rfl) | (simp [*, errW_none, errW_some] <;> rfl), by repeat (first | (with_reducible first | exact HB.out | apply below_alloc | apply pw_below_drewN | apply below_drew1 | refine below_set ?_ (IsS67.ge HI335.out) | refine below_set ?_ GE347.out) | exact HB.out)⟩
                        · rw [if_neg c46] at H
                          have c46b0 : decide (400000 < t358) = false := decide_eq_false c46
                          clear c46
                          replace H := Option.bind_eq_some_iff.mp H
                          obtain ⟨t367, A530, H⟩ := H
                          replace H : (if t367 > t358 then (none) else (if t367 < (wrap64 (-t358)) then (none) else (windhoverlaw13_EstTurns.l0 kj17 a1 l2 t349 (wrap64 (x10_2 + 1)) t351 t352 t353 t354 t355 t356))) = some r := H
                          have A53 := Aside0.mk A530
                          clear A530
                          by_cases c54 : t367 > t358
                          · rw [if_pos c54] at H
                            exact absurd H (by simp)
                          · rw [if_neg c54] at H
                            have c54b0 : decide (t358 < t367) = false := decide_eq_false c54
                            clear c54
                            by_cases c55 : t367 < (wrap64 (-t358))
                            · rw [if_pos c55] at H
                              exact absurd H (by simp)
                            · rw [if_neg c55] at H
                              have c55b0 : decide (t367 < (wrap64 (-t358))) = false := decide_eq_false c55
                              clear c55
                              have H' := Aside0.mk H
                              clear H
                              have hnb56 := NB347_335.out
                              have hnc56 := NB335_347.out
                              have hcz57_0 := blk_cells5 (w := wc) (g := gb347) BK347.out
                              have hfz57_0 := blk_frozen BK347.out
                              go_wp2_with (first | (go_at_call 14; (with_reducible refine (windhoverref13_Round.calls (wrap64 (x9_2 + ((rd_T48 l2 x10_2).f0))) t349 _ A42.out).mono ?_); rintro e w' ⟨rfl, ⟨nd, rfl⟩⟩; (try first | exact ⟨rfl, _, World.drewN_drewN _ _ _⟩ | exact ⟨rfl, _, Eq.trans (World.drewN_drewN _ _ _) (congrArg (World.drewN _) (Nat.add_assoc _ _ _))⟩)) | (go_at_call 14; (with_reducible refine (windhoverref13_Round.calls (wrap64 (t349 + 8)) t350 _ A43.out).mono ?_); rintro e w' ⟨rfl, ⟨nd, rfl⟩⟩; (try first | exact ⟨rfl, _, World.drewN_drewN _ _ _⟩ | exact ⟨rfl, _, Eq.trans (World.drewN_drewN _ _ _) (congrArg (World.drewN _) (Nat.add_assoc _ _ _))⟩)) | (go_at_call 13; (with_reducible refine (est_Compass_Step.calls kj17 g335 x336000_2 x336001_2 x336002_2 x336003_2 x336004_2 x336005_2 ((rd_T48 l2 x10_2).f3) (wrap64 (((rd_T48 l2 x10_2).f0) + ((rd_T48 l2 x10_2).f1))) a1 ((rd_T48 l2 x10_2).f4) (wrap64 ((wrap64 (Int.tdiv t350 16)) + ((rd_T48 l2 x10_2).f2))) (wrap64 (a1 + 1)) t351 t352 t353 t354 t355 t356 w _ ?side1 ?side2 A44.out).mono ?_); (case side1 => repeat (first | (with_reducible first | exact HI335.out | apply IsS67.alloc | apply IsS67.drewN | apply IsS67.drew | apply IsS67.set_0 | apply IsS67.set_1 | apply IsS67.set_2 | apply IsS67.set_3 | apply IsS67.set_4 | apply IsS67.set_5 | apply IsS67.farb NB335_347.out) | exact HI335.out)); (case side2 => repeat (first | (with_reducible first | exact HB.out | apply below_alloc | apply pw_below_drewN | apply below_drew1 | refine below_set ?_ (IsS67.ge HI335.out) | refine below_set ?_ GE347.out) | exact HB.out)); rintro e w58 ⟨rfl, hi, hb, hk⟩; have n0_ := Aside0.mk (KeepBut.blk hk (g' := gb347) (o := .cells #[.int .i64 ((rd_T48 l2 x10_2).f0), .int .i64 ((rd_T48 l2 x10_2).f1), .int .i64 ((rd_T48 l2 x10_2).f2), .bool ((rd_T48 l2 x10_2).f3), .bool ((rd_T48 l2 x10_2).f4)] 48 (0, 0)) (by (with_reducible repeat (first | refine blk_drewN ?_ _ | refine blk_drew ?_ | refine blk_alloc ?_ _)); exact BK347.out) NB347_335.out (by simp)); have n1_ := Aside0.mk (hb); have n2_ := Aside0.mk (hi); clear BK347; clear HB; clear HI335; have BK347 := n0_; have HB := n1_; have HI335 := n2_; clear n0_ n1_ n2_; (try clear hb); (try clear hb2); (try clear hk); (try clear hi)) | (go_at_call 15; (with_reducible refine (est_Compass_Heading.calls g335 t351 t352 t353 t354 t355 t356 t357 t358 t359 t351 t352 t353 t354 t355 t356 w _ ?side1 ?side2 A45.out).mono ?_); (case side1 => repeat (first | (with_reducible first | exact HI335.out | apply IsS67.alloc | apply IsS67.drewN | apply IsS67.drew | apply IsS67.set_0 | apply IsS67.set_1 | apply IsS67.set_2 | apply IsS67.set_3 | apply IsS67.set_4 | apply IsS67.set_5 | apply IsS67.farb NB335_347.out) | exact HI335.out)); (case side2 => repeat (first | (with_reducible first | exact HB.out | apply below_alloc | apply pw_below_drewN | apply below_drew1 | refine below_set ?_ (IsS67.ge HI335.out) | refine below_set ?_ GE347.out) | exact HB.out)); rintro e w59 ⟨rfl, hi, hb, hk⟩; have n0_ := Aside0.mk (KeepBut.blk hk (g' := gb347) (o := .cells #[.int .i64 ((rd_T48 l2 x10_2).f0), .int .i64 ((rd_T48 l2 x10_2).f1), .int .i64 ((rd_T48 l2 x10_2).f2), .bool ((rd_T48 l2 x10_2).f3), .bool ((rd_T48 l2 x10_2).f4)] 48 (0, 0)) (by (with_reducible repeat (first | refine blk_drewN ?_ _ | refine blk_drew ?_ | refine blk_alloc ?_ _)); exact BK347.out) NB347_335.out (by simp)); have n1_ := Aside0.mk (hb); have n2_ := Aside0.mk (hi); clear BK347; clear HB; clear HI335; have BK347 := n0_; have HB := n1_; have HI335 := n2_; clear n0_ n1_ n2_; (try clear hb); (try clear hb2); (try clear hk); (try clear hi)) | (go_at_call 16; (with_reducible refine (windhoverref13_Way.calls t349 t357 t367 _ A53.out).mono ?_); rintro e w' ⟨rfl, ⟨nd, rfl⟩⟩; (try first | exact ⟨rfl, _, World.drewN_drewN _ _ _⟩ | exact ⟨rfl, _, Eq.trans (World.drewN_drewN _ _ _) (congrArg (World.drewN _) (Nat.add_assoc _ _ _))⟩)))
                              repeat (go_quiet (first | (go_at_call 14; (with_reducible refine (windhoverref13_Round.calls (wrap64 (x9_2 + ((rd_T48 l2 x10_2).f0))) t349 _ A42.out).mono ?_); rintro e w' ⟨rfl, ⟨nd, rfl⟩⟩; (try first | exact ⟨rfl, _, World.drewN_drewN _ _ _⟩ | exact ⟨rfl, _, Eq.trans (World.drewN_drewN _ _ _) (congrArg (World.drewN _) (Nat.add_assoc _ _ _))⟩)) | (go_at_call 14; (with_reducible refine (windhoverref13_Round.calls (wrap64 (t349 + 8)) t350 _ A43.out).mono ?_); rintro e w' ⟨rfl, ⟨nd, rfl⟩⟩; (try first | exact ⟨rfl, _, World.drewN_drewN _ _ _⟩ | exact ⟨rfl, _, Eq.trans (World.drewN_drewN _ _ _) (congrArg (World.drewN _) (Nat.add_assoc _ _ _))⟩)) | (go_at_call 13; (with_reducible refine (est_Compass_Step.calls kj17 g335 x336000_2 x336001_2 x336002_2 x336003_2 x336004_2 x336005_2 ((rd_T48 l2 x10_2).f3) (wrap64 (((rd_T48 l2 x10_2).f0) + ((rd_T48 l2 x10_2).f1))) a1 ((rd_T48 l2 x10_2).f4) (wrap64 ((wrap64 (Int.tdiv t350 16)) + ((rd_T48 l2 x10_2).f2))) (wrap64 (a1 + 1)) t351 t352 t353 t354 t355 t356 w _ ?side1 ?side2 A44.out).mono ?_); (case side1 => repeat (first | (with_reducible first | exact HI335.out | apply IsS67.alloc | apply IsS67.drewN | apply IsS67.drew | apply IsS67.set_0 | apply IsS67.set_1 | apply IsS67.set_2 | apply IsS67.set_3 | apply IsS67.set_4 | apply IsS67.set_5 | apply IsS67.farb NB335_347.out) | exact HI335.out)); (case side2 => repeat (first | (with_reducible first | exact HB.out | apply below_alloc | apply pw_below_drewN | apply below_drew1 | refine below_set ?_ (IsS67.ge HI335.out) | refine below_set ?_ GE347.out) | exact HB.out)); rintro e w58 ⟨rfl, hi, hb, hk⟩; have n0_ := Aside0.mk (KeepBut.blk hk (g' := gb347) (o := .cells #[.int .i64 ((rd_T48 l2 x10_2).f0), .int .i64 ((rd_T48 l2 x10_2).f1), .int .i64 ((rd_T48 l2 x10_2).f2), .bool ((rd_T48 l2 x10_2).f3), .bool ((rd_T48 l2 x10_2).f4)] 48 (0, 0)) (by (with_reducible repeat (first | refine blk_drewN ?_ _ | refine blk_drew ?_ | refine blk_alloc ?_ _)); exact BK347.out) NB347_335.out (by simp)); have n1_ := Aside0.mk (hb); have n2_ := Aside0.mk (hi); clear BK347; clear HB; clear HI335; have BK347 := n0_; have HB := n1_; have HI335 := n2_; clear n0_ n1_ n2_; (try clear hb); (try clear hb2); (try clear hk); (try clear hi)) | (go_at_call 15; (with_reducible refine (est_Compass_Heading.calls g335 t351 t352 t353 t354 t355 t356 t357 t358 t359 t351 t352 t353 t354 t355 t356 w _ ?side1 ?side2 A45.out).mono ?_); (case side1 => repeat (first | (with_reducible first | exact HI335.out | apply IsS67.alloc | apply IsS67.drewN | apply IsS67.drew | apply IsS67.set_0 | apply IsS67.set_1 | apply IsS67.set_2 | apply IsS67.set_3 | apply IsS67.set_4 | apply IsS67.set_5 | apply IsS67.farb NB335_347.out) | exact HI335.out)); (case side2 => repeat (first | (with_reducible first | exact HB.out | apply below_alloc | apply pw_below_drewN | apply below_drew1 | refine below_set ?_ (IsS67.ge HI335.out) | refine below_set ?_ GE347.out) | exact HB.out)); rintro e w59 ⟨rfl, hi, hb, hk⟩; have n0_ := Aside0.mk (KeepBut.blk hk (g' := gb347) (o := .cells #[.int .i64 ((rd_T48 l2 x10_2).f0), .int .i64 ((rd_T48 l2 x10_2).f1), .int .i64 ((rd_T48 l2 x10_2).f2), .bool ((rd_T48 l2 x10_2).f3), .bool ((rd_T48 l2 x10_2).f4)] 48 (0, 0)) (by (with_reducible repeat (first | refine blk_drewN ?_ _ | refine blk_drew ?_ | refine blk_alloc ?_ _)); exact BK347.out) NB347_335.out (by simp)); have n1_ := Aside0.mk (hb); have n2_ := Aside0.mk (hi); clear BK347; clear HB; clear HI335; have BK347 := n0_; have HB := n1_; have HI335 := n2_; clear n0_ n1_ n2_; (try clear hb); (try clear hb2); (try clear hk); (try clear hi)) | (go_at_call 16; (with_reducible refine (windhoverref13_Way.calls t349 t357 t367 _ A53.out).mono ?_); rintro e w' ⟨rfl, ⟨nd, rfl⟩⟩; (try first | exact ⟨rfl, _, World.drewN_drewN _ _ _⟩ | exact ⟨rfl, _, Eq.trans (World.drewN_drewN _ _ _) (congrArg (World.drewN _) (Nat.add_assoc _ _ _))⟩))); try go_wp2_with (first | (go_at_call 14; (with_reducible refine (windhoverref13_Round.calls (wrap64 (x9_2 + ((rd_T48 l2 x10_2).f0))) t349 _ A42.out).mono ?_); rintro e w' ⟨rfl, ⟨nd, rfl⟩⟩; (try first | exact ⟨rfl, _, World.drewN_drewN _ _ _⟩ | exact ⟨rfl, _, Eq.trans (World.drewN_drewN _ _ _) (congrArg (World.drewN _) (Nat.add_assoc _ _ _))⟩)) | (go_at_call 14; (with_reducible refine (windhoverref13_Round.calls (wrap64 (t349 + 8)) t350 _ A43.out).mono ?_); rintro e w' ⟨rfl, ⟨nd, rfl⟩⟩; (try first | exact ⟨rfl, _, World.drewN_drewN _ _ _⟩ | exact ⟨rfl, _, Eq.trans (World.drewN_drewN _ _ _) (congrArg (World.drewN _) (Nat.add_assoc _ _ _))⟩)) | (go_at_call 13; (with_reducible refine (est_Compass_Step.calls kj17 g335 x336000_2 x336001_2 x336002_2 x336003_2 x336004_2 x336005_2 ((rd_T48 l2 x10_2).f3) (wrap64 (((rd_T48 l2 x10_2).f0) + ((rd_T48 l2 x10_2).f1))) a1 ((rd_T48 l2 x10_2).f4) (wrap64 ((wrap64 (Int.tdiv t350 16)) + ((rd_T48 l2 x10_2).f2))) (wrap64 (a1 + 1)) t351 t352 t353 t354 t355 t356 w _ ?side1 ?side2 A44.out).mono ?_); (case side1 => repeat (first | (with_reducible first | exact HI335.out | apply IsS67.alloc | apply IsS67.drewN | apply IsS67.drew | apply IsS67.set_0 | apply IsS67.set_1 | apply IsS67.set_2 | apply IsS67.set_3 | apply IsS67.set_4 | apply IsS67.set_5 | apply IsS67.farb NB335_347.out) | exact HI335.out)); (case side2 => repeat (first | (with_reducible first | exact HB.out | apply below_alloc | apply pw_below_drewN | apply below_drew1 | refine below_set ?_ (IsS67.ge HI335.out) | refine below_set ?_ GE347.out) | exact HB.out)); rintro e w58 ⟨rfl, hi, hb, hk⟩; have n0_ := Aside0.mk (KeepBut.blk hk (g' := gb347) (o := .cells #[.int .i64 ((rd_T48 l2 x10_2).f0), .int .i64 ((rd_T48 l2 x10_2).f1), .int .i64 ((rd_T48 l2 x10_2).f2), .bool ((rd_T48 l2 x10_2).f3), .bool ((rd_T48 l2 x10_2).f4)] 48 (0, 0)) (by (with_reducible repeat (first | refine blk_drewN ?_ _ | refine blk_drew ?_ | refine blk_alloc ?_ _)); exact BK347.out) NB347_335.out (by simp)); have n1_ := Aside0.mk (hb); have n2_ := Aside0.mk (hi); clear BK347; clear HB; clear HI335; have BK347 := n0_; have HB := n1_; have HI335 := n2_; clear n0_ n1_ n2_; (try clear hb); (try clear hb2); (try clear hk); (try clear hi)) | (go_at_call 15; (with_reducible refine (est_Compass_Heading.calls g335 t351 t352 t353 t354 t355 t356 t357 t358 t359 t351 t352 t353 t354 t355 t356 w _ ?side1 ?side2 A45.out).mono ?_); (case side1 => repeat (first | (with_reducible first | exact HI335.out | apply IsS67.alloc | apply IsS67.drewN | apply IsS67.drew | apply IsS67.set_0 | apply IsS67.set_1 | apply IsS67.set_2 | apply IsS67.set_3 | apply IsS67.set_4 | apply IsS67.set_5 | apply IsS67.farb NB335_347.out) | exact HI335.out)); (case side2 => repeat (first | (with_reducible first | exact HB.out | apply below_alloc | apply pw_below_drewN | apply below_drew1 | refine below_set ?_ (IsS67.ge HI335.out) | refine below_set ?_ GE347.out) | exact HB.out)); rintro e w59 ⟨rfl, hi, hb, hk⟩; have n0_ := Aside0.mk (KeepBut.blk hk (g' := gb347) (o := .cells #[.int .i64 ((rd_T48 l2 x10_2).f0), .int .i64 ((rd_T48 l2 x10_2).f1), .int .i64 ((rd_T48 l2 x10_2).f2), .bool ((rd_T48 l2 x10_2).f3), .bool ((rd_T48 l2 x10_2).f4)] 48 (0, 0)) (by (with_reducible repeat (first | refine blk_drewN ?_ _ | refine blk_drew ?_ | refine blk_alloc ?_ _)); exact BK347.out) NB347_335.out (by simp)); have n1_ := Aside0.mk (hb); have n2_ := Aside0.mk (hi); clear BK347; clear HB; clear HI335; have BK347 := n0_; have HB := n1_; have HI335 := n2_; clear n0_ n1_ n2_; (try clear hb); (try clear hb2); (try clear hk); (try clear hi)) | (go_at_call 16; (with_reducible refine (windhoverref13_Way.calls t349 t357 t367 _ A53.out).mono ?_); rintro e w' ⟨rfl, ⟨nd, rfl⟩⟩; (try first | exact ⟨rfl, _, World.drewN_drewN _ _ _⟩ | exact ⟨rfl, _, Eq.trans (World.drewN_drewN _ _ _) (congrArg (World.drewN _) (Nat.add_assoc _ _ _))⟩))))
                              go_roundg kj17
                              case measure => have := HJ5.out; have := HK2.out; have := HJ17.out; omega
                              case rel => exact ⟨(t349), (wrap64 (x10_2 + 1)), (t351), (t352), (t353), (t354), (t355), (t356), (by first | rfl | (simp; done) | (simp [*]; done)), (by first | rfl | (simp; done) | (simp [*]; done)), H', ⟨by have := HJ5.out; have := HK2.out; have := HJ17.out; omega⟩, ⟨by repeat (first | (with_reducible first | exact HI335.out | apply IsS67.alloc | apply IsS67.drewN | apply IsS67.drew | apply IsS67.set_0 | apply IsS67.set_1 | apply IsS67.set_2 | apply IsS67.set_3 | apply IsS67.set_4 | apply IsS67.set_5 | apply IsS67.farb NB335_347.out) | exact HI335.out)⟩, ⟨by repeat (first | (with_reducible first | exact HB.out | apply below_alloc | apply pw_below_drewN | apply below_drew1 | refine below_set ?_ (IsS67.ge HI335.out) | refine below_set ?_ GE347.out) | exact HB.out)⟩⟩
                · rw [if_neg c17] at H
                  exact absurd H (by simp)
              · rw [if_neg c16] at H
                have c16b0 : decide (x10_2 < (l2.length : Int)) = false := decide_eq_false c16
                clear c16
                replace H := Option.bind_eq_some_iff.mp H
                obtain ⟨t345, A600, H⟩ := H
                replace H : (some t345) = some r := H
                have A60 := Aside0.mk A600
                clear A600
                obtain rfl := Option.some.inj H
                go_wp2_with (first | (go_at_call 8; (with_reducible refine (windhoverlaw13_awake.calls k2  t345 _ A60.out).mono ?_); rintro e w61 ⟨rfl, hb⟩; have n0_ := Aside0.mk (IsS67.below (by repeat (first | (with_reducible first | exact HI335.out | apply IsS67.alloc | apply IsS67.drewN | apply IsS67.drew | apply IsS67.set_0 | apply IsS67.set_1 | apply IsS67.set_2 | apply IsS67.set_3 | apply IsS67.set_4 | apply IsS67.set_5) | exact HI335.out)) hb); have n1_ := Aside0.mk (below_step (by repeat (first | (with_reducible first | exact HB.out | apply below_alloc | apply pw_below_drewN | apply below_drew1 | refine below_set ?_ (IsS67.ge HI335.out)) | exact HB.out)) hb); clear HI335; clear HB; have HI335 := n0_; have HB := n1_; clear n0_ n1_; (try clear hb); (try clear hb2); (try clear hk); (try clear hi)))
                go_ret
                exact ⟨by first | rfl | (simp [errW_none, errW_some] <;> rfl) | (simp [*, errW_none, errW_some] <;> rfl), by repeat (first | (with_reducible first | exact HB.out | apply below_alloc | apply pw_below_drewN | apply below_drew1 | refine below_set ?_ (IsS67.ge HI335.out)) | exact HB.out)⟩
  · rw [if_neg c5] at H
    have c5b0 : (t336 == 0) = false := beq_eq_false_iff_ne.mpr c5
    have c5b1 : (t336 != 0) = true := bne_iff_ne.mpr c5
    exact absurd H (by simp)

/-- THE ONE PURE STATEMENT of windhoverlaw13_EstTurns: yours. -/
def windhoverlaw13_EstTurns.Pure : Prop := ∀ (a0 : Int) (a1 : Int) (l2 : List (S48)), ((Lit.int .i64 a0).wf = true) → ((Lit.int .i64 a1).wf = true) → (l2.length ≤ maxLen) → (∀ p_ ∈ l2, (Lit.int .i64 p_.f0).wf = true ∧ (Lit.int .i64 p_.f1).wf = true ∧ (Lit.int .i64 p_.f2).wf = true) → ∃ k, windhoverlaw13_EstTurns.f k a0 a1 l2 = some true
theorem windhoverlaw13_EstTurns.walk (P : windhoverlaw13_EstTurns.Pure) (a0 : Int) (a1 : Int) (A2 : Option Addr) (c2 : Nat) (l2 : List (S48)) (w : World) (w0 : (Lit.int .i64 a0).wf = true) (w1 : (Lit.int .i64 a1).wf = true) (m2 : l2.length ≤ maxLen) (w2 : ∀ p_ ∈ l2, (Lit.int .i64 p_.f0).wf = true ∧ (Lit.int .i64 p_.f1).wf = true ∧ (Lit.int .i64 p_.f2).wf = true) (hr2 : Kd.C k48 w A2 l2.length l2) (hc2 : l2.length ≤ c2) :
    Calls Try.prog 4 #[.int .i64 a0, .int .i64 a1, .slice A2 l2.length c2] w fun e w' => e = .returned (.bool true) ∧ Below w.heap.size w w' := by
  obtain ⟨k, h⟩ := P a0 a1 l2 w0 w1 m2 w2
  refine (windhoverlaw13_EstTurns.calls k a0 a1 A2 c2 l2 true w hr2 hc2 h).mono ?_
  rintro e w' ⟨rfl, hd⟩
  exact ⟨rfl, hd⟩

end Go.Proofs.Ytpfnonfehkiemaa.PEstTurns
