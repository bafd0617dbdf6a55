-- WRITTEN BY wip/tools/aprint.py of this claim's repository over the kit's words: not typed by hand
import Derived.Test.YtbnliflfkljbfaaPControlLawsx0
import Derived.Test.YtbnliflfkljbfaaPControlLawsx2
import Derived.Test.YtbnliflfkljbfaaPControlLawsx3
import Derived.Test.YtbnliflfkljbfaaPControlLawsx4
import Derived.Test.YtbnliflfkljbfaaPControlLawsx6
import Derived.Test.YtbnliflfkljbfaaPControlLawsx7
import Derived.Test.YtbnliflfkljbfaaPControlLawsx8
namespace Go.Proofs.Ytbnliflfkljbfaa.PControlLaws
open Go.RowKit Go.Proofs.YtbnliflfkljbfaaW.PrintWords Go.Proofs.YtbnliflfkljbfaaW.PrintLast Go.Proofs.YtbnliflfkljbfaaW.PrintMore
attribute [local go_sem] max2_int min2_int max_two min_two max_three min_three max_four min_four   -- for this text's walks alone
set_option linter.unusedVariables false
set_option linter.unusedSimpArgs false

/-! ### windhoverref01_Mul: function 31 -/
def windhoverref01_Mul.f (k : Nat) (a0 : Int) (a1 : Int) : Option (Int) := (windhoverref00_Of.f k a0).bind fun bt242 => ((windhoverref00_Of.f k a1).bind fun bt246 => ((windhoverref00_Times.f k bt242.1 bt242.2 bt246.1 bt246.2).bind fun bt250 => ((windhoverref01_kept.f k bt250.1 bt250.2).bind fun t254 => (some t254))))
theorem windhoverref01_Mul.mono : ∀ a0 a1 k, LeO (windhoverref01_Mul.f k a0 a1) (windhoverref01_Mul.f (k + 1) a0 a1) := by
  intro a0 a1 k
  unfold windhoverref01_Mul.f
  repeat' first
      | (with_reducible exact windhoverref00_Of.mono _ _)
      | (with_reducible exact windhoverref00_Times.mono _ _ _ _ _)
      | (with_reducible exact windhoverref01_kept.mono _ _ _)
      | (with_reducible exact LeO.refl _)
      | (with_reducible exact LeO.none _)
      | (with_reducible refine LeO.ite ?_ ?_)
      | (with_reducible refine LeO.bind ?_ (fun _ => ?_))
      | exact windhoverref00_Of.mono _ _
      | exact windhoverref00_Times.mono _ _ _ _ _
      | exact windhoverref01_kept.mono _ _ _
      | exact LeO.none _
      | refine LeO.ite ?_ ?_
      | refine LeO.bind ?_ (fun _ => ?_)
set_option maxHeartbeats 8000000 in
set_option maxRecDepth 100000 in
theorem windhoverref01_Mul.calls (k : Nat) (a0 : Int) (a1 : Int) (r : Int) (w : World) (h : windhoverref01_Mul.f k a0 a1 = some r) :
    Calls Try.prog 31 #[.int .i64 a0, .int .i64 a1] w fun e w' => e = .returned (.int .i64 r) ∧ Below w.heap.size w w' := by
  have HB := Aside0.mk (Below.refl w.heap.size w)
  have H : ((windhoverref00_Of.f k a0).bind fun bt242 => ((windhoverref00_Of.f k a1).bind fun bt246 => ((windhoverref00_Times.f k bt242.1 bt242.2 bt246.1 bt246.2).bind fun bt250 => ((windhoverref01_kept.f k bt250.1 bt250.2).bind fun t254 => (some t254))))) = some r := h
  clear h
  replace H := Option.bind_eq_some_iff.mp H
  obtain ⟨⟨t242, t243⟩, A30, H⟩ := H
  replace H : ((windhoverref00_Of.f k a1).bind fun bt246 => ((windhoverref00_Times.f k t242 t243 bt246.1 bt246.2).bind fun bt250 => ((windhoverref01_kept.f k bt250.1 bt250.2).bind fun t254 => (some t254)))) = some r := H
  have A3 := Aside0.mk A30
  clear A30
  replace H := Option.bind_eq_some_iff.mp H
  obtain ⟨⟨t246, t247⟩, A40, H⟩ := H
  replace H : ((windhoverref00_Times.f k t242 t243 t246 t247).bind fun bt250 => ((windhoverref01_kept.f k bt250.1 bt250.2).bind fun t254 => (some t254))) = some r := H
  have A4 := Aside0.mk A40
  clear A40
  replace H := Option.bind_eq_some_iff.mp H
  obtain ⟨⟨t250, t251⟩, A50, H⟩ := H
  replace H : ((windhoverref01_kept.f k t250 t251).bind fun t254 => (some t254)) = some r := H
  have A5 := Aside0.mk A50
  clear A50
  replace H := Option.bind_eq_some_iff.mp H
  obtain ⟨t254, A60, H⟩ := H
  replace H : (some t254) = some r := H
  have A6 := Aside0.mk A60
  clear A60
  obtain rfl := Option.some.inj H
  go_enter Try.func31, Try.ntmps31
  go_wp2_with (first | ((with_reducible refine gate_callee (f := 36) rfl ?_); refine goesL_ (some 6) rfl rfl Try.func36 (by kernel_rfl) rfl #[.int .i64 a0] rfl (by (try simp only [List.map_toArray, List.map_cons, List.map_nil]); first | done | rfl | (simp only [List.length_drop, List.length_take]; rfl)) ?_; (with_reducible refine (windhoverref00_Of.calls k a0 t242 t243 _ A3.out).mono ?_); rintro e w7 ⟨v244, rfl, ho0, hb⟩; refine ⟨_, rfl, ?_⟩; have n0_ := Aside0.mk (Kd.R_lower ho0 (below_size (by repeat (first | (with_reducible first | exact HB.out | apply below_alloc | apply pw_below_drewN | apply below_drew1) | exact HB.out)))); have n1_ := Aside0.mk (below_step (by repeat (first | (with_reducible first | exact HB.out | apply below_alloc | apply pw_below_drewN | apply below_drew1) | exact HB.out)) hb); clear HB; have HO245 := n0_; have HB := n1_; clear n0_ n1_; (try clear hb); (try clear hb2); (try clear hk); (try clear hi); (try clear ho0)) | ((with_reducible refine gate_callee (f := 36) rfl ?_); refine goesL_ (some 8) rfl rfl Try.func36 (by kernel_rfl) rfl #[.int .i64 a1] rfl (by (try simp only [List.map_toArray, List.map_cons, List.map_nil]); first | done | rfl | (simp only [List.length_drop, List.length_take]; rfl)) ?_; (with_reducible refine (windhoverref00_Of.calls k a1 t246 t247 _ A4.out).mono ?_); rintro e w8 ⟨v248, rfl, ho0, hb⟩; refine ⟨_, rfl, ?_⟩; have n0_ := Aside0.mk (Kd.R_elder' (by (with_reducible repeat (first | apply Kd.R_alloc | apply Kd.R_drewN | apply Kd.R_drew)); exact HO245.out) (Kd.R_base ho0) hb); have n1_ := Aside0.mk (Kd.R_lower (Kd.R_new' ho0 (Kd.R_lt (by (with_reducible repeat (first | apply Kd.R_alloc | apply Kd.R_drewN | apply Kd.R_drew)); exact HO245.out))) (below_size (by repeat (first | (with_reducible first | exact HB.out | apply below_alloc | apply pw_below_drewN | apply below_drew1) | exact HB.out)))); have n2_ := Aside0.mk (below_step (by repeat (first | (with_reducible first | exact HB.out | apply below_alloc | apply pw_below_drewN | apply below_drew1) | exact HB.out)) hb); clear HO245; clear HB; have HO245 := n0_; have HO249 := n1_; have HB := n2_; clear n0_ n1_ n2_; (try clear hb); (try clear hb2); (try clear hk); (try clear hi); (try clear ho0); obtain ⟨Ao9, co9, eo9⟩ := Kd.R_slice HO245.out; subst eo9; obtain ⟨Ao10, co10, eo10⟩ := Kd.R_slice HO249.out; subst eo10) | ((with_reducible refine gate_callee (f := 48) rfl ?_); refine goesL_ (some 9) rfl rfl Try.func48 (by kernel_rfl) rfl #[.agg #[.bool t242, .slice Ao9 t243.length co9], .agg #[.bool t246, .slice Ao10 t247.length co10]] rfl (by (try simp only [List.map_toArray, List.map_cons, List.map_nil]); first | done | rfl | (simp only [List.length_drop, List.length_take]; rfl)) ?_; (with_reducible refine (windhoverref00_Times.calls k t242 _ _ t243 t246 _ _ t247 t250 t251 _ ?side1 ?side2 ?side3 ?side4 A5.out).mono ?_); (case side1 => repeat (first | exact (Kd.R_reads' HO245.out).2.2 | (with_reducible refine Kd.C_alloc ?_ _) | (with_reducible refine Kd.C_drewN ?_ _) | (with_reducible refine Kd.C_drew ?_))); (case side2 => exact (Kd.R_reads' HO245.out).2.1); (case side3 => repeat (first | exact (Kd.R_reads' HO249.out).2.2 | (with_reducible refine Kd.C_alloc ?_ _) | (with_reducible refine Kd.C_drewN ?_ _) | (with_reducible refine Kd.C_drew ?_))); (case side4 => exact (Kd.R_reads' HO249.out).2.1); rintro e w11 ⟨v252, rfl, ho0, hb⟩; refine ⟨_, rfl, ?_⟩; have n0_ := Aside0.mk (Kd.R_elder' (by (with_reducible repeat (first | apply Kd.R_alloc | apply Kd.R_drewN | apply Kd.R_drew)); exact HO245.out) (Kd.R_base ho0) hb); have n1_ := Aside0.mk (Kd.R_elder' (by (with_reducible repeat (first | apply Kd.R_alloc | apply Kd.R_drewN | apply Kd.R_drew)); exact HO249.out) (Kd.R_base ho0) hb); have n2_ := Aside0.mk (Kd.R_lower (Kd.R_new' (Kd.R_new' ho0 (Kd.R_lt (by (with_reducible repeat (first | apply Kd.R_alloc | apply Kd.R_drewN | apply Kd.R_drew)); exact HO245.out))) (Kd.R_lt (by (with_reducible repeat (first | apply Kd.R_alloc | apply Kd.R_drewN | apply Kd.R_drew)); exact HO249.out))) (below_size (by repeat (first | (with_reducible first | exact HB.out | apply below_alloc | apply pw_below_drewN | apply below_drew1) | exact HB.out)))); have n3_ := Aside0.mk (below_step (by repeat (first | (with_reducible first | exact HB.out | apply below_alloc | apply pw_below_drewN | apply below_drew1) | exact HB.out)) hb); clear HO245; clear HO249; clear HB; have HO245 := n0_; have HO249 := n1_; have HO253 := n2_; have HB := n3_; clear n0_ n1_ n2_ n3_; (try clear hb); (try clear hb2); (try clear hk); (try clear hi); (try clear ho0); obtain ⟨Ao12, co12, eo12⟩ := Kd.R_slice HO253.out; subst eo12) | ((with_reducible refine gate_callee (f := 34) rfl ?_); refine goesL_ (some 10) rfl rfl Try.func34 (by kernel_rfl) rfl #[.agg #[.bool t250, .slice Ao12 t251.length co12]] rfl (by (try simp only [List.map_toArray, List.map_cons, List.map_nil]); first | done | rfl | (simp only [List.length_drop, List.length_take]; rfl)) ?_; (with_reducible refine (windhoverref01_kept.calls k t250 _ _ t251 t254 _ ?side1 ?side2 A6.out).mono ?_); (case side1 => repeat (first | exact (Kd.R_reads' HO253.out).2.2 | (with_reducible refine Kd.C_alloc ?_ _) | (with_reducible refine Kd.C_drewN ?_ _) | (with_reducible refine Kd.C_drew ?_))); (case side2 => exact (Kd.R_reads' HO253.out).2.1); rintro e w13 ⟨rfl, hb⟩; refine ⟨_, rfl, ?_⟩; have n0_ := Aside0.mk (Kd.R_below (by (with_reducible repeat (first | apply Kd.R_alloc | apply Kd.R_drewN | apply Kd.R_drew)); exact HO245.out) hb); have n1_ := Aside0.mk (Kd.R_below (by (with_reducible repeat (first | apply Kd.R_alloc | apply Kd.R_drewN | apply Kd.R_drew)); exact HO249.out) hb); have n2_ := Aside0.mk (Kd.R_below (by (with_reducible repeat (first | apply Kd.R_alloc | apply Kd.R_drewN | apply Kd.R_drew)); exact HO253.out) hb); have n3_ := Aside0.mk (below_step (by repeat (first | (with_reducible first | exact HB.out | apply below_alloc | apply pw_below_drewN | apply below_drew1) | exact HB.out)) hb); clear HO245; clear HO249; clear HO253; clear HB; have HO245 := n0_; have HO249 := n1_; have HO253 := n2_; have HB := n3_; clear n0_ n1_ n2_ n3_; (try clear hb); (try clear hb2); (try clear hk); (try clear hi)))
  go_ret
  exact ⟨by first | rfl | (simp [errW_none, errW_some] <;> rfl) | (simp [*, errW_none, errW_some] <;> rfl), by repeat (first | (with_reducible first | exact HB.out | apply below_alloc | apply pw_below_drewN | apply below_drew1) | exact HB.out)⟩

/-! ### windhoverref17_Law: function 10 -/
mutual
def windhoverref17_Law.j0 : Nat → Int → Int → Int → Bool → Option (Int)
  | 0, _, _, _, _ => none
  | k + 1, x0, x1, x2, x14 => if x14 = true then (some 0) else (if x0 < 0 then ((windhoverref01_Sub.f k 0 x0).bind fun t255 => (windhoverref17_Law.j1 k x0 x1 x2 t255)) else (windhoverref17_Law.j1 k x0 x1 x2 x0))
def windhoverref17_Law.j1 : Nat → Int → Int → Int → Int → Option (Int)
  | 0, _, _, _, _ => none
  | k + 1, x0, x1, x2, x7 => (windhoverref01_Mul.f k x2 x7).bind fun t256 => ((windhoverref01_Sqrt.f k t256).bind fun t257 => (if x0 < 0 then (some (wrap64 (-(mn (mn x1 t257) (wrap64 (Int.tdiv x7 32)))))) else (some (mn (mn x1 t257) (wrap64 (Int.tdiv x7 32))))))
end
def windhoverref17_Law.f (k : Nat) (a0 : Int) (a1 : Int) (a2 : Int) : Option (Int) := if a1 < 1 then (windhoverref17_Law.j0 k a0 a1 a2 true) else (windhoverref17_Law.j0 k a0 a1 a2 (decide (a2 < 1)))
theorem windhoverref17_Law.mono_l : ∀ k, (∀ y0 y1 y2 y3, LeO (windhoverref17_Law.j0 k y0 y1 y2 y3) (windhoverref17_Law.j0 (k + 1) y0 y1 y2 y3)) ∧ (∀ y0 y1 y2 y3, LeO (windhoverref17_Law.j1 k y0 y1 y2 y3) (windhoverref17_Law.j1 (k + 1) y0 y1 y2 y3))
  | 0 => ⟨fun _ _ _ _ r h => by simp [windhoverref17_Law.j0] at h, fun _ _ _ _ r h => by simp [windhoverref17_Law.j1] at h⟩
  | k + 1 => by
    obtain ⟨ih0, ih1⟩ := windhoverref17_Law.mono_l k
    refine ⟨?_, ?_⟩
    · intro y0 y1 y2 y3
      unfold windhoverref17_Law.j0
      repeat' first
      | (with_reducible exact ih0 _ _ _ _)
      | (with_reducible exact ih1 _ _ _ _)
      | (with_reducible exact windhoverref01_Mul.mono _ _ _)
      | (with_reducible exact windhoverref01_Sqrt.mono _ _)
      | (with_reducible exact windhoverref01_Sub.mono _ _ _)
      | (with_reducible exact LeO.refl _)
      | (with_reducible exact LeO.none _)
      | (with_reducible refine LeO.ite ?_ ?_)
      | (with_reducible refine LeO.bind ?_ (fun _ => ?_))
      | exact ih0 _ _ _ _
      | exact ih1 _ _ _ _
      | exact windhoverref01_Mul.mono _ _ _
      | exact windhoverref01_Sqrt.mono _ _
      | exact windhoverref01_Sub.mono _ _ _
      | exact LeO.none _
      | refine LeO.ite ?_ ?_
      | refine LeO.bind ?_ (fun _ => ?_)
    · intro y0 y1 y2 y3
      unfold windhoverref17_Law.j1
      repeat' first
      | (with_reducible exact ih0 _ _ _ _)
      | (with_reducible exact ih1 _ _ _ _)
      | (with_reducible exact windhoverref01_Mul.mono _ _ _)
      | (with_reducible exact windhoverref01_Sqrt.mono _ _)
      | (with_reducible exact windhoverref01_Sub.mono _ _ _)
      | (with_reducible exact LeO.refl _)
      | (with_reducible exact LeO.none _)
      | (with_reducible refine LeO.ite ?_ ?_)
      | (with_reducible refine LeO.bind ?_ (fun _ => ?_))
      | exact ih0 _ _ _ _
      | exact ih1 _ _ _ _
      | exact windhoverref01_Mul.mono _ _ _
      | exact windhoverref01_Sqrt.mono _ _
      | exact windhoverref01_Sub.mono _ _ _
      | exact LeO.none _
      | refine LeO.ite ?_ ?_
      | refine LeO.bind ?_ (fun _ => ?_)
theorem windhoverref17_Law.mono : ∀ a0 a1 a2 k, LeO (windhoverref17_Law.f k a0 a1 a2) (windhoverref17_Law.f (k + 1) a0 a1 a2) := by
  intro a0 a1 a2 k
  obtain ⟨ih0, ih1⟩ := windhoverref17_Law.mono_l k
  unfold windhoverref17_Law.f
  repeat' first
      | (with_reducible exact ih0 _ _ _ _)
      | (with_reducible exact ih1 _ _ _ _)
      | (with_reducible exact windhoverref01_Mul.mono _ _ _)
      | (with_reducible exact windhoverref01_Sqrt.mono _ _)
      | (with_reducible exact windhoverref01_Sub.mono _ _ _)
      | (with_reducible exact LeO.refl _)
      | (with_reducible exact LeO.none _)
      | (with_reducible refine LeO.ite ?_ ?_)
      | (with_reducible refine LeO.bind ?_ (fun _ => ?_))
      | exact ih0 _ _ _ _
      | exact ih1 _ _ _ _
      | exact windhoverref01_Mul.mono _ _ _
      | exact windhoverref01_Sqrt.mono _ _
      | exact windhoverref01_Sub.mono _ _ _
      | exact LeO.none _
      | refine LeO.ite ?_ ?_
      | refine LeO.bind ?_ (fun _ => ?_)
set_option maxHeartbeats 8000000 in
set_option maxRecDepth 100000 in
theorem windhoverref17_Law.calls (k : Nat) (a0 : Int) (a1 : Int) (a2 : Int) (r : Int) (w : World) (h : windhoverref17_Law.f k a0 a1 a2 = some r) :
    Calls Try.prog 10 #[.int .i64 a0, .int .i64 a1, .int .i64 a2] w fun e w' => e = .returned (.int .i64 r) ∧ Below w.heap.size w w' := by
  have HB := Aside0.mk (Below.refl w.heap.size w)
  have H : (if a1 < 1 then (windhoverref17_Law.j0 k a0 a1 a2 true) else (windhoverref17_Law.j0 k a0 a1 a2 (decide (a2 < 1)))) = some r := h
  clear h
  have HC4 := Aside0.mk H
  clear H
  go_enter Try.func10, Try.ntmps10
  go_upto_region 1 with (fail)
  go_cut [14] (fun v14 wc => ∃ (kq : Nat) (x14_3 : Bool), v14 = .bool x14_3 ∧ Aside0 (windhoverref17_Law.j0 kq a0 a1 a2 x14_3 = some r) ∧ Aside0 (kq ≤ k) ∧ Aside0 (Below w.heap.size w wc))
  case first =>
    have H := HC4.out
    clear HC4
    by_cases c5 : a1 < 1
    · rw [if_pos c5] at H
      have c5b0 : decide (a1 < 1) = true := decide_eq_true c5
      clear c5
      (first | rw [c5b0] | (simp only [i64_w, i32_w]; rw [c5b0]) | skip)
      have H' := Aside0.mk H
      clear H
      go_wp2
      go_meet
      case rel => exact ⟨_, (true), (by first | rfl | (simp; done) | (simp [*]; done)), H', ⟨by first | omega | exact Nat.le_refl _⟩, ⟨by repeat (first | (with_reducible first | exact HB.out | apply below_alloc | apply pw_below_drewN | apply below_drew1) | exact HB.out)⟩⟩
    · rw [if_neg c5] at H
      have c5b0 : decide (a1 < 1) = false := decide_eq_false c5
      clear c5
      (first | rw [c5b0] | (simp only [i64_w, i32_w]; rw [c5b0]) | skip)
      have H' := Aside0.mk H
      clear H
      go_wp2
      go_meet
      case rel => exact ⟨_, (decide (a2 < 1)), (by first | rfl | (simp; done) | (simp [*]; done)), H', ⟨by first | omega | exact Nat.le_refl _⟩, ⟨by repeat (first | (with_reducible first | exact HB.out | apply below_alloc | apply pw_below_drewN | apply below_drew1) | exact HB.out)⟩⟩
  case rest =>
    clear HC4
    try clear c1
    try clear p2
    try clear c5
    try clear c5b0
    obtain ⟨kq, x14_3, rfl, HA, HJ3, HB⟩ := hcut
    cases kq with
    | zero => exact absurd HA.out (by simp [windhoverref17_Law.j0])
    | succ kj3 =>
      have H := HA.out
      clear HA
      simp only [windhoverref17_Law.j0] at H
      by_cases c6 : x14_3 = true
      · subst c6
        have H1 : (some 0) = some r := by rw [if_pos rfl] at H; exact H
        clear H
        have H := H1
        clear H1
        obtain rfl := Option.some.inj H
        go_wp2
        go_ret
        exact ⟨by first | rfl | (simp [errW_none, errW_some] <;> rfl) | (simp [*, errW_none, errW_some] <;> rfl), by repeat (first | (with_reducible first | exact HB.out | apply below_alloc | apply pw_below_drewN | apply below_drew1) | exact HB.out)⟩
      · replace c6 := Bool.eq_false_iff.mpr c6
        subst c6
        have H1 : (if a0 < 0 then ((windhoverref01_Sub.f kj3 0 a0).bind fun t255 => (windhoverref17_Law.j1 kj3 a0 a1 a2 t255)) else (windhoverref17_Law.j1 kj3 a0 a1 a2 a0)) = some r := by rw [if_neg (show ¬ (false = true) by decide)] at H; exact H
        clear H
        have H := H1
        clear H1
        have HC7 := Aside0.mk H
        clear H
        go_upto_if 17 with (fail)
        go_cut [7] (fun v7 wc => ∃ (kq : Nat) (x7_6 : Int), v7 = .int .i64 x7_6 ∧ Aside0 (windhoverref17_Law.j1 kq a0 a1 a2 x7_6 = some r) ∧ Aside0 (kq ≤ kj3) ∧ Aside0 (Below w.heap.size w wc))
        case first =>
          have H := HC7.out
          clear HC7
          by_cases c8 : a0 < 0
          · rw [if_pos c8] at H
            have c8b0 : decide (a0 < 0) = true := decide_eq_true c8
            clear c8
            (first | rw [c8b0] | (simp only [i64_w, i32_w]; rw [c8b0]) | skip)
            replace H := Option.bind_eq_some_iff.mp H
            obtain ⟨t255, A90, H⟩ := H
            replace H : (windhoverref17_Law.j1 kj3 a0 a1 a2 t255) = some r := H
            have A9 := Aside0.mk A90
            clear A90
            have H' := Aside0.mk H
            clear H
            go_wp2_with (first | ((with_reducible refine gate_callee (f := 15) rfl ?_); refine goesL_ (some 19) rfl rfl Try.func15 (by kernel_rfl) rfl #[.int .i64 0, .int .i64 a0] rfl (by (try simp only [List.map_toArray, List.map_cons, List.map_nil]); first | done | rfl | (simp only [List.length_drop, List.length_take]; rfl)) ?_; (with_reducible refine (windhoverref01_Sub.calls kj3 0 a0 t255 _ A9.out).mono ?_); rintro e w10 ⟨rfl, hb⟩; refine ⟨_, rfl, ?_⟩; have n0_ := Aside0.mk (below_step (by repeat (first | (with_reducible first | exact HB.out | apply below_alloc | apply pw_below_drewN | apply below_drew1) | exact HB.out)) hb); clear HB; have HB := n0_; clear n0_; (try clear hb); (try clear hb2); (try clear hk); (try clear hi)))
            go_meet
            case rel => exact ⟨_, (t255), (by first | rfl | (simp; done) | (simp [*]; done)), H', ⟨by have := HJ3.out; first | omega | exact Nat.le_refl _⟩, ⟨by repeat (first | (with_reducible first | exact HB.out | apply below_alloc | apply pw_below_drewN | apply below_drew1) | exact HB.out)⟩⟩
          · rw [if_neg c8] at H
            have c8b0 : decide (a0 < 0) = false := decide_eq_false c8
            clear c8
            (first | rw [c8b0] | (simp only [i64_w, i32_w]; rw [c8b0]) | skip)
            have H' := Aside0.mk H
            clear H
            go_wp2
            go_meet
            case rel => exact ⟨_, (a0), (by first | rfl | (simp; done) | (simp [*]; done)), H', ⟨by have := HJ3.out; first | omega | exact Nat.le_refl _⟩, ⟨by repeat (first | (with_reducible first | exact HB.out | apply below_alloc | apply pw_below_drewN | apply below_drew1) | exact HB.out)⟩⟩
        case rest =>
          clear HC7
          try clear c1
          try clear p2
          try clear c5
          try clear c5b0
          try clear c6
          try clear c8
          try clear c8b0
          try clear c10
          try clear p2
          obtain ⟨kq, x7_6, rfl, HA, HJ6, HB⟩ := hcut
          cases kq with
          | zero => exact absurd HA.out (by simp [windhoverref17_Law.j1])
          | succ kj6 =>
            have H := HA.out
            clear HA
            simp only [windhoverref17_Law.j1] at H
            replace H := Option.bind_eq_some_iff.mp H
            obtain ⟨t256, A110, H⟩ := H
            replace H : ((windhoverref01_Sqrt.f kj6 t256).bind fun t257 => (if a0 < 0 then (some (wrap64 (-(mn (mn a1 t257) (wrap64 (Int.tdiv x7_6 32)))))) else (some (mn (mn a1 t257) (wrap64 (Int.tdiv x7_6 32)))))) = some r := H
            have A11 := Aside0.mk A110
            clear A110
            replace H := Option.bind_eq_some_iff.mp H
            obtain ⟨t257, A120, H⟩ := H
            replace H : (if a0 < 0 then (some (wrap64 (-(mn (mn a1 t257) (wrap64 (Int.tdiv x7_6 32)))))) else (some (mn (mn a1 t257) (wrap64 (Int.tdiv x7_6 32))))) = some r := H
            have A12 := Aside0.mk A120
            clear A120
            obtain ⟨ji13, hji13⟩ : ∃ j_ : Int, (mn a1 t257) = j_ := ⟨_, rfl⟩
            replace H : (if a0 < 0 then (some (wrap64 (-(mn (ji13) (wrap64 (Int.tdiv x7_6 32)))))) else (some (mn (ji13) (wrap64 (Int.tdiv x7_6 32))))) = some r := by first | (rw [hji13] at H; exact H) | (simp only [hji13] at H ⊢; exact H)
            (try rw [hji13] at A11)
            (try rw [hji13] at A12)
            have hji13_ : (if t257 < a1 then t257 else a1) = ji13 := hji13
            obtain ⟨ji14, hji14⟩ : ∃ j_ : Int, (mn (ji13) (wrap64 (Int.tdiv x7_6 32))) = j_ := ⟨_, rfl⟩
            replace H : (if a0 < 0 then (some (wrap64 (-(ji14)))) else (some ji14)) = some r := by first | (rw [hji14] at H; exact H) | (simp only [hji14] at H ⊢; exact H)
            (try rw [hji14] at A11)
            (try rw [hji14] at A12)
            have hji14_ : (if (wrap64 (Int.tdiv x7_6 32)) < (ji13) then (wrap64 (Int.tdiv x7_6 32)) else (ji13)) = ji14 := hji14
            by_cases c15 : a0 < 0
            · rw [if_pos c15] at H
              have c15b0 : decide (a0 < 0) = true := decide_eq_true c15
              clear c15
              obtain rfl := Option.some.inj H
              go_wp2_with (first | ((with_reducible refine gate_callee (f := 31) rfl ?_); refine goesL_ (some 23) rfl rfl Try.func31 (by kernel_rfl) rfl #[.int .i64 a2, .int .i64 x7_6] rfl (by (try simp only [List.map_toArray, List.map_cons, List.map_nil]); first | done | rfl | (simp only [List.length_drop, List.length_take]; rfl)) ?_; (with_reducible refine (windhoverref01_Mul.calls kj6 a2 x7_6 t256 _ A11.out).mono ?_); rintro e w16 ⟨rfl, hb⟩; refine ⟨_, rfl, ?_⟩; have n0_ := Aside0.mk (below_step (by repeat (first | (with_reducible first | exact HB.out | apply below_alloc | apply pw_below_drewN | apply below_drew1) | exact HB.out)) hb); clear HB; have HB := n0_; clear n0_; (try clear hb); (try clear hb2); (try clear hk); (try clear hi)) | ((with_reducible refine gate_callee (f := 30) rfl ?_); refine goesL_ (some 24) rfl rfl Try.func30 (by kernel_rfl) rfl #[.int .i64 t256] rfl (by (try simp only [List.map_toArray, List.map_cons, List.map_nil]); first | done | rfl | (simp only [List.length_drop, List.length_take]; rfl)) ?_; (with_reducible refine (windhoverref01_Sqrt.calls kj6 t256 t257 _ A12.out).mono ?_); rintro e w' ⟨rfl, ⟨nd, rfl⟩⟩; refine ⟨_, rfl, ?_⟩))
              go_ret
              exact ⟨by first | rfl | (simp [errW_none, errW_some] <;> rfl) | (simp only [← hji13, ← hji14]; first | rfl | (simp [errW_none, errW_some] <;> rfl)) | (simp [*, errW_none, errW_some] <;> rfl), by repeat (first | (with_reducible first | exact HB.out | apply below_alloc | apply pw_below_drewN | apply below_drew1) | exact HB.out)⟩
            · rw [if_neg c15] at H
              have c15b0 : decide (a0 < 0) = false := decide_eq_false c15
              clear c15
              obtain rfl := Option.some.inj H
              go_wp2_with (first | ((with_reducible refine gate_callee (f := 31) rfl ?_); refine goesL_ (some 23) rfl rfl Try.func31 (by kernel_rfl) rfl #[.int .i64 a2, .int .i64 x7_6] rfl (by (try simp only [List.map_toArray, List.map_cons, List.map_nil]); first | done | rfl | (simp only [List.length_drop, List.length_take]; rfl)) ?_; (with_reducible refine (windhoverref01_Mul.calls kj6 a2 x7_6 t256 _ A11.out).mono ?_); rintro e w17 ⟨rfl, hb⟩; refine ⟨_, rfl, ?_⟩; have n0_ := Aside0.mk (below_step (by repeat (first | (with_reducible first | exact HB.out | apply below_alloc | apply pw_below_drewN | apply below_drew1) | exact HB.out)) hb); clear HB; have HB := n0_; clear n0_; (try clear hb); (try clear hb2); (try clear hk); (try clear hi)) | ((with_reducible refine gate_callee (f := 30) rfl ?_); refine goesL_ (some 24) rfl rfl Try.func30 (by kernel_rfl) rfl #[.int .i64 t256] rfl (by (try simp only [List.map_toArray, List.map_cons, List.map_nil]); first | done | rfl | (simp only [List.length_drop, List.length_take]; rfl)) ?_; (with_reducible refine (windhoverref01_Sqrt.calls kj6 t256 t257 _ A12.out).mono ?_); rintro e w' ⟨rfl, ⟨nd, rfl⟩⟩; refine ⟨_, rfl, ?_⟩))
              go_ret
              exact ⟨by first | rfl | (simp [errW_none, errW_some] <;> rfl) | (simp only [← hji13, ← hji14]; first | rfl | (simp [errW_none, errW_some] <;> rfl)) | (simp [*, errW_none, errW_some] <;> rfl), by repeat (first | (with_reducible first | exact HB.out | apply below_alloc | apply pw_below_drewN | apply below_drew1) | exact HB.out)⟩

/-! ### trig_Way: function 32 -/
def trig_Way.f (a0 : Int) (a1 : Int) : Option (Int) := some (wrap64 (IntKind.i16.wrap (wrap64 (a1 - a0))))
set_option maxHeartbeats 8000000 in
set_option maxRecDepth 100000 in
theorem trig_Way.calls (a0 : Int) (a1 : Int) (r : Int) (w : World) (h : trig_Way.f a0 a1 = some r) :
    Calls Try.prog 32 #[.int .i64 a0, .int .i64 a1] w fun e w' => e = .returned (.int .i64 r) ∧ Drawn0 w w' := by
  have H : (some (wrap64 (IntKind.i16.wrap (wrap64 (a1 - a0))))) = some r := h
  clear h
  obtain rfl := Option.some.inj H
  go_enter Try.func32, Try.ntmps32
  go_wp2
  go_ret
  exact ⟨by first | rfl | (simp; done) | (simp [*]; done), by repeat (first | exact Drawn0.refl _ | apply Drawn0.step)⟩

/-! ### fix_Clamp: function 33 -/
def fix_Clamp.f (a0 : Int) (a1 : Int) (a2 : Int) : Option (Int) := if a0 < a1 then (some a1) else (if a0 > a2 then (some a2) else (some a0))
set_option maxHeartbeats 8000000 in
set_option maxRecDepth 100000 in
theorem fix_Clamp.calls (a0 : Int) (a1 : Int) (a2 : Int) (r : Int) (w : World) (h : fix_Clamp.f a0 a1 a2 = some r) :
    Calls Try.prog 33 #[.int .i64 a0, .int .i64 a1, .int .i64 a2] w fun e w' => e = .returned (.int .i64 r) ∧ Drawn0 w w' := by
  have H : (if a0 < a1 then (some a1) else (if a0 > a2 then (some a2) else (some a0))) = some r := h
  clear h
  by_cases c4 : a0 < a1
  · rw [if_pos c4] at H
    have c4b0 : decide (a0 < a1) = true := decide_eq_true c4
    clear c4
    obtain rfl := Option.some.inj H
    go_enter Try.func33, Try.ntmps33
    go_wp2
    go_ret
    exact ⟨by first | rfl | (simp; done) | (simp [*]; done), by repeat (first | exact Drawn0.refl _ | apply Drawn0.step)⟩
  · rw [if_neg c4] at H
    have c4b0 : decide (a0 < a1) = false := decide_eq_false c4
    clear c4
    by_cases c5 : a0 > a2
    · rw [if_pos c5] at H
      have c5b0 : decide (a2 < a0) = true := decide_eq_true c5
      clear c5
      obtain rfl := Option.some.inj H
      go_enter Try.func33, Try.ntmps33
      go_wp2
      go_ret
      exact ⟨by first | rfl | (simp; done) | (simp [*]; done), by repeat (first | exact Drawn0.refl _ | apply Drawn0.step)⟩
    · rw [if_neg c5] at H
      have c5b0 : decide (a2 < a0) = false := decide_eq_false c5
      clear c5
      obtain rfl := Option.some.inj H
      go_enter Try.func33, Try.ntmps33
      go_wp2
      go_ret
      exact ⟨by first | rfl | (simp; done) | (simp [*]; done), by repeat (first | exact Drawn0.refl _ | apply Drawn0.step)⟩

/-! ### control_Twist: function 11 -/
def control_Twist.f (k : Nat) (a0 : Int) (a1 : Int) (a2 : Int) : Option (Int) := (trig_Way.f 0 (wrap64 (Int.tdiv (Int.tmod (wrap64 ((Int.tmod a0 1048576) + 1048576)) 1048576) 16))).bind fun t258 => ((fix_Clamp.f (wrap64 (-(wrap64 (Int.tdiv (wrap64 ((wrap64 (16 * t258)) + (Int.tmod (wrap64 ((Int.tmod a0 1048576) + 1048576)) 16))) 64)))) (wrap64 (-(mx a2 0))) (mx a2 0)).bind fun t259 => ((fix_Sub.f k t259 a1).bind fun t260 => ((fix_Clamp.f (wrap64 (Int.tdiv t260 4)) (-100) 100).bind fun t261 => (some t261))))
theorem control_Twist.mono : ∀ a0 a1 a2 k, LeO (control_Twist.f k a0 a1 a2) (control_Twist.f (k + 1) a0 a1 a2) := by
  intro a0 a1 a2 k
  unfold control_Twist.f
  repeat' first
      | (with_reducible exact fix_Sub.mono _ _ _)
      | (with_reducible exact LeO.refl _)
      | (with_reducible exact LeO.none _)
      | (with_reducible refine LeO.ite ?_ ?_)
      | (with_reducible refine LeO.bind ?_ (fun _ => ?_))
      | exact fix_Sub.mono _ _ _
      | exact LeO.none _
      | refine LeO.ite ?_ ?_
      | refine LeO.bind ?_ (fun _ => ?_)
set_option maxHeartbeats 8000000 in
set_option maxRecDepth 100000 in
theorem control_Twist.calls (k : Nat) (a0 : Int) (a1 : Int) (a2 : Int) (r : Int) (w : World) (h : control_Twist.f k a0 a1 a2 = some r) :
    Calls Try.prog 11 #[.int .i64 a0, .int .i64 a1, .int .i64 a2] w fun e w' => e = .returned (.int .i64 r) ∧ Below w.heap.size w w' := by
  have HB := Aside0.mk (Below.refl w.heap.size w)
  have H : ((trig_Way.f 0 (wrap64 (Int.tdiv (Int.tmod (wrap64 ((Int.tmod a0 1048576) + 1048576)) 1048576) 16))).bind fun t258 => ((fix_Clamp.f (wrap64 (-(wrap64 (Int.tdiv (wrap64 ((wrap64 (16 * t258)) + (Int.tmod (wrap64 ((Int.tmod a0 1048576) + 1048576)) 16))) 64)))) (wrap64 (-(mx a2 0))) (mx a2 0)).bind fun t259 => ((fix_Sub.f k t259 a1).bind fun t260 => ((fix_Clamp.f (wrap64 (Int.tdiv t260 4)) (-100) 100).bind fun t261 => (some t261))))) = some r := h
  clear h
  replace H := Option.bind_eq_some_iff.mp H
  obtain ⟨t258, A40, H⟩ := H
  replace H : ((fix_Clamp.f (wrap64 (-(wrap64 (Int.tdiv (wrap64 ((wrap64 (16 * t258)) + (Int.tmod (wrap64 ((Int.tmod a0 1048576) + 1048576)) 16))) 64)))) (wrap64 (-(mx a2 0))) (mx a2 0)).bind fun t259 => ((fix_Sub.f k t259 a1).bind fun t260 => ((fix_Clamp.f (wrap64 (Int.tdiv t260 4)) (-100) 100).bind fun t261 => (some t261)))) = some r := H
  have A4 := Aside0.mk A40
  clear A40
  obtain ⟨ji5, hji5⟩ : ∃ j_ : Int, (mx a2 0) = j_ := ⟨_, rfl⟩
  replace H : ((fix_Clamp.f (wrap64 (-(wrap64 (Int.tdiv (wrap64 ((wrap64 (16 * t258)) + (Int.tmod (wrap64 ((Int.tmod a0 1048576) + 1048576)) 16))) 64)))) (wrap64 (-(ji5))) (ji5)).bind fun t259 => ((fix_Sub.f k t259 a1).bind fun t260 => ((fix_Clamp.f (wrap64 (Int.tdiv t260 4)) (-100) 100).bind fun t261 => (some t261)))) = some r := by first | (rw [hji5] at H; exact H) | (simp only [hji5] at H ⊢; exact H)
  (try rw [hji5] at A4)
  (try (have hji5l : 0 ≤ ji5 := by (rw [← hji5]; unfold mx; (repeat' split) <;> omega)))
  (try (have hji5m : 0 ≤ ji5 := by omega))
  have hji5_ : (if a2 < 0 then 0 else a2) = ji5 := hji5
  replace H := Option.bind_eq_some_iff.mp H
  obtain ⟨t259, A60, H⟩ := H
  replace H : ((fix_Sub.f k t259 a1).bind fun t260 => ((fix_Clamp.f (wrap64 (Int.tdiv t260 4)) (-100) 100).bind fun t261 => (some t261))) = some r := H
  have A6 := Aside0.mk A60
  clear A60
  replace H := Option.bind_eq_some_iff.mp H
  obtain ⟨t260, A70, H⟩ := H
  replace H : ((fix_Clamp.f (wrap64 (Int.tdiv t260 4)) (-100) 100).bind fun t261 => (some t261)) = some r := H
  have A7 := Aside0.mk A70
  clear A70
  replace H := Option.bind_eq_some_iff.mp H
  obtain ⟨t261, A80, H⟩ := H
  replace H : (some t261) = some r := H
  have A8 := Aside0.mk A80
  clear A80
  obtain rfl := Option.some.inj H
  go_enter Try.func11, Try.ntmps11
  go_wp2_with (first | ((with_reducible refine gate_callee (f := 32) rfl ?_); refine goesL_ (some 16) rfl rfl Try.func32 (by kernel_rfl) rfl #[.int .i64 0, .int .i64 (wrap64 (Int.tdiv (Int.tmod (wrap64 ((Int.tmod a0 1048576) + 1048576)) 1048576) 16))] rfl (by (try simp only [List.map_toArray, List.map_cons, List.map_nil]); first | done | rfl | (simp only [List.length_drop, List.length_take]; rfl)) ?_; (with_reducible refine (trig_Way.calls 0 (wrap64 (Int.tdiv (Int.tmod (wrap64 ((Int.tmod a0 1048576) + 1048576)) 1048576) 16)) t258 _ A4.out).mono ?_); rintro e w' ⟨rfl, ⟨nd, rfl⟩⟩; refine ⟨_, rfl, ?_⟩) | ((with_reducible refine gate_callee (f := 33) rfl ?_); refine goesL_ (some 29) rfl rfl Try.func33 (by kernel_rfl) rfl #[.int .i64 (wrap64 (-(wrap64 (Int.tdiv (wrap64 ((wrap64 (16 * t258)) + (Int.tmod (wrap64 ((Int.tmod a0 1048576) + 1048576)) 16))) 64)))), .int .i64 (wrap64 (-(ji5))), .int .i64 ji5] rfl (by (try simp only [List.map_toArray, List.map_cons, List.map_nil]); first | done | (simp only [hji5]; rfl) | rfl | (simp only [List.length_drop, List.length_take]; rfl)) ?_; (with_reducible refine (fix_Clamp.calls (wrap64 (-(wrap64 (Int.tdiv (wrap64 ((wrap64 (16 * t258)) + (Int.tmod (wrap64 ((Int.tmod a0 1048576) + 1048576)) 16))) 64)))) (wrap64 (-(ji5))) ji5 t259 _ A6.out).mono ?_); rintro e w' ⟨rfl, ⟨nd, rfl⟩⟩; refine ⟨_, rfl, ?_⟩) | ((with_reducible refine gate_callee (f := 27) rfl ?_); refine goesL_ (some 32) rfl rfl Try.func27 (by kernel_rfl) rfl #[.int .i64 t259, .int .i64 a1] rfl (by (try simp only [List.map_toArray, List.map_cons, List.map_nil]); first | done | rfl | (simp only [List.length_drop, List.length_take]; rfl)) ?_; (with_reducible refine (fix_Sub.calls k t259 a1 t260 _ A7.out).mono ?_); rintro e w' ⟨rfl, ⟨nd, rfl⟩⟩; refine ⟨_, rfl, ?_⟩) | ((with_reducible refine gate_callee (f := 33) rfl ?_); refine goesL_ (some 34) rfl rfl Try.func33 (by kernel_rfl) rfl #[.int .i64 (wrap64 (Int.tdiv t260 4)), .int .i64 (-100), .int .i64 100] rfl (by (try simp only [List.map_toArray, List.map_cons, List.map_nil]); first | done | rfl | (simp only [List.length_drop, List.length_take]; rfl)) ?_; (with_reducible refine (fix_Clamp.calls (wrap64 (Int.tdiv t260 4)) (-100) 100 t261 _ A8.out).mono ?_); rintro e w' ⟨rfl, ⟨nd, rfl⟩⟩; refine ⟨_, rfl, ?_⟩))
  go_ret
  exact ⟨by first | rfl | (simp [errW_none, errW_some] <;> rfl) | (simp only [← hji5]; first | rfl | (simp [errW_none, errW_some] <;> rfl)) | (simp [*, errW_none, errW_some] <;> rfl), by repeat (first | (with_reducible first | exact HB.out | apply below_alloc | apply pw_below_drewN | apply below_drew1) | exact HB.out)⟩

/-! ### windhoverref01_Clamp: function 18 -/
def windhoverref01_Clamp.f (a0 : Int) (a1 : Int) (a2 : Int) : Option (Int) := if a0 < a1 then (some a1) else (if a0 > a2 then (some a2) else (some a0))
set_option maxHeartbeats 8000000 in
set_option maxRecDepth 100000 in
theorem windhoverref01_Clamp.calls (a0 : Int) (a1 : Int) (a2 : Int) (r : Int) (w : World) (h : windhoverref01_Clamp.f a0 a1 a2 = some r) :
    Calls Try.prog 18 #[.int .i64 a0, .int .i64 a1, .int .i64 a2] w fun e w' => e = .returned (.int .i64 r) ∧ Drawn0 w w' := by
  have H : (if a0 < a1 then (some a1) else (if a0 > a2 then (some a2) else (some a0))) = some r := h
  clear h
  by_cases c4 : a0 < a1
  · rw [if_pos c4] at H
    have c4b0 : decide (a0 < a1) = true := decide_eq_true c4
    clear c4
    obtain rfl := Option.some.inj H
    go_enter Try.func18, Try.ntmps18
    go_wp2
    go_ret
    exact ⟨by first | rfl | (simp; done) | (simp [*]; done), by repeat (first | exact Drawn0.refl _ | apply Drawn0.step)⟩
  · rw [if_neg c4] at H
    have c4b0 : decide (a0 < a1) = false := decide_eq_false c4
    clear c4
    by_cases c5 : a0 > a2
    · rw [if_pos c5] at H
      have c5b0 : decide (a2 < a0) = true := decide_eq_true c5
      clear c5
      obtain rfl := Option.some.inj H
      go_enter Try.func18, Try.ntmps18
      go_wp2
      go_ret
      exact ⟨by first | rfl | (simp; done) | (simp [*]; done), by repeat (first | exact Drawn0.refl _ | apply Drawn0.step)⟩
    · rw [if_neg c5] at H
      have c5b0 : decide (a2 < a0) = false := decide_eq_false c5
      clear c5
      obtain rfl := Option.some.inj H
      go_enter Try.func18, Try.ntmps18
      go_wp2
      go_ret
      exact ⟨by first | rfl | (simp; done) | (simp [*]; done), by repeat (first | exact Drawn0.refl _ | apply Drawn0.step)⟩

/-! ### windhoverref17_Twist: function 12 -/
def windhoverref17_Twist.j0 : Nat → Int → Int → Int → Option (Int)
  | 0, _, _, _ => none
  | k + 1, x1, x2, x7 => if x7 ≥ 524288 then ((windhoverref01_Clamp.f (wrap64 (-(wrap64 (Int.tdiv (wrap64 (x7 - 1048576)) 64)))) (wrap64 (-(mx x2 0))) (mx x2 0)).bind fun t262 => ((windhoverref01_Sub.f k t262 x1).bind fun t263 => ((windhoverref01_Clamp.f (wrap64 (Int.tdiv t263 4)) (-100) 100).bind fun t264 => (some t264)))) else ((windhoverref01_Clamp.f (wrap64 (-(wrap64 (Int.tdiv x7 64)))) (wrap64 (-(mx x2 0))) (mx x2 0)).bind fun t265 => ((windhoverref01_Sub.f k t265 x1).bind fun t266 => ((windhoverref01_Clamp.f (wrap64 (Int.tdiv t266 4)) (-100) 100).bind fun t267 => (some t267))))
def windhoverref17_Twist.f (k : Nat) (a0 : Int) (a1 : Int) (a2 : Int) : Option (Int) := if (Int.tmod a0 1048576) < 0 then (windhoverref17_Twist.j0 k a1 a2 (wrap64 ((Int.tmod a0 1048576) + 1048576))) else (windhoverref17_Twist.j0 k a1 a2 (Int.tmod a0 1048576))
theorem windhoverref17_Twist.mono_l : ∀ k, (∀ y0 y1 y2, LeO (windhoverref17_Twist.j0 k y0 y1 y2) (windhoverref17_Twist.j0 (k + 1) y0 y1 y2))
  | 0 => fun _ _ _ r h => by simp [windhoverref17_Twist.j0] at h
  | k + 1 => by
    have ih0 := windhoverref17_Twist.mono_l k
    · intro y0 y1 y2
      unfold windhoverref17_Twist.j0
      repeat' first
      | (with_reducible exact ih0 _ _ _)
      | (with_reducible exact windhoverref01_Sub.mono _ _ _)
      | (with_reducible exact LeO.refl _)
      | (with_reducible exact LeO.none _)
      | (with_reducible refine LeO.ite ?_ ?_)
      | (with_reducible refine LeO.bind ?_ (fun _ => ?_))
      | exact ih0 _ _ _
      | exact windhoverref01_Sub.mono _ _ _
      | exact LeO.none _
      | refine LeO.ite ?_ ?_
      | refine LeO.bind ?_ (fun _ => ?_)
theorem windhoverref17_Twist.mono : ∀ a0 a1 a2 k, LeO (windhoverref17_Twist.f k a0 a1 a2) (windhoverref17_Twist.f (k + 1) a0 a1 a2) := by
  intro a0 a1 a2 k
  have ih0 := windhoverref17_Twist.mono_l k
  unfold windhoverref17_Twist.f
  repeat' first
      | (with_reducible exact ih0 _ _ _)
      | (with_reducible exact windhoverref01_Sub.mono _ _ _)
      | (with_reducible exact LeO.refl _)
      | (with_reducible exact LeO.none _)
      | (with_reducible refine LeO.ite ?_ ?_)
      | (with_reducible refine LeO.bind ?_ (fun _ => ?_))
      | exact ih0 _ _ _
      | exact windhoverref01_Sub.mono _ _ _
      | exact LeO.none _
      | refine LeO.ite ?_ ?_
      | refine LeO.bind ?_ (fun _ => ?_)
set_option maxHeartbeats 8000000 in
set_option maxRecDepth 100000 in
theorem windhoverref17_Twist.calls (k : Nat) (a0 : Int) (a1 : Int) (a2 : Int) (r : Int) (w : World) (h : windhoverref17_Twist.f k a0 a1 a2 = some r) :
    Calls Try.prog 12 #[.int .i64 a0, .int .i64 a1, .int .i64 a2] w fun e w' => e = .returned (.int .i64 r) ∧ Below w.heap.size w w' := by
  have HB := Aside0.mk (Below.refl w.heap.size w)
  have H : (if (Int.tmod a0 1048576) < 0 then (windhoverref17_Twist.j0 k a1 a2 (wrap64 ((Int.tmod a0 1048576) + 1048576))) else (windhoverref17_Twist.j0 k a1 a2 (Int.tmod a0 1048576))) = some r := h
  clear h
  have HC4 := Aside0.mk H
  clear H
  go_enter Try.func12, Try.ntmps12
  go_upto_if 13 with (fail)
  go_cut [7] (fun v7 wc => ∃ (kq : Nat) (x7_3 : Int), v7 = .int .i64 x7_3 ∧ Aside0 (windhoverref17_Twist.j0 kq a1 a2 x7_3 = some r) ∧ Aside0 (kq ≤ k) ∧ Aside0 (Below w.heap.size w wc))
  case first =>
    have H := HC4.out
    clear HC4
    by_cases c5 : (Int.tmod a0 1048576) < 0
    · rw [if_pos c5] at H
      have c5b0 : decide ((Int.tmod a0 1048576) < 0) = true := decide_eq_true c5
      clear c5
      (first | rw [c5b0] | (simp only [i64_w, i32_w]; rw [c5b0]) | skip)
      have H' := Aside0.mk H
      clear H
      go_wp2
      go_meet
      case rel => exact ⟨_, (wrap64 ((Int.tmod a0 1048576) + 1048576)), (by first | rfl | (simp; done) | (simp [*]; done)), H', ⟨by first | omega | exact Nat.le_refl _⟩, ⟨by repeat (first | (with_reducible first | exact HB.out | apply below_alloc | apply pw_below_drewN | apply below_drew1) | exact HB.out)⟩⟩
    · rw [if_neg c5] at H
      have c5b0 : decide ((Int.tmod a0 1048576) < 0) = false := decide_eq_false c5
      clear c5
      (first | rw [c5b0] | (simp only [i64_w, i32_w]; rw [c5b0]) | skip)
      have H' := Aside0.mk H
      clear H
      go_wp2
      go_meet
      case rel => exact ⟨_, (Int.tmod a0 1048576), (by first | rfl | (simp; done) | (simp [*]; done)), H', ⟨by first | omega | exact Nat.le_refl _⟩, ⟨by repeat (first | (with_reducible first | exact HB.out | apply below_alloc | apply pw_below_drewN | apply below_drew1) | exact HB.out)⟩⟩
  case rest =>
    clear HC4
    try clear c1
    try clear p2
    try clear c5
    try clear c5b0
    obtain ⟨kq, x7_3, rfl, HA, HJ3, HB⟩ := hcut
    cases kq with
    | zero => exact absurd HA.out (by simp [windhoverref17_Twist.j0])
    | succ kj3 =>
      have H := HA.out
      clear HA
      simp only [windhoverref17_Twist.j0] at H
      by_cases c6 : x7_3 ≥ 524288
      · rw [if_pos c6] at H
        have c6b0 : decide (524288 ≤ x7_3) = true := decide_eq_true c6
        clear c6
        obtain ⟨ji7, hji7⟩ : ∃ j_ : Int, (mx a2 0) = j_ := ⟨_, rfl⟩
        replace H : ((windhoverref01_Clamp.f (wrap64 (-(wrap64 (Int.tdiv (wrap64 (x7_3 - 1048576)) 64)))) (wrap64 (-(ji7))) (ji7)).bind fun t262 => ((windhoverref01_Sub.f kj3 t262 a1).bind fun t263 => ((windhoverref01_Clamp.f (wrap64 (Int.tdiv t263 4)) (-100) 100).bind fun t264 => (some t264)))) = some r := by first | (rw [hji7] at H; exact H) | (simp only [hji7] at H ⊢; exact H)
        (try (have hji7l : 0 ≤ ji7 := by (rw [← hji7]; unfold mx; (repeat' split) <;> omega)))
        (try (have hji7m : 0 ≤ ji7 := by omega))
        have hji7_ : (if a2 < 0 then 0 else a2) = ji7 := hji7
        replace H := Option.bind_eq_some_iff.mp H
        obtain ⟨t262, A80, H⟩ := H
        replace H : ((windhoverref01_Sub.f kj3 t262 a1).bind fun t263 => ((windhoverref01_Clamp.f (wrap64 (Int.tdiv t263 4)) (-100) 100).bind fun t264 => (some t264))) = some r := H
        have A8 := Aside0.mk A80
        clear A80
        replace H := Option.bind_eq_some_iff.mp H
        obtain ⟨t263, A90, H⟩ := H
        replace H : ((windhoverref01_Clamp.f (wrap64 (Int.tdiv t263 4)) (-100) 100).bind fun t264 => (some t264)) = some r := H
        have A9 := Aside0.mk A90
        clear A90
        replace H := Option.bind_eq_some_iff.mp H
        obtain ⟨t264, A100, H⟩ := H
        replace H : (some t264) = some r := H
        have A10 := Aside0.mk A100
        clear A100
        obtain rfl := Option.some.inj H
        go_wp2_with (first | ((with_reducible refine gate_callee (f := 18) rfl ?_); refine goesL_ (some 28) rfl rfl Try.func18 (by kernel_rfl) rfl #[.int .i64 (wrap64 (-(wrap64 (Int.tdiv (wrap64 (x7_3 - 1048576)) 64)))), .int .i64 (wrap64 (-(ji7))), .int .i64 ji7] rfl (by (try simp only [List.map_toArray, List.map_cons, List.map_nil]); first | done | (simp only [hji7]; rfl) | rfl | (simp only [List.length_drop, List.length_take]; rfl)) ?_; (with_reducible refine (windhoverref01_Clamp.calls (wrap64 (-(wrap64 (Int.tdiv (wrap64 (x7_3 - 1048576)) 64)))) (wrap64 (-(ji7))) ji7 t262 _ A8.out).mono ?_); rintro e w' ⟨rfl, ⟨nd, rfl⟩⟩; refine ⟨_, rfl, ?_⟩) | ((with_reducible refine gate_callee (f := 15) rfl ?_); refine goesL_ (some 31) rfl rfl Try.func15 (by kernel_rfl) rfl #[.int .i64 t262, .int .i64 a1] rfl (by (try simp only [List.map_toArray, List.map_cons, List.map_nil]); first | done | rfl | (simp only [List.length_drop, List.length_take]; rfl)) ?_; (with_reducible refine (windhoverref01_Sub.calls kj3 t262 a1 t263 _ A9.out).mono ?_); rintro e w11 ⟨rfl, hb⟩; refine ⟨_, rfl, ?_⟩; have n0_ := Aside0.mk (below_step (by repeat (first | (with_reducible first | exact HB.out | apply below_alloc | apply pw_below_drewN | apply below_drew1) | exact HB.out)) hb); clear HB; have HB := n0_; clear n0_; (try clear hb); (try clear hb2); (try clear hk); (try clear hi)) | ((with_reducible refine gate_callee (f := 18) rfl ?_); refine goesL_ (some 33) rfl rfl Try.func18 (by kernel_rfl) rfl #[.int .i64 (wrap64 (Int.tdiv t263 4)), .int .i64 (-100), .int .i64 100] rfl (by (try simp only [List.map_toArray, List.map_cons, List.map_nil]); first | done | rfl | (simp only [List.length_drop, List.length_take]; rfl)) ?_; (with_reducible refine (windhoverref01_Clamp.calls (wrap64 (Int.tdiv t263 4)) (-100) 100 t264 _ A10.out).mono ?_); rintro e w' ⟨rfl, ⟨nd, rfl⟩⟩; refine ⟨_, rfl, ?_⟩))
        go_ret
        exact ⟨by first | rfl | (simp [errW_none, errW_some] <;> rfl) | (simp only [← hji7]; first | rfl | (simp [errW_none, errW_some] <;> rfl)) | (simp [*, errW_none, errW_some] <;> rfl), by repeat (first | (with_reducible first | exact HB.out | apply below_alloc | apply pw_below_drewN | apply below_drew1) | exact HB.out)⟩
      · rw [if_neg c6] at H
        have c6b0 : decide (524288 ≤ x7_3) = false := decide_eq_false c6
        clear c6
        obtain ⟨ji12, hji12⟩ : ∃ j_ : Int, (mx a2 0) = j_ := ⟨_, rfl⟩
        replace H : ((windhoverref01_Clamp.f (wrap64 (-(wrap64 (Int.tdiv x7_3 64)))) (wrap64 (-(ji12))) (ji12)).bind fun t265 => ((windhoverref01_Sub.f kj3 t265 a1).bind fun t266 => ((windhoverref01_Clamp.f (wrap64 (Int.tdiv t266 4)) (-100) 100).bind fun t267 => (some t267)))) = some r := by first | (rw [hji12] at H; exact H) | (simp only [hji12] at H ⊢; exact H)
        (try (have hji12l : 0 ≤ ji12 := by (rw [← hji12]; unfold mx; (repeat' split) <;> omega)))
        (try (have hji12m : 0 ≤ ji12 := by omega))
        have hji12_ : (if a2 < 0 then 0 else a2) = ji12 := hji12
        replace H := Option.bind_eq_some_iff.mp H
        obtain ⟨t265, A130, H⟩ := H
        replace H : ((windhoverref01_Sub.f kj3 t265 a1).bind fun t266 => ((windhoverref01_Clamp.f (wrap64 (Int.tdiv t266 4)) (-100) 100).bind fun t267 => (some t267))) = some r := H
        have A13 := Aside0.mk A130
        clear A130
        replace H := Option.bind_eq_some_iff.mp H
        obtain ⟨t266, A140, H⟩ := H
        replace H : ((windhoverref01_Clamp.f (wrap64 (Int.tdiv t266 4)) (-100) 100).bind fun t267 => (some t267)) = some r := H
        have A14 := Aside0.mk A140
        clear A140
        replace H := Option.bind_eq_some_iff.mp H
        obtain ⟨t267, A150, H⟩ := H
        replace H : (some t267) = some r := H
        have A15 := Aside0.mk A150
        clear A150
        obtain rfl := Option.some.inj H
        go_wp2_with (first | ((with_reducible refine gate_callee (f := 18) rfl ?_); refine goesL_ (some 28) rfl rfl Try.func18 (by kernel_rfl) rfl #[.int .i64 (wrap64 (-(wrap64 (Int.tdiv x7_3 64)))), .int .i64 (wrap64 (-(ji12))), .int .i64 ji12] rfl (by (try simp only [List.map_toArray, List.map_cons, List.map_nil]); first | done | (simp only [hji12]; rfl) | rfl | (simp only [List.length_drop, List.length_take]; rfl)) ?_; (with_reducible refine (windhoverref01_Clamp.calls (wrap64 (-(wrap64 (Int.tdiv x7_3 64)))) (wrap64 (-(ji12))) ji12 t265 _ A13.out).mono ?_); rintro e w' ⟨rfl, ⟨nd, rfl⟩⟩; refine ⟨_, rfl, ?_⟩) | ((with_reducible refine gate_callee (f := 15) rfl ?_); refine goesL_ (some 31) rfl rfl Try.func15 (by kernel_rfl) rfl #[.int .i64 t265, .int .i64 a1] rfl (by (try simp only [List.map_toArray, List.map_cons, List.map_nil]); first | done | rfl | (simp only [List.length_drop, List.length_take]; rfl)) ?_; (with_reducible refine (windhoverref01_Sub.calls kj3 t265 a1 t266 _ A14.out).mono ?_); rintro e w16 ⟨rfl, hb⟩; refine ⟨_, rfl, ?_⟩; have n0_ := Aside0.mk (below_step (by repeat (first | (with_reducible first | exact HB.out | apply below_alloc | apply pw_below_drewN | apply below_drew1) | exact HB.out)) hb); clear HB; have HB := n0_; clear n0_; (try clear hb); (try clear hb2); (try clear hk); (try clear hi)) | ((with_reducible refine gate_callee (f := 18) rfl ?_); refine goesL_ (some 33) rfl rfl Try.func18 (by kernel_rfl) rfl #[.int .i64 (wrap64 (Int.tdiv t266 4)), .int .i64 (-100), .int .i64 100] rfl (by (try simp only [List.map_toArray, List.map_cons, List.map_nil]); first | done | rfl | (simp only [List.length_drop, List.length_take]; rfl)) ?_; (with_reducible refine (windhoverref01_Clamp.calls (wrap64 (Int.tdiv t266 4)) (-100) 100 t267 _ A15.out).mono ?_); rintro e w' ⟨rfl, ⟨nd, rfl⟩⟩; refine ⟨_, rfl, ?_⟩))
        go_ret
        exact ⟨by first | rfl | (simp [errW_none, errW_some] <;> rfl) | (simp only [← hji12]; first | rfl | (simp [errW_none, errW_some] <;> rfl)) | (simp [*, errW_none, errW_some] <;> rfl), by repeat (first | (with_reducible first | exact HB.out | apply below_alloc | apply pw_below_drewN | apply below_drew1) | exact HB.out)⟩

/-! ### params_rows: function 38, by hand -/
def params_rows.tb : Array Value := #[.int .i64 0, .int .i64 16, .int .i64 6, .int .i64 1, .int .i64 200, .int .i64 20, .int .i64 0, .int .i64 16, .int .i64 4, .int .i64 1, .int .i64 200, .int .i64 20, .int .i64 0, .int .i64 16, .int .i64 4, .int .i64 0, .int .i64 4, .int .i64 2, .int .i64 4, .int .i64 32, .int .i64 12, .int .i64 1600, .int .i64 64000, .int .i64 16000, .int .i64 1600, .int .i64 32000, .int .i64 8000, .int .i64 2000, .int .i64 16000, .int .i64 8000, .int .i64 1000, .int .i64 120000, .int .i64 5000, .int .i64 500, .int .i64 120000, .int .i64 2000, .int .i64 200, .int .i64 10000, .int .i64 1000, .int .i64 100, .int .i64 10000, .int .i64 500, .int .i64 40, .int .i64 40000, .int .i64 4000, .int .i64 40, .int .i64 40000, .int .i64 400, .int .i64 1, .int .i64 40, .int .i64 8, .int .i64 0, .int .i64 1000000000, .int .i64 1000, .int .i64 0, .int .i64 1000000, .int .i64 100, .int .i64 0, .int .i64 1000, .int .i64 1, .int .i64 0, .int .i64 1000, .int .i64 2, .int .i64 1, .int .i64 10000, .int .i64 500, .int .i64 0, .int .i64 16384, .int .i64 4000, .int .i64 16, .int .i64 3200, .int .i64 800]
def params_rows.zs : Array Value := #[.int .i64 0, .int .i64 0, .int .i64 0, .int .i64 0, .int .i64 0, .int .i64 0, .int .i64 0, .int .i64 0, .int .i64 0, .int .i64 0, .int .i64 0, .int .i64 0, .int .i64 0, .int .i64 0, .int .i64 0, .int .i64 0, .int .i64 0, .int .i64 0, .int .i64 0, .int .i64 0, .int .i64 0, .int .i64 0, .int .i64 0, .int .i64 0, .int .i64 0, .int .i64 0, .int .i64 0, .int .i64 0, .int .i64 0, .int .i64 0, .int .i64 0, .int .i64 0, .int .i64 0, .int .i64 0, .int .i64 0, .int .i64 0, .int .i64 0, .int .i64 0, .int .i64 0, .int .i64 0, .int .i64 0, .int .i64 0, .int .i64 0, .int .i64 0, .int .i64 0, .int .i64 0, .int .i64 0, .int .i64 0, .int .i64 0, .int .i64 0, .int .i64 0, .int .i64 0, .int .i64 0, .int .i64 0, .int .i64 0, .int .i64 0, .int .i64 0, .int .i64 0, .int .i64 0, .int .i64 0, .int .i64 0, .int .i64 0, .int .i64 0, .int .i64 0, .int .i64 0, .int .i64 0, .int .i64 0, .int .i64 0, .int .i64 0, .int .i64 0, .int .i64 0, .int .i64 0]
def params_rows.f : Option (Int × Int × Int × Int × Int × Int × Int × Int × Int × Int × Int × Int × Int × Int × Int × Int × Int × Int × Int × Int × Int × Int × Int × Int × Int × Int × Int × Int × Int × Int × Int × Int × Int × Int × Int × Int × Int × Int × Int × Int × Int × Int × Int × Int × Int × Int × Int × Int × Int × Int × Int × Int × Int × Int × Int × Int × Int × Int × Int × Int × Int × Int × Int × Int × Int × Int × Int × Int × Int × Int × Int × Int) := some (0, 16, 6, 1, 200, 20, 0, 16, 4, 1, 200, 20, 0, 16, 4, 0, 4, 2, 4, 32, 12, 1600, 64000, 16000, 1600, 32000, 8000, 2000, 16000, 8000, 1000, 120000, 5000, 500, 120000, 2000, 200, 10000, 1000, 100, 10000, 500, 40, 40000, 4000, 40, 40000, 400, 1, 40, 8, 0, 1000000000, 1000, 0, 1000000, 100, 0, 1000, 1, 0, 1000, 2, 1, 10000, 500, 0, 16384, 4000, 16, 3200, 800)
set_option maxRecDepth 100000 in
theorem params_rows.st (w : World) (a : Act) (o : Oper) (h1 : o.op = .store 66 (.tmp 0) (.tmp 25)) (h2 : a.eval (.tmp 0) = .pointer (some ⟨w.heap.size, 0, none⟩)) (h3 : a.eval (.tmp 25) = .agg params_rows.tb) : Sem.run Try.prog (execOp a.eval o) (w.alloc (.cells params_rows.zs 66 (0, 0))) = .ok .skip (w.alloc (.cells params_rows.tb 66 (0, 0))) := by
  have q := run_storeAt_new (P := Try.prog) w 66 params_rows.zs params_rows.tb (by kernel_rfl) (by kernel_rfl) (by kernel_rfl)
  have e : ∀ (ρ : Operand → Value) (o : Oper) (p x : Operand) (v y : Value), o.op = .store 66 p x → ρ p = v → ρ x = y → execOp ρ o = (Instr.storeAt 66 v y >>= fun _ => pure Next.skip) := by
    intro ρ o p x v y h1 h2 h3
    subst h2 h3
    unfold execOp
    rw [h1]
  rw [e _ _ (.tmp 0) (.tmp 25) (.pointer (some ⟨w.heap.size, 0, none⟩)) (.agg params_rows.tb) h1 h2 h3, Sem.run_bind, q]
  rfl
set_option maxHeartbeats 8000000 in
set_option maxRecDepth 100000 in
theorem params_rows.calls (r1 r2 r3 r4 r5 r6 r7 r8 r9 r10 r11 r12 r13 r14 r15 r16 r17 r18 r19 r20 r21 r22 r23 r24 r25 r26 r27 r28 r29 r30 r31 r32 r33 r34 r35 r36 r37 r38 r39 r40 r41 r42 r43 r44 r45 r46 r47 r48 r49 r50 r51 r52 r53 r54 r55 r56 r57 r58 r59 r60 r61 r62 r63 r64 r65 r66 r67 r68 r69 r70 r71 r72 : Int) (w : World) (h : params_rows.f = some (r1, r2, r3, r4, r5, r6, r7, r8, r9, r10, r11, r12, r13, r14, r15, r16, r17, r18, r19, r20, r21, r22, r23, r24, r25, r26, r27, r28, r29, r30, r31, r32, r33, r34, r35, r36, r37, r38, r39, r40, r41, r42, r43, r44, r45, r46, r47, r48, r49, r50, r51, r52, r53, r54, r55, r56, r57, r58, r59, r60, r61, r62, r63, r64, r65, r66, r67, r68, r69, r70, r71, r72)) :
    Calls Try.prog 38 #[] w fun e w' => e = .returned (.agg #[.int .i64 r1, .int .i64 r2, .int .i64 r3, .int .i64 r4, .int .i64 r5, .int .i64 r6, .int .i64 r7, .int .i64 r8, .int .i64 r9, .int .i64 r10, .int .i64 r11, .int .i64 r12, .int .i64 r13, .int .i64 r14, .int .i64 r15, .int .i64 r16, .int .i64 r17, .int .i64 r18, .int .i64 r19, .int .i64 r20, .int .i64 r21, .int .i64 r22, .int .i64 r23, .int .i64 r24, .int .i64 r25, .int .i64 r26, .int .i64 r27, .int .i64 r28, .int .i64 r29, .int .i64 r30, .int .i64 r31, .int .i64 r32, .int .i64 r33, .int .i64 r34, .int .i64 r35, .int .i64 r36, .int .i64 r37, .int .i64 r38, .int .i64 r39, .int .i64 r40, .int .i64 r41, .int .i64 r42, .int .i64 r43, .int .i64 r44, .int .i64 r45, .int .i64 r46, .int .i64 r47, .int .i64 r48, .int .i64 r49, .int .i64 r50, .int .i64 r51, .int .i64 r52, .int .i64 r53, .int .i64 r54, .int .i64 r55, .int .i64 r56, .int .i64 r57, .int .i64 r58, .int .i64 r59, .int .i64 r60, .int .i64 r61, .int .i64 r62, .int .i64 r63, .int .i64 r64, .int .i64 r65, .int .i64 r66, .int .i64 r67, .int .i64 r68, .int .i64 r69, .int .i64 r70, .int .i64 r71, .int .i64 r72]) ∧ Below w.heap.size w w' := by
  have HB := Aside0.mk (Below.refl w.heap.size w)
  simp only [params_rows.f, Option.some.injEq, Prod.mk.injEq] at h
  obtain ⟨rfl, rfl, rfl, rfl, rfl, rfl, rfl, rfl, rfl, rfl, rfl, rfl, rfl, rfl, rfl, rfl, rfl, rfl, rfl, rfl, rfl, rfl, rfl, rfl, rfl, rfl, rfl, rfl, rfl, rfl, rfl, rfl, rfl, rfl, rfl, rfl, rfl, rfl, rfl, rfl, rfl, rfl, rfl, rfl, rfl, rfl, rfl, rfl, rfl, rfl, rfl, rfl, rfl, rfl, rfl, rfl, rfl, rfl, rfl, rfl, rfl, rfl, rfl, rfl, rfl, rfl, rfl, rfl, rfl, rfl, rfl, rfl⟩ := h
  go_enter Try.func38, Try.ntmps38
  go_wp2_with (first
    | ((with_reducible refine gate_dst (N := 25) rfl ?_); refine Kd.event_run (v := .agg params_rows.tb) (w1 := w.alloc (.cells params_rows.zs 66 (0, 0))) rfl ?hr ?_; (case hr => kernel_rfl))
    | ((with_reducible refine gate_dst (N := 0) rfl ?_); refine Kd.event_run (v := .pointer (some ⟨w.heap.size, 0, none⟩)) (w1 := w.alloc (.cells params_rows.zs 66 (0, 0))) rfl ?hr ?_; (case hr => kernel_rfl))
    | ((with_reducible refine gate_store (t := 66) (p := 0) rfl ?_); refine store_event (t := 66) (p := 0) (v := .tmp 25) (w1 := w.alloc (.cells params_rows.tb 66 (0, 0))) rfl rfl rfl (params_rows.st w _ _ rfl rfl rfl) ?_; intro w2 hw2))
  have hg2 : w2.heap[w.heap.size]? = some (.cells params_rows.tb 66 (0, 0)) := by rw [hw2]; exact heap_alloc_last w _
  have HB2 : Below w.heap.size w w2 := by rw [hw2]; exact below_alloc (Below.refl _ _) _
  clear hw2
  go_wp2
  refine bodyPost_ret (results_cell_row rfl _ _ w.heap.size 66 params_rows.tb (0, 0) _ rfl hg2 Try.underlying66 rfl (by kernel_rfl)) rfl ?_
  exact ⟨rfl, HB2⟩


end Go.Proofs.Ytbnliflfkljbfaa.PControlLaws
