-- WRITTEN BY wip/tools/aprint.py of this claim's repository over the kit's words: not typed by hand
import Derived.Test.YtbnliflfkljbfaaPControlLawsx0
import Derived.Test.YtbnliflfkljbfaaPControlLawsx2
import Derived.Test.YtbnliflfkljbfaaPControlLawsx9
import Derived.Test.YtbnliflfkljbfaaPControlLawsx10
import Derived.Test.YtbnliflfkljbfaaPControlLawsx11
namespace Go.Proofs.Ytbnliflfkljbfaa.PControlLaws
open Go.RowKit Go.Proofs.YtbnliflfkljbfaaW.PrintWords Go.Proofs.YtbnliflfkljbfaaW.PrintLast Go.Proofs.YtbnliflfkljbfaaW.PrintMore
attribute [local go_sem] max2_int min2_int max_two min_two max_three min_three max_four min_four   -- for this text's walks alone
set_option linter.unusedVariables false
set_option linter.unusedSimpArgs false

/-! ### control_Steer_Step: function 20 -/
def control_Steer_Step.l0 : Nat → Int → Int → Int → Int → Int → Int → Int → Int → Int → Int → Int → Int → Int → Int → Bool → Int → Int → Bool → Int → Int → Bool → Int → Int → Option (Int × Int × Int × Int × Int × Int × Int)
  | 0, _, _, _, _, _, _, _, _, _, _, _, _, _, _, _, _, _, _, _, _, _, _, _ => none
  | k + 1, x17, x1000, x1001, x1002, x1003, x440000, x440001, x440002, x441000, x441001, x441002, x443000, x443001, x443002, x517000, x517001, x517002, x517003, x517004, x517005, x517006, x517007, x517008 => if x17 < 3 then (if x17 = 0 then (if x517000 = true then ((control_Steer_place.f k x1000 x1001 x1002 x1003 x517000 x517001 x517002 x440000).bind fun bt444 => ((fix_Slew.f k x1001 bt444.1 x1000).bind fun t449 => ((fix_Sub.f k t449 x441000).bind fun t450 => ((fix_Clamp.f t450 (-64) 64).bind fun t451 => (control_Steer_Step.l0 k 1 x1000 t449 x1002 x1003 x440000 x440001 x440002 x441000 x441001 x441002 t451 x443001 x443002 x517000 x517001 x517002 x517003 x517004 x517005 x517006 x517007 x517008))))) else ((control_Steer_drift.f x1000 x1001 x1002 x1003 x517000 x517001 x517002 x440000).bind fun bt452 => ((fix_Slew.f k x1001 bt452.1 x1000).bind fun t457 => ((fix_Sub.f k t457 x441000).bind fun t458 => ((fix_Clamp.f t458 (-64) 64).bind fun t459 => (control_Steer_Step.l0 k 1 x1000 t457 x1002 x1003 x440000 x440001 x440002 x441000 x441001 x441002 t459 x443001 x443002 x517000 x517001 x517002 x517003 x517004 x517005 x517006 x517007 x517008)))))) else (if x17 = 1 then (if x517003 = true then ((control_Steer_place.f k x1000 x1001 x1002 x1003 x517003 x517004 x517005 x440001).bind fun bt461 => ((fix_Slew.f k x1002 bt461.1 x1000).bind fun t466 => ((fix_Sub.f k t466 x441001).bind fun t467 => ((fix_Clamp.f t467 (-64) 64).bind fun t468 => (control_Steer_Step.l0 k 2 x1000 x1001 t466 x1003 x440000 x440001 x440002 x441000 x441001 x441002 x443000 t468 x443002 x517000 x517001 x517002 x517003 x517004 x517005 x517006 x517007 x517008))))) else ((control_Steer_drift.f x1000 x1001 x1002 x1003 x517003 x517004 x517005 x440001).bind fun bt469 => ((fix_Slew.f k x1002 bt469.1 x1000).bind fun t474 => ((fix_Sub.f k t474 x441001).bind fun t475 => ((fix_Clamp.f t475 (-64) 64).bind fun t476 => (control_Steer_Step.l0 k 2 x1000 x1001 t474 x1003 x440000 x440001 x440002 x441000 x441001 x441002 x443000 t476 x443002 x517000 x517001 x517002 x517003 x517004 x517005 x517006 x517007 x517008)))))) else (if x17 = 2 then (if x517006 = true then ((control_Steer_place.f k x1000 x1001 x1002 x1003 x517006 x517007 x517008 x440002).bind fun bt478 => ((fix_Slew.f k x1003 bt478.1 x1000).bind fun t483 => ((fix_Sub.f k t483 x441002).bind fun t484 => ((fix_Clamp.f t484 (-64) 64).bind fun t485 => (control_Steer_Step.l0 k 3 x1000 x1001 x1002 t483 x440000 x440001 x440002 x441000 x441001 x441002 x443000 x443001 t485 x517000 x517001 x517002 x517003 x517004 x517005 x517006 x517007 x517008))))) else ((control_Steer_drift.f x1000 x1001 x1002 x1003 x517006 x517007 x517008 x440002).bind fun bt486 => ((fix_Slew.f k x1003 bt486.1 x1000).bind fun t491 => ((fix_Sub.f k t491 x441002).bind fun t492 => ((fix_Clamp.f t492 (-64) 64).bind fun t493 => (control_Steer_Step.l0 k 3 x1000 x1001 x1002 t491 x440000 x440001 x440002 x441000 x441001 x441002 x443000 x443001 t493 x517000 x517001 x517002 x517003 x517004 x517005 x517006 x517007 x517008)))))) else (none)))) else (some (x443000, x443001, x443002, x1000, x1001, x1002, x1003))
def control_Steer_Step.f (k : Nat) (s0_0 : Int) (s0_1 : Int) (s0_2 : Int) (s0_3 : Int) (a1_0 : Bool) (a1_1 : Int) (a1_2 : Int) (a1_3 : Bool) (a1_4 : Int) (a1_5 : Int) (a1_6 : Bool) (a1_7 : Int) (a1_8 : Int) (a2_0 : Int) (a2_1 : Int) (a2_2 : Int) (a3_0 : Int) (a3_1 : Int) (a3_2 : Int) : Option (Int × Int × Int × Int × Int × Int × Int) := control_Steer_Step.l0 k 0 s0_0 s0_1 s0_2 s0_3 a2_0 a2_1 a2_2 a3_0 a3_1 a3_2 0 0 0 a1_0 a1_1 a1_2 a1_3 a1_4 a1_5 a1_6 a1_7 a1_8
theorem control_Steer_Step.mono_l : ∀ k, (∀ y0 y1 y2 y3 y4 y5 y6 y7 y8 y9 y10 y11 y12 y13 y14 y15 y16 y17 y18 y19 y20 y21 y22, LeO (control_Steer_Step.l0 k y0 y1 y2 y3 y4 y5 y6 y7 y8 y9 y10 y11 y12 y13 y14 y15 y16 y17 y18 y19 y20 y21 y22) (control_Steer_Step.l0 (k + 1) y0 y1 y2 y3 y4 y5 y6 y7 y8 y9 y10 y11 y12 y13 y14 y15 y16 y17 y18 y19 y20 y21 y22))
  | 0 => fun _ _ _ _ _ _ _ _ _ _ _ _ _ _ _ _ _ _ _ _ _ _ _ r h => by simp [control_Steer_Step.l0] at h
  | k + 1 => by
    have ih0 := control_Steer_Step.mono_l k
    · intro y0 y1 y2 y3 y4 y5 y6 y7 y8 y9 y10 y11 y12 y13 y14 y15 y16 y17 y18 y19 y20 y21 y22
      unfold control_Steer_Step.l0
      repeat' first
      | (with_reducible exact ih0 _ _ _ _ _ _ _ _ _ _ _ _ _ _ _ _ _ _ _ _ _ _ _)
      | (with_reducible exact control_Steer_place.mono _ _ _ _ _ _ _ _ _)
      | (with_reducible exact fix_Slew.mono _ _ _ _)
      | (with_reducible exact fix_Sub.mono _ _ _)
      | (with_reducible exact LeO.refl _)
      | (with_reducible exact LeO.none _)
      | (with_reducible refine LeO.ite ?_ ?_)
      | (with_reducible refine LeO.bind ?_ (fun _ => ?_))
      | exact ih0 _ _ _ _ _ _ _ _ _ _ _ _ _ _ _ _ _ _ _ _ _ _ _
      | exact control_Steer_place.mono _ _ _ _ _ _ _ _ _
      | exact fix_Slew.mono _ _ _ _
      | exact fix_Sub.mono _ _ _
      | exact LeO.none _
      | refine LeO.ite ?_ ?_
      | refine LeO.bind ?_ (fun _ => ?_)
theorem control_Steer_Step.mono : ∀ a0 a1 a2 a3 a4 a5 a6 a7 a8 a9 a10 a11 a12 a13 a14 a15 a16 a17 a18 k, LeO (control_Steer_Step.f k a0 a1 a2 a3 a4 a5 a6 a7 a8 a9 a10 a11 a12 a13 a14 a15 a16 a17 a18) (control_Steer_Step.f (k + 1) a0 a1 a2 a3 a4 a5 a6 a7 a8 a9 a10 a11 a12 a13 a14 a15 a16 a17 a18) := by
  intro a0 a1 a2 a3 a4 a5 a6 a7 a8 a9 a10 a11 a12 a13 a14 a15 a16 a17 a18 k
  have ih0 := control_Steer_Step.mono_l k
  unfold control_Steer_Step.f
  repeat' first
      | (with_reducible exact ih0 _ _ _ _ _ _ _ _ _ _ _ _ _ _ _ _ _ _ _ _ _ _ _)
      | (with_reducible exact control_Steer_place.mono _ _ _ _ _ _ _ _ _)
      | (with_reducible exact fix_Slew.mono _ _ _ _)
      | (with_reducible exact fix_Sub.mono _ _ _)
      | (with_reducible exact LeO.refl _)
      | (with_reducible exact LeO.none _)
      | (with_reducible refine LeO.ite ?_ ?_)
      | (with_reducible refine LeO.bind ?_ (fun _ => ?_))
      | exact ih0 _ _ _ _ _ _ _ _ _ _ _ _ _ _ _ _ _ _ _ _ _ _ _
      | exact control_Steer_place.mono _ _ _ _ _ _ _ _ _
      | exact fix_Slew.mono _ _ _ _
      | exact fix_Sub.mono _ _ _
      | exact LeO.none _
      | refine LeO.ite ?_ ?_
      | refine LeO.bind ?_ (fun _ => ?_)
def control_Steer_Step.T10 : Bool × List (List Nat × List Nat) := (true, [([], []), ([], []), ([], []), ([], []), ([2], [2]), ([4], [4]), ([5, 3], [3, 5]), ([6], [6]), ([], []), ([], []), ([], []), ([], []), ([11], [11]), ([12], [12]), ([8, 9, 10, 13], [8, 9, 10, 13]), ([], []), ([15], [15]), ([16], [16]), ([17], [17]), ([7, 14, 18, 14], [7, 14, 18]), ([0], [0]), ([20], [20]), ([21, 1, 0, 1, 2, 3, 4, 5, 6, 7, 8, 9, 10, 11, 12, 13, 14, 15, 16, 17, 18, 19], [1, 21]), ([22, 19, 19, 0, 1, 2, 3, 4, 5, 6, 7, 8, 9, 10, 11, 12, 13, 14, 15, 16, 17, 18, 19], [19, 22])])
def control_Steer_Step.B10 : List Nat := [0, 0, 0, 0, 4, 20, 60, 124, 0, 0, 0, 0, 2048, 6144, 16128, 0, 32768, 98304, 229376, 524284, 1, 1048577, 4194303, 8388607]
theorem control_Steer_Step.tab10 : rtab .any (opsOf Try.f20 10) = control_Steer_Step.T10 := by kernel_rfl
theorem control_Steer_Step.bits10 : waitsOk control_Steer_Step.T10.2 control_Steer_Step.B10 = true := by kernel_rfl
def control_Steer_Step.T11 : Bool × List (List Nat × List Nat) := (true, [([], []), ([], []), ([], []), ([1], [1]), ([3], [3]), ([4, 2], [2, 4]), ([5], [5]), ([], []), ([7], [7]), ([8], [8]), ([6, 9], [6, 9]), ([10, 10], [10]), ([0, 0, 1, 2, 3, 4, 5, 6, 7, 8, 9, 10, 11], [0]), ([12, 11, 11, 0, 1, 2, 3, 4, 5, 6, 7, 8, 9, 10, 11], [11, 12])])
def control_Steer_Step.B11 : List Nat := [0, 0, 0, 2, 10, 30, 62, 0, 128, 384, 1022, 2046, 4095, 8191]
theorem control_Steer_Step.tab11 : rtab .any (opsOf Try.f20 11) = control_Steer_Step.T11 := by kernel_rfl
theorem control_Steer_Step.bits11 : waitsOk control_Steer_Step.T11.2 control_Steer_Step.B11 = true := by kernel_rfl
set_option maxHeartbeats 8000000 in
set_option maxRecDepth 100000 in
theorem control_Steer_Step.calls (k : Nat) (g : Nat) (s0_0 : Int) (s0_1 : Int) (s0_2 : Int) (s0_3 : Int) (a1_0 : Bool) (a1_1 : Int) (a1_2 : Int) (a1_3 : Bool) (a1_4 : Int) (a1_5 : Int) (a1_6 : Bool) (a1_7 : Int) (a1_8 : Int) (a2_0 : Int) (a2_1 : Int) (a2_2 : Int) (a3_0 : Int) (a3_1 : Int) (a3_2 : Int) (r1 : Int) (r2 : Int) (r3 : Int) (r4 : Int) (r5 : Int) (r6 : Int) (r7 : Int) (w0 w : World) (hI : IsS65 w0 w g s0_0 s0_1 s0_2 s0_3) (hB : Below w0.heap.size w0 w) (h : control_Steer_Step.f k s0_0 s0_1 s0_2 s0_3 a1_0 a1_1 a1_2 a1_3 a1_4 a1_5 a1_6 a1_7 a1_8 a2_0 a2_1 a2_2 a3_0 a3_1 a3_2 = some (r1, r2, r3, r4, r5, r6, r7)) :
    Calls Try.prog 20 #[.pointer (some ⟨g, 0, none⟩), .agg #[.bool a1_0, .int .i64 a1_1, .int .i64 a1_2, .bool a1_3, .int .i64 a1_4, .int .i64 a1_5, .bool a1_6, .int .i64 a1_7, .int .i64 a1_8], .agg #[.int .i64 a2_0, .int .i64 a2_1, .int .i64 a2_2], .agg #[.int .i64 a3_0, .int .i64 a3_1, .int .i64 a3_2]] w fun e w' => e = .returned (.agg #[.int .i64 r1, .int .i64 r2, .int .i64 r3]) ∧ IsS65 w0 w' g r4 r5 r6 r7 ∧ Below w0.heap.size w0 w' ∧ KeepBut w w' g none := by
  have hu42 := Try.underlying42
  have hu37 := Try.underlying37
  have hu41 := Try.underlying41
  have hix42_0 : ∀ (x0_ x1_ x2_ x3_ x4_ x5_ x6_ x7_ x8_ : Value) (W : World), (Instr.index 42 (.agg #[x0_, x1_, x2_, x3_, x4_, x5_, x6_, x7_, x8_]) (.int .i64 0)).run Try.prog W = .ok (.agg #[x0_, x1_, x2_]) W := fun x0_ x1_ x2_ x3_ x4_ x5_ x6_ x7_ x8_ W => rfl
  have hix42_1 : ∀ (x0_ x1_ x2_ x3_ x4_ x5_ x6_ x7_ x8_ : Value) (W : World), (Instr.index 42 (.agg #[x0_, x1_, x2_, x3_, x4_, x5_, x6_, x7_, x8_]) (.int .i64 1)).run Try.prog W = .ok (.agg #[x3_, x4_, x5_]) W := fun x0_ x1_ x2_ x3_ x4_ x5_ x6_ x7_ x8_ W => rfl
  have hix42_2 : ∀ (x0_ x1_ x2_ x3_ x4_ x5_ x6_ x7_ x8_ : Value) (W : World), (Instr.index 42 (.agg #[x0_, x1_, x2_, x3_, x4_, x5_, x6_, x7_, x8_]) (.int .i64 2)).run Try.prog W = .ok (.agg #[x6_, x7_, x8_]) W := fun x0_ x1_ x2_ x3_ x4_ x5_ x6_ x7_ x8_ W => rfl
  have HI0 := Aside0.mk hI
  have HK := Aside0.mk (KeepBut.refl w g none)
  have HL := Aside0.mk hB.size
  clear hI
  have HW0 := Aside0.mk hB.size
  have HB := Aside0.mk hB
  clear hB
  have H : (control_Steer_Step.l0 k 0 s0_0 s0_1 s0_2 s0_3 a2_0 a2_1 a2_2 a3_0 a3_1 a3_2 0 0 0 a1_0 a1_1 a1_2 a1_3 a1_4 a1_5 a1_6 a1_7 a1_8) = some (r1, r2, r3, r4, r5, r6, r7) := h
  clear h
  have H' := Aside0.mk H
  clear H
  go_enter Try.func20, Try.ntmps20
  go_wp2_with (first | ((with_reducible refine gate_dst (N := 5) rfl ?_); refine box_event ?hg (N := 5) ?hd (cs := #[.bool a1_0, .int .i64 a1_1, .int .i64 a1_2, .bool a1_3, .int .i64 a1_4, .int .i64 a1_5, .bool a1_6, .int .i64 a1_7, .int .i64 a1_8]) (t := 42) ?hr ?_; (case hd => rfl); (case hg => rfl); (case hr => first | (go_simp; done) | (go_simp; rfl)); intro gb438 hg w5 hbox hb; have n0_ := Aside0.mk (IsS65.below HI0.out hb); have n1_ := Aside0.mk (KeepBut.trans HK.out (KeepBut.of_below hb g none) (.inl rfl)); have n2_ := Aside0.mk (below_step HB.out hb); have n3_ := Aside0.mk (hbox); have n4_ := Aside0.mk ((by rw [hg]; exact (keep_size (w := w) (g := g) (row := none) HK.out) : w.heap.size ≤ gb438)); have n5_ := Aside0.mk ((Nat.le_trans HW0.out (by rw [hg]; exact (keep_size (w := w) (g := g) (row := none) HK.out) : w.heap.size ≤ gb438) : w0.heap.size ≤ gb438)); have n6_ := Aside0.mk ((by rw [hg]; exact Nat.ne_of_lt (IsS65.lt HI0.out) : g ≠ gb438)); have n7_ := Aside0.mk ((by rw [hg]; exact Nat.ne_of_gt (IsS65.lt HI0.out) : gb438 ≠ g)); clear HI0; clear HK; clear HB; have HI0 := n0_; have HK := n1_; have HB := n2_; have BK438 := n3_; have GW438 := n4_; have GE438 := n5_; have NB0_438 := n6_; have NB438_0 := n7_; clear n0_ n1_ n2_ n3_ n4_ n5_ n6_ n7_; clear hb hbox hg) | ((with_reducible refine gate_dst (N := 6) rfl ?_); refine box_event ?hg (N := 6) ?hd (cs := #[.int .i64 a2_0, .int .i64 a2_1, .int .i64 a2_2]) (t := 37) ?hr ?_; (case hd => rfl); (case hg => rfl); (case hr => first | (go_simp; done) | (go_simp; rfl)); intro gb439 hg w6 hbox hb; have n0_ := Aside0.mk (IsS65.below HI0.out hb); have n1_ := Aside0.mk (blk_below BK438.out hb); have n2_ := Aside0.mk (KeepBut.trans HK.out (KeepBut.of_below hb g none) (.inl rfl)); have n3_ := Aside0.mk (below_step HB.out hb); have n4_ := Aside0.mk (hbox); have n5_ := Aside0.mk ((by rw [hg]; exact (keep_size (w := w) (g := g) (row := none) HK.out) : w.heap.size ≤ gb439)); have n6_ := Aside0.mk ((Nat.le_trans HW0.out (by rw [hg]; exact (keep_size (w := w) (g := g) (row := none) HK.out) : w.heap.size ≤ gb439) : w0.heap.size ≤ gb439)); have n7_ := Aside0.mk ((by rw [hg]; exact Nat.ne_of_lt (blk_lt BK438.out) : gb438 ≠ gb439)); have n8_ := Aside0.mk ((by rw [hg]; exact Nat.ne_of_gt (blk_lt BK438.out) : gb439 ≠ gb438)); have n9_ := Aside0.mk ((by rw [hg]; exact Nat.ne_of_lt (IsS65.lt HI0.out) : g ≠ gb439)); have n10_ := Aside0.mk ((by rw [hg]; exact Nat.ne_of_gt (IsS65.lt HI0.out) : gb439 ≠ g)); clear HI0; clear BK438; clear HK; clear HB; have HI0 := n0_; have BK438 := n1_; have HK := n2_; have HB := n3_; have BK439 := n4_; have GW439 := n5_; have GE439 := n6_; have NB438_439 := n7_; have NB439_438 := n8_; have NB0_439 := n9_; have NB439_0 := n10_; clear n0_ n1_ n2_ n3_ n4_ n5_ n6_ n7_ n8_ n9_ n10_; clear hb hbox hg) | ((with_reducible refine gate_dst (N := 7) rfl ?_); refine box_event ?hg (N := 7) ?hd (cs := #[.int .i64 a3_0, .int .i64 a3_1, .int .i64 a3_2]) (t := 37) ?hr ?_; (case hd => rfl); (case hg => rfl); (case hr => first | (go_simp; done) | (go_simp; rfl)); intro gb440 hg w7 hbox hb; have n0_ := Aside0.mk (IsS65.below HI0.out hb); have n1_ := Aside0.mk (blk_below BK438.out hb); have n2_ := Aside0.mk (blk_below BK439.out hb); have n3_ := Aside0.mk (KeepBut.trans HK.out (KeepBut.of_below hb g none) (.inl rfl)); have n4_ := Aside0.mk (below_step HB.out hb); have n5_ := Aside0.mk (hbox); have n6_ := Aside0.mk ((by rw [hg]; exact (keep_size (w := w) (g := g) (row := none) HK.out) : w.heap.size ≤ gb440)); have n7_ := Aside0.mk ((Nat.le_trans HW0.out (by rw [hg]; exact (keep_size (w := w) (g := g) (row := none) HK.out) : w.heap.size ≤ gb440) : w0.heap.size ≤ gb440)); have n8_ := Aside0.mk ((by rw [hg]; exact Nat.ne_of_lt (blk_lt BK438.out) : gb438 ≠ gb440)); have n9_ := Aside0.mk ((by rw [hg]; exact Nat.ne_of_gt (blk_lt BK438.out) : gb440 ≠ gb438)); have n10_ := Aside0.mk ((by rw [hg]; exact Nat.ne_of_lt (blk_lt BK439.out) : gb439 ≠ gb440)); have n11_ := Aside0.mk ((by rw [hg]; exact Nat.ne_of_gt (blk_lt BK439.out) : gb440 ≠ gb439)); have n12_ := Aside0.mk ((by rw [hg]; exact Nat.ne_of_lt (IsS65.lt HI0.out) : g ≠ gb440)); have n13_ := Aside0.mk ((by rw [hg]; exact Nat.ne_of_gt (IsS65.lt HI0.out) : gb440 ≠ g)); clear HI0; clear BK438; clear BK439; clear HK; clear HB; have HI0 := n0_; have BK438 := n1_; have BK439 := n2_; have HK := n3_; have HB := n4_; have BK440 := n5_; have GW440 := n6_; have GE440 := n7_; have NB438_440 := n8_; have NB440_438 := n9_; have NB439_440 := n10_; have NB440_439 := n11_; have NB0_440 := n12_; have NB440_0 := n13_; clear n0_ n1_ n2_ n3_ n4_ n5_ n6_ n7_ n8_ n9_ n10_ n11_ n12_ n13_; clear hb hbox hg) | ((with_reducible refine gate_dst (N := 8) rfl ?_); refine box_event ?hg (N := 8) ?hd (cs := #[.int .i64 0, .int .i64 0, .int .i64 0]) (t := 37) ?hr ?_; (case hd => rfl); (case hg => rfl); (case hr => first | (go_simp; done) | (go_simp; rfl)); intro gb441 hg w8 hbox hb; have n0_ := Aside0.mk (IsS65.below HI0.out hb); have n1_ := Aside0.mk (blk_below BK438.out hb); have n2_ := Aside0.mk (blk_below BK439.out hb); have n3_ := Aside0.mk (blk_below BK440.out hb); have n4_ := Aside0.mk (KeepBut.trans HK.out (KeepBut.of_below hb g none) (.inl rfl)); have n5_ := Aside0.mk (below_step HB.out hb); have n6_ := Aside0.mk (hbox); have n7_ := Aside0.mk ((by rw [hg]; exact (keep_size (w := w) (g := g) (row := none) HK.out) : w.heap.size ≤ gb441)); have n8_ := Aside0.mk ((Nat.le_trans HW0.out (by rw [hg]; exact (keep_size (w := w) (g := g) (row := none) HK.out) : w.heap.size ≤ gb441) : w0.heap.size ≤ gb441)); have n9_ := Aside0.mk ((by rw [hg]; exact Nat.ne_of_lt (blk_lt BK438.out) : gb438 ≠ gb441)); have n10_ := Aside0.mk ((by rw [hg]; exact Nat.ne_of_gt (blk_lt BK438.out) : gb441 ≠ gb438)); have n11_ := Aside0.mk ((by rw [hg]; exact Nat.ne_of_lt (blk_lt BK439.out) : gb439 ≠ gb441)); have n12_ := Aside0.mk ((by rw [hg]; exact Nat.ne_of_gt (blk_lt BK439.out) : gb441 ≠ gb439)); have n13_ := Aside0.mk ((by rw [hg]; exact Nat.ne_of_lt (blk_lt BK440.out) : gb440 ≠ gb441)); have n14_ := Aside0.mk ((by rw [hg]; exact Nat.ne_of_gt (blk_lt BK440.out) : gb441 ≠ gb440)); have n15_ := Aside0.mk ((by rw [hg]; exact Nat.ne_of_lt (IsS65.lt HI0.out) : g ≠ gb441)); have n16_ := Aside0.mk ((by rw [hg]; exact Nat.ne_of_gt (IsS65.lt HI0.out) : gb441 ≠ g)); clear HI0; clear BK438; clear BK439; clear BK440; clear HK; clear HB; have HI0 := n0_; have BK438 := n1_; have BK439 := n2_; have BK440 := n3_; have HK := n4_; have HB := n5_; have BK441 := n6_; have GW441 := n7_; have GE441 := n8_; have NB438_441 := n9_; have NB441_438 := n10_; have NB439_441 := n11_; have NB441_439 := n12_; have NB440_441 := n13_; have NB441_440 := n14_; have NB0_441 := n15_; have NB441_0 := n16_; clear n0_ n1_ n2_ n3_ n4_ n5_ n6_ n7_ n8_ n9_ n10_ n11_ n12_ n13_ n14_ n15_ n16_; clear hb hbox hg) | ((with_reducible refine gate_dst (N := 9) rfl ?_); refine box_event ?hg (N := 9) ?hd (cs := #[.int .i64 0, .int .i64 0, .int .i64 0]) (t := 37) ?hr ?_; (case hd => rfl); (case hg => rfl); (case hr => first | (go_simp; done) | (go_simp; rfl)); intro gb442 hg w9 hbox hb; have n0_ := Aside0.mk (IsS65.below HI0.out hb); have n1_ := Aside0.mk (blk_below BK438.out hb); have n2_ := Aside0.mk (blk_below BK439.out hb); have n3_ := Aside0.mk (blk_below BK440.out hb); have n4_ := Aside0.mk (blk_below BK441.out hb); have n5_ := Aside0.mk (KeepBut.trans HK.out (KeepBut.of_below hb g none) (.inl rfl)); have n6_ := Aside0.mk (below_step HB.out hb); have n7_ := Aside0.mk (hbox); have n8_ := Aside0.mk ((by rw [hg]; exact (keep_size (w := w) (g := g) (row := none) HK.out) : w.heap.size ≤ gb442)); have n9_ := Aside0.mk ((Nat.le_trans HW0.out (by rw [hg]; exact (keep_size (w := w) (g := g) (row := none) HK.out) : w.heap.size ≤ gb442) : w0.heap.size ≤ gb442)); have n10_ := Aside0.mk ((by rw [hg]; exact Nat.ne_of_lt (blk_lt BK438.out) : gb438 ≠ gb442)); have n11_ := Aside0.mk ((by rw [hg]; exact Nat.ne_of_gt (blk_lt BK438.out) : gb442 ≠ gb438)); have n12_ := Aside0.mk ((by rw [hg]; exact Nat.ne_of_lt (blk_lt BK439.out) : gb439 ≠ gb442)); have n13_ := Aside0.mk ((by rw [hg]; exact Nat.ne_of_gt (blk_lt BK439.out) : gb442 ≠ gb439)); have n14_ := Aside0.mk ((by rw [hg]; exact Nat.ne_of_lt (blk_lt BK440.out) : gb440 ≠ gb442)); have n15_ := Aside0.mk ((by rw [hg]; exact Nat.ne_of_gt (blk_lt BK440.out) : gb442 ≠ gb440)); have n16_ := Aside0.mk ((by rw [hg]; exact Nat.ne_of_lt (blk_lt BK441.out) : gb441 ≠ gb442)); have n17_ := Aside0.mk ((by rw [hg]; exact Nat.ne_of_gt (blk_lt BK441.out) : gb442 ≠ gb441)); have n18_ := Aside0.mk ((by rw [hg]; exact Nat.ne_of_lt (IsS65.lt HI0.out) : g ≠ gb442)); have n19_ := Aside0.mk ((by rw [hg]; exact Nat.ne_of_gt (IsS65.lt HI0.out) : gb442 ≠ g)); clear HI0; clear BK438; clear BK439; clear BK440; clear BK441; clear HK; clear HB; have HI0 := n0_; have BK438 := n1_; have BK439 := n2_; have BK440 := n3_; have BK441 := n4_; have HK := n5_; have HB := n6_; have BK442 := n7_; have GW442 := n8_; have GE442 := n9_; have NB438_442 := n10_; have NB442_438 := n11_; have NB439_442 := n12_; have NB442_439 := n13_; have NB440_442 := n14_; have NB442_440 := n15_; have NB441_442 := n16_; have NB442_441 := n17_; have NB0_442 := n18_; have NB442_0 := n19_; clear n0_ n1_ n2_ n3_ n4_ n5_ n6_ n7_ n8_ n9_ n10_ n11_ n12_ n13_ n14_ n15_ n16_ n17_ n18_ n19_; clear hb hbox hg; have hnb10 := NB438_439.out; have hnc10 := NB439_438.out; have hnb11 := NB438_440.out; have hnc11 := NB440_438.out; have hnb12 := NB438_441.out; have hnc12 := NB441_438.out; have hnb13 := NB438_442.out; have hnc13 := NB442_438.out; have hnb14 := NB438_0.out; have hnc14 := NB0_438.out; have hcz15_0 := blk_cells9 (w := w9) (g := gb438) BK438.out; have hfz15_0 := blk_frozen BK438.out))
  go_loopg [17] k (fun kq v17 w' => ∃ (x17_1 : Int) (x1000_1 : Int) (x1001_1 : Int) (x1002_1 : Int) (x1003_1 : Int) (x442000_1 : Int) (x442001_1 : Int) (x442002_1 : Int) (x443000_1 : Int) (x443001_1 : Int) (x443002_1 : Int), v17 = .int .i64 x17_1 ∧ Aside0 (control_Steer_Step.l0 kq x17_1 x1000_1 x1001_1 x1002_1 x1003_1 a2_0 a2_1 a2_2 a3_0 a3_1 a3_2 x443000_1 x443001_1 x443002_1 a1_0 a1_1 a1_2 a1_3 a1_4 a1_5 a1_6 a1_7 a1_8 = some (r1, r2, r3, r4, r5, r6, r7)) ∧ Aside0 (kq ≤ k) ∧ Aside0 (w'.heap[gb438]? = some (.cells #[.bool a1_0, .int .i64 a1_1, .int .i64 a1_2, .bool a1_3, .int .i64 a1_4, .int .i64 a1_5, .bool a1_6, .int .i64 a1_7, .int .i64 a1_8] 42 (0, 0))) ∧ Aside0 (w'.heap[gb439]? = some (.cells #[.int .i64 a2_0, .int .i64 a2_1, .int .i64 a2_2] 37 (0, 0))) ∧ Aside0 (w'.heap[gb440]? = some (.cells #[.int .i64 a3_0, .int .i64 a3_1, .int .i64 a3_2] 37 (0, 0))) ∧ Aside0 (w'.heap[gb441]? = some (.cells #[.int .i64 x442000_1, .int .i64 x442001_1, .int .i64 x442002_1] 37 (0, 0))) ∧ Aside0 (w'.heap[gb442]? = some (.cells #[.int .i64 x443000_1, .int .i64 x443001_1, .int .i64 x443002_1] 37 (0, 0))) ∧ Aside0 (IsS65 w0 w' g x1000_1 x1001_1 x1002_1 x1003_1) ∧ Aside0 (KeepBut w w' g none) ∧ Aside0 (Below w0.heap.size w0 w'))
  case atStart => exact ⟨(0), (s0_0), (s0_1), (s0_2), (s0_3), (0), (0), (0), (0), (0), (0), (by first | rfl | (simp; done) | (simp [*]; done)), H', ⟨Nat.le_refl _⟩, ⟨by (with_reducible repeat (first | refine blk_drewN ?_ _ | refine blk_drew ?_ | refine blk_alloc ?_ _)); exact BK438.out⟩, ⟨by (with_reducible repeat (first | refine blk_drewN ?_ _ | refine blk_drew ?_ | refine blk_alloc ?_ _)); exact BK439.out⟩, ⟨by (with_reducible repeat (first | refine blk_drewN ?_ _ | refine blk_drew ?_ | refine blk_alloc ?_ _)); exact BK440.out⟩, ⟨by (with_reducible repeat (first | refine blk_drewN ?_ _ | refine blk_drew ?_ | refine blk_alloc ?_ _)); exact BK441.out⟩, ⟨by (with_reducible repeat (first | refine blk_drewN ?_ _ | refine blk_drew ?_ | refine blk_alloc ?_ _)); exact BK442.out⟩, ⟨by repeat (first | (with_reducible first | exact HI0.out | apply IsS65.alloc | apply IsS65.drewN | apply IsS65.drew | apply IsS65.set_0 | apply IsS65.set_1 | apply IsS65.set_2 | apply IsS65.set_3 | refine IsS65.far ?_ NB0_438.out _ | refine IsS65.far ?_ NB0_439.out _ | refine IsS65.far ?_ NB0_440.out _ | refine IsS65.far ?_ NB0_441.out _ | refine IsS65.far ?_ NB0_442.out _) | exact HI0.out)⟩, ⟨by repeat (first | (with_reducible first | exact HK.out | apply KeepBut.set_ | apply keep_drewN | apply keep_drew | apply keep_alloc | refine keep_far ?_ GW438.out _ | refine keep_far ?_ GW439.out _ | refine keep_far ?_ GW440.out _ | refine keep_far ?_ GW441.out _ | refine keep_far ?_ GW442.out _) | exact HK.out)⟩, ⟨by repeat (first | (with_reducible first | exact HB.out | apply below_alloc | apply pw_below_drewN | apply below_drew1 | refine below_set ?_ (IsS65.ge HI0.out) | refine below_set ?_ GE438.out | refine below_set ?_ GE439.out | refine below_set ?_ GE440.out | refine below_set ?_ GE441.out | refine below_set ?_ GE442.out) | exact HB.out)⟩⟩
  case round =>
   clear H'
   try clear c1
   try clear c2
   try clear p2
   try clear c10
   try clear c11
   try clear c12
   try clear c13
   try clear c14
   try clear hcz15_0
   try clear hfz15_0
   obtain ⟨x17_1, x1000_1, x1001_1, x1002_1, x1003_1, x442000_1, x442001_1, x442002_1, x443000_1, x443001_1, x443002_1, rfl, HA, HK1, BK438, BK439, BK440, BK441, BK442, HI0, HK, HB⟩ := hrel
   cases gk with
   | zero => exact absurd HA.out (by simp [control_Steer_Step.l0])
   | succ k1 =>
    have H := HA.out
    clear HA
    simp only [control_Steer_Step.l0] at H
    by_cases c16 : x17_1 < 3
    ·rw [if_pos c16] at H
     have c16b0 : decide (x17_1 < 3) = true := decide_eq_true c16
     clear c16
     by_cases c17 : x17_1 = 0
     ·subst c17
      have H1 : (if a1_0 = true then ((control_Steer_place.f k1 x1000_1 x1001_1 x1002_1 x1003_1 a1_0 a1_1 a1_2 a2_0).bind fun bt444 => ((fix_Slew.f k1 x1001_1 bt444.1 x1000_1).bind fun t449 => ((fix_Sub.f k1 t449 a3_0).bind fun t450 => ((fix_Clamp.f t450 (-64) 64).bind fun t451 => (control_Steer_Step.l0 k1 1 x1000_1 t449 x1002_1 x1003_1 a2_0 a2_1 a2_2 a3_0 a3_1 a3_2 t451 x443001_1 x443002_1 a1_0 a1_1 a1_2 a1_3 a1_4 a1_5 a1_6 a1_7 a1_8))))) else ((control_Steer_drift.f x1000_1 x1001_1 x1002_1 x1003_1 a1_0 a1_1 a1_2 a2_0).bind fun bt452 => ((fix_Slew.f k1 x1001_1 bt452.1 x1000_1).bind fun t457 => ((fix_Sub.f k1 t457 a3_0).bind fun t458 => ((fix_Clamp.f t458 (-64) 64).bind fun t459 => (control_Steer_Step.l0 k1 1 x1000_1 t457 x1002_1 x1003_1 a2_0 a2_1 a2_2 a3_0 a3_1 a3_2 t459 x443001_1 x443002_1 a1_0 a1_1 a1_2 a1_3 a1_4 a1_5 a1_6 a1_7 a1_8)))))) = some (r1, r2, r3, r4, r5, r6, r7) := by rw [if_pos rfl] at H; exact H
      clear H
      have H := H1
      clear H1
      by_cases c18 : a1_0 = true
      ·subst c18
       have H1 : ((control_Steer_place.f k1 x1000_1 x1001_1 x1002_1 x1003_1 true a1_1 a1_2 a2_0).bind fun bt444 => ((fix_Slew.f k1 x1001_1 bt444.1 x1000_1).bind fun t449 => ((fix_Sub.f k1 t449 a3_0).bind fun t450 => ((fix_Clamp.f t450 (-64) 64).bind fun t451 => (control_Steer_Step.l0 k1 1 x1000_1 t449 x1002_1 x1003_1 a2_0 a2_1 a2_2 a3_0 a3_1 a3_2 t451 x443001_1 x443002_1 true a1_1 a1_2 a1_3 a1_4 a1_5 a1_6 a1_7 a1_8))))) = some (r1, r2, r3, r4, r5, r6, r7) := by rw [if_pos rfl] at H; exact H
       clear H
       have H := H1
       clear H1
       replace H := Option.bind_eq_some_iff.mp H
       obtain ⟨⟨t444, t445, t446, t447, t448⟩, A190, H⟩ := H
       replace H : ((fix_Slew.f k1 x1001_1 t444 x1000_1).bind fun t449 => ((fix_Sub.f k1 t449 a3_0).bind fun t450 => ((fix_Clamp.f t450 (-64) 64).bind fun t451 => (control_Steer_Step.l0 k1 1 x1000_1 t449 x1002_1 x1003_1 a2_0 a2_1 a2_2 a3_0 a3_1 a3_2 t451 x443001_1 x443002_1 true a1_1 a1_2 a1_3 a1_4 a1_5 a1_6 a1_7 a1_8)))) = some (r1, r2, r3, r4, r5, r6, r7) := H
       have A19 := Aside0.mk A190
       clear A190
       obtain ⟨E0_, E1_, E2_, E3_⟩ := control_Steer_place.same A19.out
       subst E0_
       subst E1_
       subst E2_
       subst E3_
       replace H := Option.bind_eq_some_iff.mp H
       obtain ⟨t449, A200, H⟩ := H
       replace H : ((fix_Sub.f k1 t449 a3_0).bind fun t450 => ((fix_Clamp.f t450 (-64) 64).bind fun t451 => (control_Steer_Step.l0 k1 1 x1000_1 t449 x1002_1 x1003_1 a2_0 a2_1 a2_2 a3_0 a3_1 a3_2 t451 x443001_1 x443002_1 true a1_1 a1_2 a1_3 a1_4 a1_5 a1_6 a1_7 a1_8))) = some (r1, r2, r3, r4, r5, r6, r7) := H
       have A20 := Aside0.mk A200
       clear A200
       replace H := Option.bind_eq_some_iff.mp H
       obtain ⟨t450, A210, H⟩ := H
       replace H : ((fix_Clamp.f t450 (-64) 64).bind fun t451 => (control_Steer_Step.l0 k1 1 x1000_1 t449 x1002_1 x1003_1 a2_0 a2_1 a2_2 a3_0 a3_1 a3_2 t451 x443001_1 x443002_1 true a1_1 a1_2 a1_3 a1_4 a1_5 a1_6 a1_7 a1_8)) = some (r1, r2, r3, r4, r5, r6, r7) := H
       have A21 := Aside0.mk A210
       clear A210
       replace H := Option.bind_eq_some_iff.mp H
       obtain ⟨t451, A220, H⟩ := H
       replace H : (control_Steer_Step.l0 k1 1 x1000_1 t449 x1002_1 x1003_1 a2_0 a2_1 a2_2 a3_0 a3_1 a3_2 t451 x443001_1 x443002_1 true a1_1 a1_2 a1_3 a1_4 a1_5 a1_6 a1_7 a1_8) = some (r1, r2, r3, r4, r5, r6, r7) := H
       have A22 := Aside0.mk A220
       clear A220
       have H' := Aside0.mk H
       clear H
       try go_wp2_with (first | ((with_reducible refine gate_dst (N := 11) rfl ?_); refine box_event ?hg (N := 11) ?hd (cs := #[.bool false, .int .i64 0, .int .i64 0]) (t := 41) ?hr ?_; (case hd => rfl); (case hg => rfl); (case hr => first | (go_simp; done) | (go_simp; rfl)); intro gb443 hg w23 hbox hb; have n0_ := Aside0.mk (blk_below BK438.out hb); have n1_ := Aside0.mk (blk_below BK439.out hb); have n2_ := Aside0.mk (blk_below BK440.out hb); have n3_ := Aside0.mk (blk_below BK441.out hb); have n4_ := Aside0.mk (blk_below BK442.out hb); have n5_ := Aside0.mk (IsS65.below HI0.out hb); have n6_ := Aside0.mk (KeepBut.trans HK.out (KeepBut.of_below hb g none) (.inl rfl)); have n7_ := Aside0.mk (below_step HB.out hb); have n8_ := Aside0.mk (hbox); have n9_ := Aside0.mk ((by rw [hg]; exact (keep_size (w := w) (g := g) (row := none) HK.out) : w.heap.size ≤ gb443)); have n10_ := Aside0.mk ((Nat.le_trans HW0.out (by rw [hg]; exact (keep_size (w := w) (g := g) (row := none) HK.out) : w.heap.size ≤ gb443) : w0.heap.size ≤ gb443)); have n11_ := Aside0.mk ((by rw [hg]; exact Nat.ne_of_lt (blk_lt BK438.out) : gb438 ≠ gb443)); have n12_ := Aside0.mk ((by rw [hg]; exact Nat.ne_of_gt (blk_lt BK438.out) : gb443 ≠ gb438)); have n13_ := Aside0.mk ((by rw [hg]; exact Nat.ne_of_lt (blk_lt BK439.out) : gb439 ≠ gb443)); have n14_ := Aside0.mk ((by rw [hg]; exact Nat.ne_of_gt (blk_lt BK439.out) : gb443 ≠ gb439)); have n15_ := Aside0.mk ((by rw [hg]; exact Nat.ne_of_lt (blk_lt BK440.out) : gb440 ≠ gb443)); have n16_ := Aside0.mk ((by rw [hg]; exact Nat.ne_of_gt (blk_lt BK440.out) : gb443 ≠ gb440)); have n17_ := Aside0.mk ((by rw [hg]; exact Nat.ne_of_lt (blk_lt BK441.out) : gb441 ≠ gb443)); have n18_ := Aside0.mk ((by rw [hg]; exact Nat.ne_of_gt (blk_lt BK441.out) : gb443 ≠ gb441)); have n19_ := Aside0.mk ((by rw [hg]; exact Nat.ne_of_lt (blk_lt BK442.out) : gb442 ≠ gb443)); have n20_ := Aside0.mk ((by rw [hg]; exact Nat.ne_of_gt (blk_lt BK442.out) : gb443 ≠ gb442)); have n21_ := Aside0.mk ((by rw [hg]; exact Nat.ne_of_lt (IsS65.lt HI0.out) : g ≠ gb443)); have n22_ := Aside0.mk ((by rw [hg]; exact Nat.ne_of_gt (IsS65.lt HI0.out) : gb443 ≠ g)); clear BK438; clear BK439; clear BK440; clear BK441; clear BK442; clear HI0; clear HK; clear HB; have BK438 := n0_; have BK439 := n1_; have BK440 := n2_; have BK441 := n3_; have BK442 := n4_; have HI0 := n5_; have HK := n6_; have HB := n7_; have BK443 := n8_; have GW443 := n9_; have GE443 := n10_; have NB438_443 := n11_; have NB443_438 := n12_; have NB439_443 := n13_; have NB443_439 := n14_; have NB440_443 := n15_; have NB443_440 := n16_; have NB441_443 := n17_; have NB443_441 := n18_; have NB442_443 := n19_; have NB443_442 := n20_; have NB0_443 := n21_; have NB443_0 := n22_; clear n0_ n1_ n2_ n3_ n4_ n5_ n6_ n7_ n8_ n9_ n10_ n11_ n12_ n13_ n14_ n15_ n16_ n17_ n18_ n19_ n20_ n21_ n22_; clear hb hbox hg; have hnb24 := NB443_438.out; have hnc24 := NB438_443.out; have hnb25 := NB443_439.out; have hnc25 := NB439_443.out; have hnb26 := NB443_440.out; have hnc26 := NB440_443.out; have hnb27 := NB443_441.out; have hnc27 := NB441_443.out; have hnb28 := NB443_442.out; have hnc28 := NB442_443.out; have hnb29 := NB443_0.out; have hnc29 := NB0_443.out; have hcz30_0 := blk_cells3 (w := w23) (g := gb443) BK443.out; have hfz30_0 := blk_frozen BK443.out))
       (repeat (rw [drewN_self w23]; generalize hq_ : World.drewN w23 _ = w23; have n0_ := Aside0.mk (blk_at hq_ BK438.out); have n1_ := Aside0.mk (blk_at hq_ BK439.out); have n2_ := Aside0.mk (blk_at hq_ BK440.out); have n3_ := Aside0.mk (blk_at hq_ BK441.out); have n4_ := Aside0.mk (blk_at hq_ BK442.out); have n5_ := Aside0.mk (blk_at hq_ BK443.out); have n6_ := Aside0.mk (IsS65.at_ hq_ HI0.out); have n7_ := Aside0.mk (keep_at hq_ HK.out); have n8_ := Aside0.mk (below_at hq_ HB.out); clear hq_ BK438 BK439 BK440 BK441 BK442 BK443 HI0 HK HB; have BK438 := n0_; have BK439 := n1_; have BK440 := n2_; have BK441 := n3_; have BK442 := n4_; have BK443 := n5_; have HI0 := n6_; have HK := n7_; have HB := n8_; clear n0_ n1_ n2_ n3_ n4_ n5_ n6_ n7_ n8_))
       obtain ⟨w31, hW_⟩ : ∃ W_, W_ = (((w23.setCell ⟨gb443, 0, none⟩ (.bool true)).setCell ⟨gb443, 1, none⟩ (.int .i64 a1_1)).setCell ⟨gb443, 2, none⟩ (.int .i64 a1_2)) := ⟨_, rfl⟩
       have n0_ : Aside0 (w31.heap[gb438]? = some (.cells #[.bool true, .int .i64 a1_1, .int .i64 a1_2, .bool a1_3, .int .i64 a1_4, .int .i64 a1_5, .bool a1_6, .int .i64 a1_7, .int .i64 a1_8] 42 (0, 0))) := ⟨by rw [hW_]; repeat (first | exact BK438.out | refine blk_far ?_ NB438_443.out _ | (with_reducible first | refine blk_drewN ?_ _ | refine blk_drew ?_ | refine blk_alloc ?_ _))⟩
       have n1_ : Aside0 (w31.heap[gb439]? = some (.cells #[.int .i64 a2_0, .int .i64 a2_1, .int .i64 a2_2] 37 (0, 0))) := ⟨by rw [hW_]; repeat (first | exact BK439.out | refine blk_far ?_ NB439_443.out _ | (with_reducible first | refine blk_drewN ?_ _ | refine blk_drew ?_ | refine blk_alloc ?_ _))⟩
       have n2_ : Aside0 (w31.heap[gb440]? = some (.cells #[.int .i64 a3_0, .int .i64 a3_1, .int .i64 a3_2] 37 (0, 0))) := ⟨by rw [hW_]; repeat (first | exact BK440.out | refine blk_far ?_ NB440_443.out _ | (with_reducible first | refine blk_drewN ?_ _ | refine blk_drew ?_ | refine blk_alloc ?_ _))⟩
       have n3_ : Aside0 (w31.heap[gb441]? = some (.cells #[.int .i64 x442000_1, .int .i64 x442001_1, .int .i64 x442002_1] 37 (0, 0))) := ⟨by rw [hW_]; repeat (first | exact BK441.out | refine blk_far ?_ NB441_443.out _ | (with_reducible first | refine blk_drewN ?_ _ | refine blk_drew ?_ | refine blk_alloc ?_ _))⟩
       have n4_ : Aside0 (w31.heap[gb442]? = some (.cells #[.int .i64 x443000_1, .int .i64 x443001_1, .int .i64 x443002_1] 37 (0, 0))) := ⟨by rw [hW_]; repeat (first | exact BK442.out | refine blk_far ?_ NB442_443.out _ | (with_reducible first | refine blk_drewN ?_ _ | refine blk_drew ?_ | refine blk_alloc ?_ _))⟩
       have n5_ : Aside0 (w31.heap[gb443]? = some (.cells #[.bool true, .int .i64 a1_1, .int .i64 a1_2] 41 (0, 0))) := ⟨by rw [hW_]; (with_reducible repeat (first | refine blk_drewN ?_ _ | refine blk_drew ?_ | refine blk_alloc ?_ _)); refine blk_put (cs := #[.bool true, .int .i64 a1_1, .int .i64 0]) ?_ 2 _ rfl; (with_reducible repeat (first | refine blk_drewN ?_ _ | refine blk_drew ?_ | refine blk_alloc ?_ _)); refine blk_put (cs := #[.bool true, .int .i64 0, .int .i64 0]) ?_ 1 _ rfl; (with_reducible repeat (first | refine blk_drewN ?_ _ | refine blk_drew ?_ | refine blk_alloc ?_ _)); refine blk_put (cs := #[.bool false, .int .i64 0, .int .i64 0]) ?_ 0 _ rfl; (with_reducible repeat (first | refine blk_drewN ?_ _ | refine blk_drew ?_ | refine blk_alloc ?_ _)); exact BK443.out⟩
       have n6_ : Aside0 (IsS65 w0 w31 g x1000_1 x1001_1 x1002_1 x1003_1) := ⟨by rw [hW_]; repeat (first | (with_reducible first | exact HI0.out | apply IsS65.alloc | apply IsS65.drewN | apply IsS65.drew | apply IsS65.set_0 | apply IsS65.set_1 | apply IsS65.set_2 | apply IsS65.set_3 | refine IsS65.far ?_ NB0_438.out _ | refine IsS65.far ?_ NB0_439.out _ | refine IsS65.far ?_ NB0_440.out _ | refine IsS65.far ?_ NB0_441.out _ | refine IsS65.far ?_ NB0_442.out _ | refine IsS65.far ?_ NB0_443.out _) | exact HI0.out)⟩
       have n7_ : Aside0 (KeepBut w w31 g none) := ⟨by rw [hW_]; repeat (first | (with_reducible first | exact HK.out | apply KeepBut.set_ | apply keep_drewN | apply keep_drew | apply keep_alloc | refine keep_far ?_ GW438.out _ | refine keep_far ?_ GW439.out _ | refine keep_far ?_ GW440.out _ | refine keep_far ?_ GW441.out _ | refine keep_far ?_ GW442.out _ | refine keep_far ?_ GW443.out _) | exact HK.out)⟩
       have n8_ : Aside0 (Below w0.heap.size w0 w31) := ⟨by rw [hW_]; repeat (first | (with_reducible first | exact HB.out | apply below_alloc | apply pw_below_drewN | apply below_drew1 | refine below_set ?_ (IsS65.ge HI0.out) | refine below_set ?_ GE438.out | refine below_set ?_ GE439.out | refine below_set ?_ GE440.out | refine below_set ?_ GE441.out | refine below_set ?_ GE442.out | refine below_set ?_ GE443.out) | exact HB.out)⟩
       (try clear BK438)
       (try clear BK439)
       (try clear BK440)
       (try clear BK441)
       (try clear BK442)
       (try clear BK443)
       (try clear HI0)
       (try clear HK)
       (try clear HB)
       rw [← hW_]
       clear hW_
       have BK438 := n0_
       have BK439 := n1_
       have BK440 := n2_
       have BK441 := n3_
       have BK442 := n4_
       have BK443 := n5_
       have HI0 := n6_
       have HK := n7_
       have HB := n8_
       clear n0_ n1_ n2_ n3_ n4_ n5_ n6_ n7_ n8_
       have n0_ := Aside0.mk (blk_drew BK438.out)
       have n1_ := Aside0.mk (blk_drew BK439.out)
       have n2_ := Aside0.mk (blk_drew BK440.out)
       have n3_ := Aside0.mk (blk_drew BK441.out)
       have n4_ := Aside0.mk (blk_drew BK442.out)
       have n5_ := Aside0.mk (blk_drew BK443.out)
       have n6_ := Aside0.mk (IsS65.drew HI0.out)
       have n7_ := Aside0.mk (keep_drew HK.out)
       have n8_ := Aside0.mk (below_drew1 HB.out)
       clear BK438
       clear BK439
       clear BK440
       clear BK441
       clear BK442
       clear BK443
       clear HI0
       clear HK
       clear HB
       have BK438 := n0_
       have BK439 := n1_
       have BK440 := n2_
       have BK441 := n3_
       have BK442 := n4_
       have BK443 := n5_
       have HI0 := n6_
       have HK := n7_
       have HB := n8_
       clear n0_ n1_ n2_ n3_ n4_ n5_ n6_ n7_ n8_
       refine start_ (n := 24) (S := fun w' => w'.cell? ⟨g, 0, none⟩ = some (.int .i64 x1000_1) ∧ w'.cell? ⟨g, 1, none⟩ = some (.int .i64 x1001_1) ∧ w'.cell? ⟨g, 2, none⟩ = some (.int .i64 x1002_1) ∧ w'.cell? ⟨g, 3, none⟩ = some (.int .i64 x1003_1) ∧ w'.cell? ⟨gb443, 0, none⟩ = some (.bool true) ∧ w'.cell? ⟨gb443, 1, none⟩ = some (.int .i64 a1_1) ∧ w'.cell? ⟨gb443, 2, none⟩ = some (.int .i64 a1_2) ∧ w'.cell? ⟨gb439, 0, none⟩ = some (.int .i64 a2_0) ∧ w'.cell? ⟨gb439, 1, none⟩ = some (.int .i64 a2_1) ∧ w'.cell? ⟨gb439, 2, none⟩ = some (.int .i64 a2_2)) (ds := [23]) (lb_ 24 0) (by kernel_rfl) rfl rfl ⟨(cellS65_0 HI0.out.1), (cellS65_1 HI0.out.1), (cellS65_2 HI0.out.1), (cellS65_3 HI0.out.1), (blk_cell BK443.out 0).trans rfl, (blk_cell BK443.out 1).trans rfl, (blk_cell BK443.out 2).trans rfl, (blk_cell BK439.out 0).trans rfl, (blk_cell BK439.out 1).trans rfl, (blk_cell BK439.out 2).trans rfl⟩ (fun hHeld => ?_); refine with_tabW control_Steer_Step.tab10 control_Steer_Step.bits10 (fun HT_ HW_ => ?_)
       generalize w31.drew = w32 at BK438 BK439 BK440 BK441 BK442 BK443 HI0 HK HB hHeld ⊢
       refine pure_ (i := 0) (N := some 23) (v := ?_) (a' := ?_) (lb_ 24 1) rfl rfl (any_of HT_.out (by kernel_rfl)) (fun _ _ _ h => h) (Or.inl ⟨by rfl, ?_⟩) ?_ ?_; rotate_left; (intro w'; go_simp; with_reducible rfl); rotate_left; (simp only [Act.put, List.setIfInBounds_toArray, List.set_cons_zero, List.set_cons_succ, i64_w, i32_w]; rfl)
       refine pure_ (i := 1) (N := some 24) (v := ?_) (a' := ?_) (lb_ 24 3) rfl rfl (any_of HT_.out (by kernel_rfl)) (fun _ _ _ h => h) (Or.inl ⟨by rfl, ?_⟩) ?_ ?_; rotate_left; (intro w'; go_simp; with_reducible rfl); rotate_left; (simp only [Act.put, List.setIfInBounds_toArray, List.set_cons_zero, List.set_cons_succ, i64_w, i32_w]; rfl)
       refine pure_ (i := 2) (N := some 25) (v := ?_) (a' := ?_) (lb_ 24 7) rfl rfl (any_of HT_.out (by kernel_rfl)) (fun _ _ _ h => h) (Or.inl ⟨by rfl, ?_⟩) ?_ ?_; rotate_left; (intro w'; go_simp; with_reducible rfl); rotate_left; (simp only [Act.put, List.setIfInBounds_toArray, List.set_cons_zero, List.set_cons_succ, i64_w, i32_w]; rfl)
       refine pure_ (i := 3) (N := some 26) (v := ?_) (a' := ?_) (lb_ 24 15) rfl rfl (any_of HT_.out (by kernel_rfl)) (fun _ _ _ h => h) (Or.inl ⟨by rfl, ?_⟩) ?_ ?_; rotate_left; (intro w'; go_simp; with_reducible rfl); rotate_left; (simp only [Act.put, List.setIfInBounds_toArray, List.set_cons_zero, List.set_cons_succ, i64_w, i32_w]; rfl)
       refine pure_ (i := 4) (N := some 27) (v := ?_) (a' := ?_) (lb_ 24 31) rfl rfl (any_of HT_.out (by kernel_rfl)) (fun _ _ _ h => h) (Or.inl ⟨by rfl, ?_⟩) ?_ ?_; rotate_left; (intro w'; go_simp; with_reducible rfl); rotate_left; (simp only [Act.put, List.setIfInBounds_toArray, List.set_cons_zero, List.set_cons_succ, i64_w, i32_w]; rfl)
       refine pure_ (i := 5) (N := some 28) (v := ?_) (a' := ?_) (lb_ 24 63) rfl rfl (any_of HT_.out (by kernel_rfl)) (fun _ _ _ h => h) (Or.inl ⟨by rfl, ?_⟩) ?_ ?_; rotate_left; (intro w'; go_simp; with_reducible rfl); rotate_left; (simp only [Act.put, List.setIfInBounds_toArray, List.set_cons_zero, List.set_cons_succ, i64_w, i32_w]; rfl)
       refine pure_ (i := 6) (N := some 29) (v := ?_) (a' := ?_) (lb_ 24 127) rfl rfl (any_of HT_.out (by kernel_rfl)) (fun _ _ _ h => h) (Or.inl ⟨by rfl, ?_⟩) ?_ ?_; rotate_left; (intro w'; go_simp; with_reducible rfl); rotate_left; (simp only [Act.put, List.setIfInBounds_toArray, List.set_cons_zero, List.set_cons_succ, i64_w, i32_w]; rfl)
       refine pure_ (i := 8) (N := some 31) (v := ?_) (a' := ?_) (lb_ 24 383) rfl rfl (any_of HT_.out (by kernel_rfl)) (fun _ _ _ h => h) (Or.inl ⟨by rfl, ?_⟩) ?_ ?_; rotate_left; (intro w'; go_simp; with_reducible rfl); rotate_left; (simp only [Act.put, List.setIfInBounds_toArray, List.set_cons_zero, List.set_cons_succ, i64_w, i32_w]; rfl)
       refine pure_ (i := 9) (N := some 32) (v := ?_) (a' := ?_) (lb_ 24 895) rfl rfl (any_of HT_.out (by kernel_rfl)) (fun _ _ _ h => h) (Or.inl ⟨by rfl, ?_⟩) ?_ ?_; rotate_left; (intro w'; go_simp; with_reducible rfl); rotate_left; (simp only [Act.put, List.setIfInBounds_toArray, List.set_cons_zero, List.set_cons_succ, i64_w, i32_w]; rfl)
       refine pure_ (i := 11) (N := some 34) (v := ?_) (a' := ?_) (lb_ 24 2943) rfl rfl (any_of HT_.out (by kernel_rfl)) (fun _ _ _ h => h) (Or.inl ⟨by rfl, ?_⟩) ?_ ?_; rotate_left; (intro w'; go_simp; with_reducible rfl); rotate_left; (simp only [Act.put, List.setIfInBounds_toArray, List.set_cons_zero, List.set_cons_succ, i64_w, i32_w]; rfl)
       refine pure_ (i := 12) (N := some 35) (v := ?_) (a' := ?_) (lb_ 24 7039) rfl rfl (any_of HT_.out (by kernel_rfl)) (fun _ _ _ h => h) (Or.inl ⟨by rfl, ?_⟩) ?_ ?_; rotate_left; (intro w'; go_simp; with_reducible rfl); rotate_left; (simp only [Act.put, List.setIfInBounds_toArray, List.set_cons_zero, List.set_cons_succ, i64_w, i32_w]; rfl)
       refine pure_ (i := 15) (N := some 38) (v := ?_) (a' := ?_) (lb_ 24 39807) rfl rfl (any_of HT_.out (by kernel_rfl)) (fun _ _ _ h => h) (Or.inl ⟨by rfl, ?_⟩) ?_ ?_; rotate_left; (intro w'; go_simp; with_reducible rfl); rotate_left; (simp only [Act.put, List.setIfInBounds_toArray, List.set_cons_zero, List.set_cons_succ, i64_w, i32_w]; rfl)
       refine pure_ (i := 16) (N := some 39) (v := ?_) (a' := ?_) (lb_ 24 105343) rfl rfl (any_of HT_.out (by kernel_rfl)) (fun _ _ _ h => h) (Or.inl ⟨by rfl, ?_⟩) ?_ ?_; rotate_left; (intro w'; go_simp; with_reducible rfl); rotate_left; (simp only [Act.put, List.setIfInBounds_toArray, List.set_cons_zero, List.set_cons_succ, i64_w, i32_w]; rfl)
       refine pure_ (i := 17) (N := some 40) (v := ?_) (a' := ?_) (lb_ 24 236415) rfl rfl (any_of HT_.out (by kernel_rfl)) (fun _ _ _ h => h) (Or.inl ⟨by rfl, ?_⟩) ?_ ?_; rotate_left; (intro w'; go_simp; with_reducible rfl); rotate_left; (simp only [Act.put, List.setIfInBounds_toArray, List.set_cons_zero, List.set_cons_succ, i64_w, i32_w]; rfl)
       refine pure_ (i := 20) (N := some 43) (v := ?_) (a' := ?_) (lb_ 24 1284991) rfl rfl (any_of HT_.out (by kernel_rfl)) (fun _ _ _ h => h) (Or.inl ⟨by rfl, ?_⟩) ?_ ?_; rotate_left; (intro w'; go_simp; with_reducible rfl); rotate_left; (simp only [Act.put, List.setIfInBounds_toArray, List.set_cons_zero, List.set_cons_succ, i64_w, i32_w]; rfl)
       refine pure_ (i := 21) (N := some 44) (v := ?_) (a' := ?_) (lb_ 24 3382143) rfl rfl (any_of HT_.out (by kernel_rfl)) (fun _ _ _ h => h) (Or.inl ⟨by rfl, ?_⟩) ?_ ?_; rotate_left; (intro w'; go_simp; with_reducible rfl); rotate_left; (simp only [Act.put, List.setIfInBounds_toArray, List.set_cons_zero, List.set_cons_succ, i64_w, i32_w]; rfl)
       refine take_ (i := 7) (N := some 30) (v := ?_) (a' := ?_) (lb_ 24 3382271) rfl rfl (take_ofW HT_.out HW_.out (by kernel_rfl)) (fun _ _ _ h => h) (Or.inl ⟨by rfl, ?_⟩) hHeld ?_ ?_; rotate_left; (rintro w' ⟨s0, s1, s2, s3, s4, s5, s6, s7, s8, s9⟩; go_simp; with_reducible rfl); rotate_left; (simp only [Act.put, List.setIfInBounds_toArray, List.set_cons_zero, List.set_cons_succ, i64_w, i32_w]; rfl)
       refine take_ (i := 10) (N := some 33) (v := ?_) (a' := ?_) (lb_ 24 3383295) rfl rfl (take_ofW HT_.out HW_.out (by kernel_rfl)) (fun _ _ _ h => h) (Or.inl ⟨by rfl, ?_⟩) hHeld ?_ ?_; rotate_left; (rintro w' ⟨s0, s1, s2, s3, s4, s5, s6, s7, s8, s9⟩; go_simp; with_reducible rfl); rotate_left; (simp only [Act.put, List.setIfInBounds_toArray, List.set_cons_zero, List.set_cons_succ, i64_w, i32_w]; rfl)
       refine take_ (i := 13) (N := some 36) (v := ?_) (a' := ?_) (lb_ 24 3391487) rfl rfl (take_ofW HT_.out HW_.out (by kernel_rfl)) (fun _ _ _ h => h) (Or.inl ⟨by rfl, ?_⟩) hHeld ?_ ?_; rotate_left; (rintro w' ⟨s0, s1, s2, s3, s4, s5, s6, s7, s8, s9⟩; go_simp; with_reducible rfl); rotate_left; (simp only [Act.put, List.setIfInBounds_toArray, List.set_cons_zero, List.set_cons_succ, i64_w, i32_w]; rfl)
       refine take_ (i := 18) (N := some 41) (v := ?_) (a' := ?_) (lb_ 24 3653631) rfl rfl (take_ofW HT_.out HW_.out (by kernel_rfl)) (fun _ _ _ h => h) (Or.inl ⟨by rfl, ?_⟩) hHeld ?_ ?_; rotate_left; (rintro w' ⟨s0, s1, s2, s3, s4, s5, s6, s7, s8, s9⟩; go_simp; with_reducible rfl); rotate_left; (simp only [Act.put, List.setIfInBounds_toArray, List.set_cons_zero, List.set_cons_succ, i64_w, i32_w]; rfl)
       refine one_ (i := 14) (N := some 37) (lb_ 24 3670015) rfl rfl (one_of HT_.out (by kernel_rfl)) (by decide) (fun K hK => ?_)
       refine goesv_ Try.func40 (by kernel_rfl) rfl #[.pointer (some ⟨g, 0, none⟩), .agg #[.bool true, .int .i64 a1_1, .int .i64 a1_2], .int .i64 a2_0] (by rfl) rfl rfl rfl (by (try simp only [List.map_toArray, List.map_cons, List.map_nil]); first | done | rfl | (simp only [List.length_drop, List.length_take]; rfl)) ?_
       with_reducible refine (control_Steer_place.calls k1 g x1000_1 x1001_1 x1002_1 x1003_1 true a1_1 a1_2 a2_0 t444 x1000_1 x1001_1 x1002_1 x1003_1 w0 _ ?side1 ?side2 A19.out).mono ?_
       (case side1 => repeat (first | (with_reducible first | exact HI0.out | apply IsS65.alloc | apply IsS65.drewN | apply IsS65.drew | apply IsS65.set_0 | apply IsS65.set_1 | apply IsS65.set_2 | apply IsS65.set_3 | refine IsS65.far ?_ NB0_438.out _ | refine IsS65.far ?_ NB0_439.out _ | refine IsS65.far ?_ NB0_440.out _ | refine IsS65.far ?_ NB0_441.out _ | refine IsS65.far ?_ NB0_442.out _ | refine IsS65.far ?_ NB0_443.out _) | exact HI0.out))
       (case side2 => repeat (first | (with_reducible first | exact HB.out | apply below_alloc | apply pw_below_drewN | apply below_drew1 | refine below_set ?_ (IsS65.ge HI0.out) | refine below_set ?_ GE438.out | refine below_set ?_ GE439.out | refine below_set ?_ GE440.out | refine below_set ?_ GE441.out | refine below_set ?_ GE442.out | refine below_set ?_ GE443.out) | exact HB.out))
       rintro e w33 ⟨rfl, hi, hb, hk⟩
       refine ⟨_, rfl, ?_⟩
       have n0_ := Aside0.mk (KeepBut.blk hk BK438.out NB438_0.out (by simp))
       have n1_ := Aside0.mk (KeepBut.blk hk BK439.out NB439_0.out (by simp))
       have n2_ := Aside0.mk (KeepBut.blk hk BK440.out NB440_0.out (by simp))
       have n3_ := Aside0.mk (KeepBut.blk hk BK441.out NB441_0.out (by simp))
       have n4_ := Aside0.mk (KeepBut.blk hk BK442.out NB442_0.out (by simp))
       have n5_ := Aside0.mk (KeepBut.blk hk BK443.out NB443_0.out (by simp))
       have n6_ := Aside0.mk (KeepBut.trans HK.out hk (.inl rfl))
       have n7_ := Aside0.mk (hb)
       have n8_ := Aside0.mk (hi)
       clear BK438
       clear BK439
       clear BK440
       clear BK441
       clear BK442
       clear BK443
       clear HK
       clear HB
       clear HI0
       have BK438 := n0_
       have BK439 := n1_
       have BK440 := n2_
       have BK441 := n3_
       have BK442 := n4_
       have BK443 := n5_
       have HK := n6_
       have HB := n7_
       have HI0 := n8_
       clear n0_ n1_ n2_ n3_ n4_ n5_ n6_ n7_ n8_
       (try clear hb)
       (try clear hb2)
       (try clear hk)
       (try clear hi)
       refine hK.out _ _ ⟨(cellS65_0 HI0.out.1), (cellS65_1 HI0.out.1), (cellS65_2 HI0.out.1), (cellS65_3 HI0.out.1), (blk_cell BK443.out 0).trans rfl, (blk_cell BK443.out 1).trans rfl, (blk_cell BK443.out 2).trans rfl, (blk_cell BK439.out 0).trans rfl, (blk_cell BK439.out 1).trans rfl, (blk_cell BK439.out 2).trans rfl⟩ (fun hHeld => ?_)
       clear hK K
       refine norm_ (a' := ?_) ?_ ?_
       rotate_left
       ·show Act.put _ (some 37) _ = _
        simp only [Act.put, List.setIfInBounds_toArray, List.set_cons_zero, List.set_cons_succ, i64_w, i32_w]
        rfl
       refine one_ (i := 19) (N := some 42) (lb_ 24 4194303) rfl rfl (one_of HT_.out (by kernel_rfl)) (by decide) (fun K hK => ?_)
       refine goes_ Try.func41 (by kernel_rfl) rfl #[.int .i64 x1001_1, .int .i64 t444, .int .i64 x1000_1] (by rfl) rfl rfl (by (try simp only [List.map_toArray, List.map_cons, List.map_nil]); first | done | rfl | (simp only [List.length_drop, List.length_take]; rfl)) ?_
       with_reducible refine (fix_Slew.calls k1 x1001_1 t444 x1000_1 t449 _ A20.out).mono ?_
       rintro e w34 ⟨rfl, hb⟩
       refine ⟨_, rfl, ?_⟩
       have n0_ := Aside0.mk (blk_below BK438.out hb)
       have n1_ := Aside0.mk (blk_below BK439.out hb)
       have n2_ := Aside0.mk (blk_below BK440.out hb)
       have n3_ := Aside0.mk (blk_below BK441.out hb)
       have n4_ := Aside0.mk (blk_below BK442.out hb)
       have n5_ := Aside0.mk (IsS65.below HI0.out hb)
       have n6_ := Aside0.mk (blk_below BK443.out hb)
       have n7_ := Aside0.mk (KeepBut.trans HK.out (KeepBut.of_below hb g none) (.inl rfl))
       have n8_ := Aside0.mk (below_step HB.out hb)
       clear BK438
       clear BK439
       clear BK440
       clear BK441
       clear BK442
       clear HI0
       clear BK443
       clear HK
       clear HB
       have BK438 := n0_
       have BK439 := n1_
       have BK440 := n2_
       have BK441 := n3_
       have BK442 := n4_
       have HI0 := n5_
       have BK443 := n6_
       have HK := n7_
       have HB := n8_
       clear n0_ n1_ n2_ n3_ n4_ n5_ n6_ n7_ n8_
       (try clear hb)
       (try clear hb2)
       (try clear hk)
       (try clear hi)
       refine hK.out _ _ ⟨(cellS65_0 HI0.out.1), (cellS65_1 HI0.out.1), (cellS65_2 HI0.out.1), (cellS65_3 HI0.out.1), (blk_cell BK443.out 0).trans rfl, (blk_cell BK443.out 1).trans rfl, (blk_cell BK443.out 2).trans rfl, (blk_cell BK439.out 0).trans rfl, (blk_cell BK439.out 1).trans rfl, (blk_cell BK439.out 2).trans rfl⟩ (fun hHeld => ?_)
       clear hK K
       refine norm_ (a' := ?_) ?_ ?_
       rotate_left
       ·show Act.put _ (some 42) _ = _
        simp only [Act.put, List.setIfInBounds_toArray, List.set_cons_zero, List.set_cons_succ, i64_w, i32_w]
        rfl
       refine pure_ (i := 22) (N := some 45) (v := ?_) (a' := ?_) (lb_ 24 8388607) rfl rfl (any_of HT_.out (by kernel_rfl)) (fun _ _ _ h => h) (Or.inl ⟨by rfl, ?_⟩) ?_ ?_; rotate_left; (intro w'; go_simp; with_reducible rfl); rotate_left; (simp only [Act.put, List.setIfInBounds_toArray, List.set_cons_zero, List.set_cons_succ, i64_w, i32_w]; rfl)
       refine last_ (i := 23) (N := none) (lb_ 24 16777215) rfl rfl (one_of HT_.out (by kernel_rfl)) (by decide) (fun K hK => ?_)
       have hs35 := cellS65_1 HI0.out.1
       have hfs35 := blk_frozen HI0.out.1 1
       have hns35_0 := NB438_0.out
       have hns35_1 := NB439_0.out
       have hns35_2 := NB440_0.out
       have hns35_3 := NB441_0.out
       have hns35_4 := NB442_0.out
       have hns35_5 := NB443_0.out
       have hms35_0 := NB0_438.out
       have hms35_1 := NB0_439.out
       have hms35_2 := NB0_440.out
       have hms35_3 := NB0_441.out
       have hms35_4 := NB0_442.out
       have hms35_5 := NB0_443.out
       refine skip_ (w1 := ?_) (by rfl) rfl ?_ ?_
       rotate_left
       ·go_simp
        rfl
       refine hK.out _ _ ?_
       clear hK K
       refine done_ (done_of HT_.out (by kernel_rfl)) ?_
       try go_wp2
       (repeat (rw [drewN_self w34]; generalize hq_ : World.drewN w34 _ = w34; have n0_ := Aside0.mk (blk_at hq_ BK438.out); have n1_ := Aside0.mk (blk_at hq_ BK439.out); have n2_ := Aside0.mk (blk_at hq_ BK440.out); have n3_ := Aside0.mk (blk_at hq_ BK441.out); have n4_ := Aside0.mk (blk_at hq_ BK442.out); have n5_ := Aside0.mk (blk_at hq_ BK443.out); have n6_ := Aside0.mk (IsS65.at_ hq_ HI0.out); have n7_ := Aside0.mk (keep_at hq_ HK.out); have n8_ := Aside0.mk (below_at hq_ HB.out); clear hq_ BK438 BK439 BK440 BK441 BK442 BK443 HI0 HK HB; have BK438 := n0_; have BK439 := n1_; have BK440 := n2_; have BK441 := n3_; have BK442 := n4_; have BK443 := n5_; have HI0 := n6_; have HK := n7_; have HB := n8_; clear n0_ n1_ n2_ n3_ n4_ n5_ n6_ n7_ n8_))
       obtain ⟨w36, hW_⟩ : ∃ W_, W_ = (w34.setCell ⟨g, 1, none⟩ (.int .i64 t449)) := ⟨_, rfl⟩
       have n0_ : Aside0 (w36.heap[gb438]? = some (.cells #[.bool true, .int .i64 a1_1, .int .i64 a1_2, .bool a1_3, .int .i64 a1_4, .int .i64 a1_5, .bool a1_6, .int .i64 a1_7, .int .i64 a1_8] 42 (0, 0))) := ⟨by rw [hW_]; repeat (first | exact BK438.out | refine blk_far ?_ NB438_0.out _ | (with_reducible first | refine blk_drewN ?_ _ | refine blk_drew ?_ | refine blk_alloc ?_ _))⟩
       have n1_ : Aside0 (w36.heap[gb439]? = some (.cells #[.int .i64 a2_0, .int .i64 a2_1, .int .i64 a2_2] 37 (0, 0))) := ⟨by rw [hW_]; repeat (first | exact BK439.out | refine blk_far ?_ NB439_0.out _ | (with_reducible first | refine blk_drewN ?_ _ | refine blk_drew ?_ | refine blk_alloc ?_ _))⟩
       have n2_ : Aside0 (w36.heap[gb440]? = some (.cells #[.int .i64 a3_0, .int .i64 a3_1, .int .i64 a3_2] 37 (0, 0))) := ⟨by rw [hW_]; repeat (first | exact BK440.out | refine blk_far ?_ NB440_0.out _ | (with_reducible first | refine blk_drewN ?_ _ | refine blk_drew ?_ | refine blk_alloc ?_ _))⟩
       have n3_ : Aside0 (w36.heap[gb441]? = some (.cells #[.int .i64 x442000_1, .int .i64 x442001_1, .int .i64 x442002_1] 37 (0, 0))) := ⟨by rw [hW_]; repeat (first | exact BK441.out | refine blk_far ?_ NB441_0.out _ | (with_reducible first | refine blk_drewN ?_ _ | refine blk_drew ?_ | refine blk_alloc ?_ _))⟩
       have n4_ : Aside0 (w36.heap[gb442]? = some (.cells #[.int .i64 x443000_1, .int .i64 x443001_1, .int .i64 x443002_1] 37 (0, 0))) := ⟨by rw [hW_]; repeat (first | exact BK442.out | refine blk_far ?_ NB442_0.out _ | (with_reducible first | refine blk_drewN ?_ _ | refine blk_drew ?_ | refine blk_alloc ?_ _))⟩
       have n5_ : Aside0 (w36.heap[gb443]? = some (.cells #[.bool true, .int .i64 a1_1, .int .i64 a1_2] 41 (0, 0))) := ⟨by rw [hW_]; repeat (first | exact BK443.out | refine blk_far ?_ NB443_0.out _ | (with_reducible first | refine blk_drewN ?_ _ | refine blk_drew ?_ | refine blk_alloc ?_ _))⟩
       have n6_ : Aside0 (IsS65 w0 w36 g x1000_1 t449 x1002_1 x1003_1) := ⟨by rw [hW_]; repeat (first | (with_reducible first | exact HI0.out | apply IsS65.alloc | apply IsS65.drewN | apply IsS65.drew | apply IsS65.set_0 | apply IsS65.set_1 | apply IsS65.set_2 | apply IsS65.set_3 | refine IsS65.far ?_ NB0_438.out _ | refine IsS65.far ?_ NB0_439.out _ | refine IsS65.far ?_ NB0_440.out _ | refine IsS65.far ?_ NB0_441.out _ | refine IsS65.far ?_ NB0_442.out _ | refine IsS65.far ?_ NB0_443.out _) | exact HI0.out)⟩
       have n7_ : Aside0 (KeepBut w w36 g none) := ⟨by rw [hW_]; repeat (first | (with_reducible first | exact HK.out | apply KeepBut.set_ | apply keep_drewN | apply keep_drew | apply keep_alloc | refine keep_far ?_ GW438.out _ | refine keep_far ?_ GW439.out _ | refine keep_far ?_ GW440.out _ | refine keep_far ?_ GW441.out _ | refine keep_far ?_ GW442.out _ | refine keep_far ?_ GW443.out _) | exact HK.out)⟩
       have n8_ : Aside0 (Below w0.heap.size w0 w36) := ⟨by rw [hW_]; repeat (first | (with_reducible first | exact HB.out | apply below_alloc | apply pw_below_drewN | apply below_drew1 | refine below_set ?_ (IsS65.ge HI0.out) | refine below_set ?_ GE438.out | refine below_set ?_ GE439.out | refine below_set ?_ GE440.out | refine below_set ?_ GE441.out | refine below_set ?_ GE442.out | refine below_set ?_ GE443.out) | exact HB.out)⟩
       (try clear BK438)
       (try clear BK439)
       (try clear BK440)
       (try clear BK441)
       (try clear BK442)
       (try clear BK443)
       (try clear HI0)
       (try clear HK)
       (try clear HB)
       rw [← hW_]
       clear hW_
       have BK438 := n0_
       have BK439 := n1_
       have BK440 := n2_
       have BK441 := n3_
       have BK442 := n4_
       have BK443 := n5_
       have HI0 := n6_
       have HK := n7_
       have HB := n8_
       clear n0_ n1_ n2_ n3_ n4_ n5_ n6_ n7_ n8_
       have n0_ := Aside0.mk (blk_drew BK438.out)
       have n1_ := Aside0.mk (blk_drew BK439.out)
       have n2_ := Aside0.mk (blk_drew BK440.out)
       have n3_ := Aside0.mk (blk_drew BK441.out)
       have n4_ := Aside0.mk (blk_drew BK442.out)
       have n5_ := Aside0.mk (blk_drew BK443.out)
       have n6_ := Aside0.mk (IsS65.drew HI0.out)
       have n7_ := Aside0.mk (keep_drew HK.out)
       have n8_ := Aside0.mk (below_drew1 HB.out)
       clear BK438
       clear BK439
       clear BK440
       clear BK441
       clear BK442
       clear BK443
       clear HI0
       clear HK
       clear HB
       have BK438 := n0_
       have BK439 := n1_
       have BK440 := n2_
       have BK441 := n3_
       have BK442 := n4_
       have BK443 := n5_
       have HI0 := n6_
       have HK := n7_
       have HB := n8_
       clear n0_ n1_ n2_ n3_ n4_ n5_ n6_ n7_ n8_
       refine start_ (n := 14) (S := fun w' => w'.cell? ⟨g, 0, none⟩ = some (.int .i64 x1000_1) ∧ w'.cell? ⟨g, 1, none⟩ = some (.int .i64 t449) ∧ w'.cell? ⟨g, 2, none⟩ = some (.int .i64 x1002_1) ∧ w'.cell? ⟨g, 3, none⟩ = some (.int .i64 x1003_1) ∧ w'.cell? ⟨gb440, 0, none⟩ = some (.int .i64 a3_0) ∧ w'.cell? ⟨gb440, 1, none⟩ = some (.int .i64 a3_1) ∧ w'.cell? ⟨gb440, 2, none⟩ = some (.int .i64 a3_2)) (ds := []) (lb_ 14 0) (by kernel_rfl) rfl rfl ⟨(cellS65_0 HI0.out.1), (cellS65_1 HI0.out.1), (cellS65_2 HI0.out.1), (cellS65_3 HI0.out.1), (blk_cell BK440.out 0).trans rfl, (blk_cell BK440.out 1).trans rfl, (blk_cell BK440.out 2).trans rfl⟩ (fun hHeld => ?_); refine with_tabW control_Steer_Step.tab11 control_Steer_Step.bits11 (fun HT_ HW_ => ?_)
       generalize w36.drew = w37 at BK438 BK439 BK440 BK441 BK442 BK443 HI0 HK HB hHeld ⊢
       refine pure_ (i := 0) (N := some 46) (v := ?_) (a' := ?_) (lb_ 14 1) rfl rfl (any_of HT_.out (by kernel_rfl)) (fun _ _ _ h => h) (Or.inl ⟨by rfl, ?_⟩) ?_ ?_; rotate_left; (intro w'; go_simp; with_reducible rfl); rotate_left; (simp only [Act.put, List.setIfInBounds_toArray, List.set_cons_zero, List.set_cons_succ, i64_w, i32_w]; rfl)
       refine pure_ (i := 1) (N := some 47) (v := ?_) (a' := ?_) (lb_ 14 3) rfl rfl (any_of HT_.out (by kernel_rfl)) (fun _ _ _ h => h) (Or.inl ⟨by rfl, ?_⟩) ?_ ?_; rotate_left; (intro w'; go_simp; with_reducible rfl); rotate_left; (simp only [Act.put, List.setIfInBounds_toArray, List.set_cons_zero, List.set_cons_succ, i64_w, i32_w]; rfl)
       refine pure_ (i := 2) (N := some 48) (v := ?_) (a' := ?_) (lb_ 14 7) rfl rfl (any_of HT_.out (by kernel_rfl)) (fun _ _ _ h => h) (Or.inl ⟨by rfl, ?_⟩) ?_ ?_; rotate_left; (intro w'; go_simp; with_reducible rfl); rotate_left; (simp only [Act.put, List.setIfInBounds_toArray, List.set_cons_zero, List.set_cons_succ, i64_w, i32_w]; rfl)
       refine pure_ (i := 3) (N := some 49) (v := ?_) (a' := ?_) (lb_ 14 15) rfl rfl (any_of HT_.out (by kernel_rfl)) (fun _ _ _ h => h) (Or.inl ⟨by rfl, ?_⟩) ?_ ?_; rotate_left; (intro w'; go_simp; with_reducible rfl); rotate_left; (simp only [Act.put, List.setIfInBounds_toArray, List.set_cons_zero, List.set_cons_succ, i64_w, i32_w]; rfl)
       refine pure_ (i := 4) (N := some 50) (v := ?_) (a' := ?_) (lb_ 14 31) rfl rfl (any_of HT_.out (by kernel_rfl)) (fun _ _ _ h => h) (Or.inl ⟨by rfl, ?_⟩) ?_ ?_; rotate_left; (intro w'; go_simp; with_reducible rfl); rotate_left; (simp only [Act.put, List.setIfInBounds_toArray, List.set_cons_zero, List.set_cons_succ, i64_w, i32_w]; rfl)
       refine pure_ (i := 5) (N := some 51) (v := ?_) (a' := ?_) (lb_ 14 63) rfl rfl (any_of HT_.out (by kernel_rfl)) (fun _ _ _ h => h) (Or.inl ⟨by rfl, ?_⟩) ?_ ?_; rotate_left; (intro w'; go_simp; with_reducible rfl); rotate_left; (simp only [Act.put, List.setIfInBounds_toArray, List.set_cons_zero, List.set_cons_succ, i64_w, i32_w]; rfl)
       refine pure_ (i := 7) (N := some 53) (v := ?_) (a' := ?_) (lb_ 14 191) rfl rfl (any_of HT_.out (by kernel_rfl)) (fun _ _ _ h => h) (Or.inl ⟨by rfl, ?_⟩) ?_ ?_; rotate_left; (intro w'; go_simp; with_reducible rfl); rotate_left; (simp only [Act.put, List.setIfInBounds_toArray, List.set_cons_zero, List.set_cons_succ, i64_w, i32_w]; rfl)
       refine pure_ (i := 8) (N := some 54) (v := ?_) (a' := ?_) (lb_ 14 447) rfl rfl (any_of HT_.out (by kernel_rfl)) (fun _ _ _ h => h) (Or.inl ⟨by rfl, ?_⟩) ?_ ?_; rotate_left; (intro w'; go_simp; with_reducible rfl); rotate_left; (simp only [Act.put, List.setIfInBounds_toArray, List.set_cons_zero, List.set_cons_succ, i64_w, i32_w]; rfl)
       refine take_ (i := 6) (N := some 52) (v := ?_) (a' := ?_) (lb_ 14 511) rfl rfl (take_ofW HT_.out HW_.out (by kernel_rfl)) (fun _ _ _ h => h) (Or.inl ⟨by rfl, ?_⟩) hHeld ?_ ?_; rotate_left; (rintro w' ⟨s0, s1, s2, s3, s4, s5, s6⟩; go_simp; with_reducible rfl); rotate_left; (simp only [Act.put, List.setIfInBounds_toArray, List.set_cons_zero, List.set_cons_succ, i64_w, i32_w]; rfl)
       refine take_ (i := 9) (N := some 55) (v := ?_) (a' := ?_) (lb_ 14 1023) rfl rfl (take_ofW HT_.out HW_.out (by kernel_rfl)) (fun _ _ _ h => h) (Or.inl ⟨by rfl, ?_⟩) hHeld ?_ ?_; rotate_left; (rintro w' ⟨s0, s1, s2, s3, s4, s5, s6⟩; go_simp; with_reducible rfl); rotate_left; (simp only [Act.put, List.setIfInBounds_toArray, List.set_cons_zero, List.set_cons_succ, i64_w, i32_w]; rfl)
       refine one_ (i := 10) (N := some 56) (lb_ 14 2047) rfl rfl (one_of HT_.out (by kernel_rfl)) (by decide) (fun K hK => ?_)
       refine goes_ Try.func27 (by kernel_rfl) rfl #[.int .i64 t449, .int .i64 a3_0] (by rfl) rfl rfl (by (try simp only [List.map_toArray, List.map_cons, List.map_nil]); first | done | rfl | (simp only [List.length_drop, List.length_take]; rfl)) ?_
       with_reducible refine (fix_Sub.calls k1 t449 a3_0 t450 _ A21.out).mono ?_
       rintro e w' ⟨rfl, ⟨nd, rfl⟩⟩
       refine ⟨_, rfl, ?_⟩
       refine hK.out _ _ ⟨(cellS65_0 HI0.out.1), (cellS65_1 HI0.out.1), (cellS65_2 HI0.out.1), (cellS65_3 HI0.out.1), (blk_cell BK440.out 0).trans rfl, (blk_cell BK440.out 1).trans rfl, (blk_cell BK440.out 2).trans rfl⟩ (fun hHeld => ?_)
       clear hK K
       refine norm_ (a' := ?_) ?_ ?_
       rotate_left
       ·show Act.put _ (some 56) _ = _
        simp only [Act.put, List.setIfInBounds_toArray, List.set_cons_zero, List.set_cons_succ, i64_w, i32_w]
        rfl
       refine one_ (i := 11) (N := some 57) (lb_ 14 4095) rfl rfl (one_of HT_.out (by kernel_rfl)) (by decide) (fun K hK => ?_)
       refine goes_ Try.func33 (by kernel_rfl) rfl #[.int .i64 t450, .int .i64 (-64), .int .i64 64] (by rfl) rfl rfl (by (try simp only [List.map_toArray, List.map_cons, List.map_nil]); first | done | rfl | (simp only [List.length_drop, List.length_take]; rfl)) ?_
       with_reducible refine (fix_Clamp.calls t450 (-64) 64 t451 _ A22.out).mono ?_
       rintro e w' ⟨rfl, ⟨nd, rfl⟩⟩
       refine ⟨_, rfl, ?_⟩
       refine hK.out _ _ ⟨(cellS65_0 HI0.out.1), (cellS65_1 HI0.out.1), (cellS65_2 HI0.out.1), (cellS65_3 HI0.out.1), (blk_cell BK440.out 0).trans rfl, (blk_cell BK440.out 1).trans rfl, (blk_cell BK440.out 2).trans rfl⟩ (fun hHeld => ?_)
       clear hK K
       refine norm_ (a' := ?_) ?_ ?_
       rotate_left
       ·show Act.put _ (some 57) _ = _
        simp only [Act.put, List.setIfInBounds_toArray, List.set_cons_zero, List.set_cons_succ, i64_w, i32_w]
        rfl
       refine pure_ (i := 12) (N := some 58) (v := ?_) (a' := ?_) (lb_ 14 8191) rfl rfl (any_of HT_.out (by kernel_rfl)) (fun _ _ _ h => h) (Or.inl ⟨by rfl, ?_⟩) ?_ ?_; rotate_left; (intro w'; go_simp; with_reducible rfl); rotate_left; (simp only [Act.put, List.setIfInBounds_toArray, List.set_cons_zero, List.set_cons_succ, i64_w, i32_w]; rfl)
       refine one_ (i := 13) (N := none) (lb_ 14 16383) rfl rfl (one_of HT_.out (by kernel_rfl)) (by decide) (fun K hK => ?_)
       have hs38 : w37.cell? ⟨gb442, 0, none⟩ = some (.int .i64 x443000_1) := (blk_cell BK442.out 0).trans rfl
       have hfs38 := blk_frozen BK442.out 0
       have hns38_0 := NB438_442.out
       have hns38_1 := NB439_442.out
       have hns38_2 := NB440_442.out
       have hns38_3 := NB441_442.out
       have hns38_5 := NB443_442.out
       have hms38_0 := NB442_438.out
       have hms38_1 := NB442_439.out
       have hms38_2 := NB442_440.out
       have hms38_3 := NB442_441.out
       have hms38_5 := NB442_443.out
       refine skip_ (w1 := ?_) (by rfl) rfl ?_ ?_
       rotate_left
       ·go_simp
        rfl
       refine hK.out _ _ ⟨((cell_far (p := ⟨gb442, _, none⟩) NB0_442.out _).trans (hHeld.1)), ((cell_far (p := ⟨gb442, _, none⟩) NB0_442.out _).trans (hHeld.2.1)), ((cell_far (p := ⟨gb442, _, none⟩) NB0_442.out _).trans (hHeld.2.2.1)), ((cell_far (p := ⟨gb442, _, none⟩) NB0_442.out _).trans (hHeld.2.2.2.1)), ((cell_far (p := ⟨gb442, _, none⟩) NB440_442.out _).trans (hHeld.2.2.2.2.1)), ((cell_far (p := ⟨gb442, _, none⟩) NB440_442.out _).trans (hHeld.2.2.2.2.2.1)), ((cell_far (p := ⟨gb442, _, none⟩) NB440_442.out _).trans (hHeld.2.2.2.2.2.2))⟩ (fun hHeld => ?_)
       clear hK K
       refine done_ (done_of HT_.out (by kernel_rfl)) ?_
       try go_wp2
       go_roundg k1
       case measure => have := HK1.out; omega
       case rel => exact ⟨(1), (x1000_1), (t449), (x1002_1), (x1003_1), (x442000_1), (x442001_1), (x442002_1), (t451), (x443001_1), (x443002_1), (by first | rfl | (simp; done) | (simp [*]; done)), H', ⟨by have := HK1.out; omega⟩, ⟨by (with_reducible repeat (first | refine blk_drewN ?_ _ | refine blk_drew ?_ | refine blk_alloc ?_ _)); refine blk_far ?_ NB438_442.out _; (with_reducible repeat (first | refine blk_drewN ?_ _ | refine blk_drew ?_ | refine blk_alloc ?_ _)); exact BK438.out⟩, ⟨by (with_reducible repeat (first | refine blk_drewN ?_ _ | refine blk_drew ?_ | refine blk_alloc ?_ _)); refine blk_far ?_ NB439_442.out _; (with_reducible repeat (first | refine blk_drewN ?_ _ | refine blk_drew ?_ | refine blk_alloc ?_ _)); exact BK439.out⟩, ⟨by (with_reducible repeat (first | refine blk_drewN ?_ _ | refine blk_drew ?_ | refine blk_alloc ?_ _)); refine blk_far ?_ NB440_442.out _; (with_reducible repeat (first | refine blk_drewN ?_ _ | refine blk_drew ?_ | refine blk_alloc ?_ _)); exact BK440.out⟩, ⟨by (with_reducible repeat (first | refine blk_drewN ?_ _ | refine blk_drew ?_ | refine blk_alloc ?_ _)); refine blk_far ?_ NB441_442.out _; (with_reducible repeat (first | refine blk_drewN ?_ _ | refine blk_drew ?_ | refine blk_alloc ?_ _)); exact BK441.out⟩, ⟨by (with_reducible repeat (first | refine blk_drewN ?_ _ | refine blk_drew ?_ | refine blk_alloc ?_ _)); refine blk_put (cs := #[.int .i64 x443000_1, .int .i64 x443001_1, .int .i64 x443002_1]) ?_ 0 _ rfl; (with_reducible repeat (first | refine blk_drewN ?_ _ | refine blk_drew ?_ | refine blk_alloc ?_ _)); exact BK442.out⟩, ⟨by repeat (first | (with_reducible first | exact HI0.out | apply IsS65.alloc | apply IsS65.drewN | apply IsS65.drew | apply IsS65.set_0 | apply IsS65.set_1 | apply IsS65.set_2 | apply IsS65.set_3 | refine IsS65.far ?_ NB0_438.out _ | refine IsS65.far ?_ NB0_439.out _ | refine IsS65.far ?_ NB0_440.out _ | refine IsS65.far ?_ NB0_441.out _ | refine IsS65.far ?_ NB0_442.out _ | refine IsS65.far ?_ NB0_443.out _) | exact HI0.out)⟩, ⟨by repeat (first | (with_reducible first | exact HK.out | apply KeepBut.set_ | apply keep_drewN | apply keep_drew | apply keep_alloc | refine keep_far ?_ GW438.out _ | refine keep_far ?_ GW439.out _ | refine keep_far ?_ GW440.out _ | refine keep_far ?_ GW441.out _ | refine keep_far ?_ GW442.out _ | refine keep_far ?_ GW443.out _) | exact HK.out)⟩, ⟨by repeat (first | (with_reducible first | exact HB.out | apply below_alloc | apply pw_below_drewN | apply below_drew1 | refine below_set ?_ (IsS65.ge HI0.out) | refine below_set ?_ GE438.out | refine below_set ?_ GE439.out | refine below_set ?_ GE440.out | refine below_set ?_ GE441.out | refine below_set ?_ GE442.out | refine below_set ?_ GE443.out) | exact HB.out)⟩⟩
      ·replace c18 := Bool.eq_false_iff.mpr c18
       subst c18
       have H1 : ((control_Steer_drift.f x1000_1 x1001_1 x1002_1 x1003_1 false a1_1 a1_2 a2_0).bind fun bt452 => ((fix_Slew.f k1 x1001_1 bt452.1 x1000_1).bind fun t457 => ((fix_Sub.f k1 t457 a3_0).bind fun t458 => ((fix_Clamp.f t458 (-64) 64).bind fun t459 => (control_Steer_Step.l0 k1 1 x1000_1 t457 x1002_1 x1003_1 a2_0 a2_1 a2_2 a3_0 a3_1 a3_2 t459 x443001_1 x443002_1 false a1_1 a1_2 a1_3 a1_4 a1_5 a1_6 a1_7 a1_8))))) = some (r1, r2, r3, r4, r5, r6, r7) := by rw [if_neg (show ¬ (false = true) by decide)] at H; exact H
       clear H
       have H := H1
       clear H1
       replace H := Option.bind_eq_some_iff.mp H
       obtain ⟨⟨t452, t453, t454, t455, t456⟩, A390, H⟩ := H
       replace H : ((fix_Slew.f k1 x1001_1 t452 x1000_1).bind fun t457 => ((fix_Sub.f k1 t457 a3_0).bind fun t458 => ((fix_Clamp.f t458 (-64) 64).bind fun t459 => (control_Steer_Step.l0 k1 1 x1000_1 t457 x1002_1 x1003_1 a2_0 a2_1 a2_2 a3_0 a3_1 a3_2 t459 x443001_1 x443002_1 false a1_1 a1_2 a1_3 a1_4 a1_5 a1_6 a1_7 a1_8)))) = some (r1, r2, r3, r4, r5, r6, r7) := H
       have A39 := Aside0.mk A390
       clear A390
       obtain ⟨E0_, E1_, E2_, E3_⟩ := control_Steer_drift.same A39.out
       subst E0_
       subst E1_
       subst E2_
       subst E3_
       replace H := Option.bind_eq_some_iff.mp H
       obtain ⟨t457, A400, H⟩ := H
       replace H : ((fix_Sub.f k1 t457 a3_0).bind fun t458 => ((fix_Clamp.f t458 (-64) 64).bind fun t459 => (control_Steer_Step.l0 k1 1 x1000_1 t457 x1002_1 x1003_1 a2_0 a2_1 a2_2 a3_0 a3_1 a3_2 t459 x443001_1 x443002_1 false a1_1 a1_2 a1_3 a1_4 a1_5 a1_6 a1_7 a1_8))) = some (r1, r2, r3, r4, r5, r6, r7) := H
       have A40 := Aside0.mk A400
       clear A400
       replace H := Option.bind_eq_some_iff.mp H
       obtain ⟨t458, A410, H⟩ := H
       replace H : ((fix_Clamp.f t458 (-64) 64).bind fun t459 => (control_Steer_Step.l0 k1 1 x1000_1 t457 x1002_1 x1003_1 a2_0 a2_1 a2_2 a3_0 a3_1 a3_2 t459 x443001_1 x443002_1 false a1_1 a1_2 a1_3 a1_4 a1_5 a1_6 a1_7 a1_8)) = some (r1, r2, r3, r4, r5, r6, r7) := H
       have A41 := Aside0.mk A410
       clear A410
       replace H := Option.bind_eq_some_iff.mp H
       obtain ⟨t459, A420, H⟩ := H
       replace H : (control_Steer_Step.l0 k1 1 x1000_1 t457 x1002_1 x1003_1 a2_0 a2_1 a2_2 a3_0 a3_1 a3_2 t459 x443001_1 x443002_1 false a1_1 a1_2 a1_3 a1_4 a1_5 a1_6 a1_7 a1_8) = some (r1, r2, r3, r4, r5, r6, r7) := H
       have A42 := Aside0.mk A420
       clear A420
       have H' := Aside0.mk H
       clear H
       try go_wp2_with (first | ((with_reducible refine gate_dst (N := 11) rfl ?_); refine box_event ?hg (N := 11) ?hd (cs := #[.bool false, .int .i64 0, .int .i64 0]) (t := 41) ?hr ?_; (case hd => rfl); (case hg => rfl); (case hr => first | (go_simp; done) | (go_simp; rfl)); intro gb443 hg w43 hbox hb; have n0_ := Aside0.mk (blk_below BK438.out hb); have n1_ := Aside0.mk (blk_below BK439.out hb); have n2_ := Aside0.mk (blk_below BK440.out hb); have n3_ := Aside0.mk (blk_below BK441.out hb); have n4_ := Aside0.mk (blk_below BK442.out hb); have n5_ := Aside0.mk (IsS65.below HI0.out hb); have n6_ := Aside0.mk (KeepBut.trans HK.out (KeepBut.of_below hb g none) (.inl rfl)); have n7_ := Aside0.mk (below_step HB.out hb); have n8_ := Aside0.mk (hbox); have n9_ := Aside0.mk ((by rw [hg]; exact (keep_size (w := w) (g := g) (row := none) HK.out) : w.heap.size ≤ gb443)); have n10_ := Aside0.mk ((Nat.le_trans HW0.out (by rw [hg]; exact (keep_size (w := w) (g := g) (row := none) HK.out) : w.heap.size ≤ gb443) : w0.heap.size ≤ gb443)); have n11_ := Aside0.mk ((by rw [hg]; exact Nat.ne_of_lt (blk_lt BK438.out) : gb438 ≠ gb443)); have n12_ := Aside0.mk ((by rw [hg]; exact Nat.ne_of_gt (blk_lt BK438.out) : gb443 ≠ gb438)); have n13_ := Aside0.mk ((by rw [hg]; exact Nat.ne_of_lt (blk_lt BK439.out) : gb439 ≠ gb443)); have n14_ := Aside0.mk ((by rw [hg]; exact Nat.ne_of_gt (blk_lt BK439.out) : gb443 ≠ gb439)); have n15_ := Aside0.mk ((by rw [hg]; exact Nat.ne_of_lt (blk_lt BK440.out) : gb440 ≠ gb443)); have n16_ := Aside0.mk ((by rw [hg]; exact Nat.ne_of_gt (blk_lt BK440.out) : gb443 ≠ gb440)); have n17_ := Aside0.mk ((by rw [hg]; exact Nat.ne_of_lt (blk_lt BK441.out) : gb441 ≠ gb443)); have n18_ := Aside0.mk ((by rw [hg]; exact Nat.ne_of_gt (blk_lt BK441.out) : gb443 ≠ gb441)); have n19_ := Aside0.mk ((by rw [hg]; exact Nat.ne_of_lt (blk_lt BK442.out) : gb442 ≠ gb443)); have n20_ := Aside0.mk ((by rw [hg]; exact Nat.ne_of_gt (blk_lt BK442.out) : gb443 ≠ gb442)); have n21_ := Aside0.mk ((by rw [hg]; exact Nat.ne_of_lt (IsS65.lt HI0.out) : g ≠ gb443)); have n22_ := Aside0.mk ((by rw [hg]; exact Nat.ne_of_gt (IsS65.lt HI0.out) : gb443 ≠ g)); clear BK438; clear BK439; clear BK440; clear BK441; clear BK442; clear HI0; clear HK; clear HB; have BK438 := n0_; have BK439 := n1_; have BK440 := n2_; have BK441 := n3_; have BK442 := n4_; have HI0 := n5_; have HK := n6_; have HB := n7_; have BK443 := n8_; have GW443 := n9_; have GE443 := n10_; have NB438_443 := n11_; have NB443_438 := n12_; have NB439_443 := n13_; have NB443_439 := n14_; have NB440_443 := n15_; have NB443_440 := n16_; have NB441_443 := n17_; have NB443_441 := n18_; have NB442_443 := n19_; have NB443_442 := n20_; have NB0_443 := n21_; have NB443_0 := n22_; clear n0_ n1_ n2_ n3_ n4_ n5_ n6_ n7_ n8_ n9_ n10_ n11_ n12_ n13_ n14_ n15_ n16_ n17_ n18_ n19_ n20_ n21_ n22_; clear hb hbox hg; have hnb44 := NB443_438.out; have hnc44 := NB438_443.out; have hnb45 := NB443_439.out; have hnc45 := NB439_443.out; have hnb46 := NB443_440.out; have hnc46 := NB440_443.out; have hnb47 := NB443_441.out; have hnc47 := NB441_443.out; have hnb48 := NB443_442.out; have hnc48 := NB442_443.out; have hnb49 := NB443_0.out; have hnc49 := NB0_443.out; have hcz50_0 := blk_cells3 (w := w43) (g := gb443) BK443.out; have hfz50_0 := blk_frozen BK443.out))
       (repeat (rw [drewN_self w43]; generalize hq_ : World.drewN w43 _ = w43; have n0_ := Aside0.mk (blk_at hq_ BK438.out); have n1_ := Aside0.mk (blk_at hq_ BK439.out); have n2_ := Aside0.mk (blk_at hq_ BK440.out); have n3_ := Aside0.mk (blk_at hq_ BK441.out); have n4_ := Aside0.mk (blk_at hq_ BK442.out); have n5_ := Aside0.mk (blk_at hq_ BK443.out); have n6_ := Aside0.mk (IsS65.at_ hq_ HI0.out); have n7_ := Aside0.mk (keep_at hq_ HK.out); have n8_ := Aside0.mk (below_at hq_ HB.out); clear hq_ BK438 BK439 BK440 BK441 BK442 BK443 HI0 HK HB; have BK438 := n0_; have BK439 := n1_; have BK440 := n2_; have BK441 := n3_; have BK442 := n4_; have BK443 := n5_; have HI0 := n6_; have HK := n7_; have HB := n8_; clear n0_ n1_ n2_ n3_ n4_ n5_ n6_ n7_ n8_))
       obtain ⟨w51, hW_⟩ : ∃ W_, W_ = (((w43.setCell ⟨gb443, 0, none⟩ (.bool false)).setCell ⟨gb443, 1, none⟩ (.int .i64 a1_1)).setCell ⟨gb443, 2, none⟩ (.int .i64 a1_2)) := ⟨_, rfl⟩
       have n0_ : Aside0 (w51.heap[gb438]? = some (.cells #[.bool false, .int .i64 a1_1, .int .i64 a1_2, .bool a1_3, .int .i64 a1_4, .int .i64 a1_5, .bool a1_6, .int .i64 a1_7, .int .i64 a1_8] 42 (0, 0))) := ⟨by rw [hW_]; repeat (first | exact BK438.out | refine blk_far ?_ NB438_443.out _ | (with_reducible first | refine blk_drewN ?_ _ | refine blk_drew ?_ | refine blk_alloc ?_ _))⟩
       have n1_ : Aside0 (w51.heap[gb439]? = some (.cells #[.int .i64 a2_0, .int .i64 a2_1, .int .i64 a2_2] 37 (0, 0))) := ⟨by rw [hW_]; repeat (first | exact BK439.out | refine blk_far ?_ NB439_443.out _ | (with_reducible first | refine blk_drewN ?_ _ | refine blk_drew ?_ | refine blk_alloc ?_ _))⟩
       have n2_ : Aside0 (w51.heap[gb440]? = some (.cells #[.int .i64 a3_0, .int .i64 a3_1, .int .i64 a3_2] 37 (0, 0))) := ⟨by rw [hW_]; repeat (first | exact BK440.out | refine blk_far ?_ NB440_443.out _ | (with_reducible first | refine blk_drewN ?_ _ | refine blk_drew ?_ | refine blk_alloc ?_ _))⟩
       have n3_ : Aside0 (w51.heap[gb441]? = some (.cells #[.int .i64 x442000_1, .int .i64 x442001_1, .int .i64 x442002_1] 37 (0, 0))) := ⟨by rw [hW_]; repeat (first | exact BK441.out | refine blk_far ?_ NB441_443.out _ | (with_reducible first | refine blk_drewN ?_ _ | refine blk_drew ?_ | refine blk_alloc ?_ _))⟩
       have n4_ : Aside0 (w51.heap[gb442]? = some (.cells #[.int .i64 x443000_1, .int .i64 x443001_1, .int .i64 x443002_1] 37 (0, 0))) := ⟨by rw [hW_]; repeat (first | exact BK442.out | refine blk_far ?_ NB442_443.out _ | (with_reducible first | refine blk_drewN ?_ _ | refine blk_drew ?_ | refine blk_alloc ?_ _))⟩
       have n5_ : Aside0 (w51.heap[gb443]? = some (.cells #[.bool false, .int .i64 a1_1, .int .i64 a1_2] 41 (0, 0))) := ⟨by rw [hW_]; (with_reducible repeat (first | refine blk_drewN ?_ _ | refine blk_drew ?_ | refine blk_alloc ?_ _)); refine blk_put (cs := #[.bool false, .int .i64 a1_1, .int .i64 0]) ?_ 2 _ rfl; (with_reducible repeat (first | refine blk_drewN ?_ _ | refine blk_drew ?_ | refine blk_alloc ?_ _)); refine blk_put (cs := #[.bool false, .int .i64 0, .int .i64 0]) ?_ 1 _ rfl; (with_reducible repeat (first | refine blk_drewN ?_ _ | refine blk_drew ?_ | refine blk_alloc ?_ _)); refine blk_put (cs := #[.bool false, .int .i64 0, .int .i64 0]) ?_ 0 _ rfl; (with_reducible repeat (first | refine blk_drewN ?_ _ | refine blk_drew ?_ | refine blk_alloc ?_ _)); exact BK443.out⟩
       have n6_ : Aside0 (IsS65 w0 w51 g x1000_1 x1001_1 x1002_1 x1003_1) := ⟨by rw [hW_]; repeat (first | (with_reducible first | exact HI0.out | apply IsS65.alloc | apply IsS65.drewN | apply IsS65.drew | apply IsS65.set_0 | apply IsS65.set_1 | apply IsS65.set_2 | apply IsS65.set_3 | refine IsS65.far ?_ NB0_438.out _ | refine IsS65.far ?_ NB0_439.out _ | refine IsS65.far ?_ NB0_440.out _ | refine IsS65.far ?_ NB0_441.out _ | refine IsS65.far ?_ NB0_442.out _ | refine IsS65.far ?_ NB0_443.out _) | exact HI0.out)⟩
       have n7_ : Aside0 (KeepBut w w51 g none) := ⟨by rw [hW_]; repeat (first | (with_reducible first | exact HK.out | apply KeepBut.set_ | apply keep_drewN | apply keep_drew | apply keep_alloc | refine keep_far ?_ GW438.out _ | refine keep_far ?_ GW439.out _ | refine keep_far ?_ GW440.out _ | refine keep_far ?_ GW441.out _ | refine keep_far ?_ GW442.out _ | refine keep_far ?_ GW443.out _) | exact HK.out)⟩
       have n8_ : Aside0 (Below w0.heap.size w0 w51) := ⟨by rw [hW_]; repeat (first | (with_reducible first | exact HB.out | apply below_alloc | apply pw_below_drewN | apply below_drew1 | refine below_set ?_ (IsS65.ge HI0.out) | refine below_set ?_ GE438.out | refine below_set ?_ GE439.out | refine below_set ?_ GE440.out | refine below_set ?_ GE441.out | refine below_set ?_ GE442.out | refine below_set ?_ GE443.out) | exact HB.out)⟩
       (try clear BK438)
       (try clear BK439)
       (try clear BK440)
       (try clear BK441)
       (try clear BK442)
       (try clear BK443)
       (try clear HI0)
       (try clear HK)
       (try clear HB)
       rw [← hW_]
       clear hW_
       have BK438 := n0_
       have BK439 := n1_
       have BK440 := n2_
       have BK441 := n3_
       have BK442 := n4_
       have BK443 := n5_
       have HI0 := n6_
       have HK := n7_
       have HB := n8_
       clear n0_ n1_ n2_ n3_ n4_ n5_ n6_ n7_ n8_
       have n0_ := Aside0.mk (blk_drew BK438.out)
       have n1_ := Aside0.mk (blk_drew BK439.out)
       have n2_ := Aside0.mk (blk_drew BK440.out)
       have n3_ := Aside0.mk (blk_drew BK441.out)
       have n4_ := Aside0.mk (blk_drew BK442.out)
       have n5_ := Aside0.mk (blk_drew BK443.out)
       have n6_ := Aside0.mk (IsS65.drew HI0.out)
       have n7_ := Aside0.mk (keep_drew HK.out)
       have n8_ := Aside0.mk (below_drew1 HB.out)
       clear BK438
       clear BK439
       clear BK440
       clear BK441
       clear BK442
       clear BK443
       clear HI0
       clear HK
       clear HB
       have BK438 := n0_
       have BK439 := n1_
       have BK440 := n2_
       have BK441 := n3_
       have BK442 := n4_
       have BK443 := n5_
       have HI0 := n6_
       have HK := n7_
       have HB := n8_
       clear n0_ n1_ n2_ n3_ n4_ n5_ n6_ n7_ n8_
       refine start_ (n := 24) (S := fun w' => w'.cell? ⟨g, 0, none⟩ = some (.int .i64 x1000_1) ∧ w'.cell? ⟨g, 1, none⟩ = some (.int .i64 x1001_1) ∧ w'.cell? ⟨g, 2, none⟩ = some (.int .i64 x1002_1) ∧ w'.cell? ⟨g, 3, none⟩ = some (.int .i64 x1003_1) ∧ w'.cell? ⟨gb443, 0, none⟩ = some (.bool false) ∧ w'.cell? ⟨gb443, 1, none⟩ = some (.int .i64 a1_1) ∧ w'.cell? ⟨gb443, 2, none⟩ = some (.int .i64 a1_2) ∧ w'.cell? ⟨gb439, 0, none⟩ = some (.int .i64 a2_0) ∧ w'.cell? ⟨gb439, 1, none⟩ = some (.int .i64 a2_1) ∧ w'.cell? ⟨gb439, 2, none⟩ = some (.int .i64 a2_2)) (ds := [23]) (lb_ 24 0) (by kernel_rfl) rfl rfl ⟨(cellS65_0 HI0.out.1), (cellS65_1 HI0.out.1), (cellS65_2 HI0.out.1), (cellS65_3 HI0.out.1), (blk_cell BK443.out 0).trans rfl, (blk_cell BK443.out 1).trans rfl, (blk_cell BK443.out 2).trans rfl, (blk_cell BK439.out 0).trans rfl, (blk_cell BK439.out 1).trans rfl, (blk_cell BK439.out 2).trans rfl⟩ (fun hHeld => ?_); refine with_tabW control_Steer_Step.tab10 control_Steer_Step.bits10 (fun HT_ HW_ => ?_)
       generalize w51.drew = w52 at BK438 BK439 BK440 BK441 BK442 BK443 HI0 HK HB hHeld ⊢
       refine pure_ (i := 0) (N := some 23) (v := ?_) (a' := ?_) (lb_ 24 1) rfl rfl (any_of HT_.out (by kernel_rfl)) (fun _ _ _ h => h) (Or.inl ⟨by rfl, ?_⟩) ?_ ?_; rotate_left; (intro w'; go_simp; with_reducible rfl); rotate_left; (simp only [Act.put, List.setIfInBounds_toArray, List.set_cons_zero, List.set_cons_succ, i64_w, i32_w]; rfl)
       refine pure_ (i := 1) (N := some 24) (v := ?_) (a' := ?_) (lb_ 24 3) rfl rfl (any_of HT_.out (by kernel_rfl)) (fun _ _ _ h => h) (Or.inl ⟨by rfl, ?_⟩) ?_ ?_; rotate_left; (intro w'; go_simp; with_reducible rfl); rotate_left; (simp only [Act.put, List.setIfInBounds_toArray, List.set_cons_zero, List.set_cons_succ, i64_w, i32_w]; rfl)
       refine pure_ (i := 2) (N := some 25) (v := ?_) (a' := ?_) (lb_ 24 7) rfl rfl (any_of HT_.out (by kernel_rfl)) (fun _ _ _ h => h) (Or.inl ⟨by rfl, ?_⟩) ?_ ?_; rotate_left; (intro w'; go_simp; with_reducible rfl); rotate_left; (simp only [Act.put, List.setIfInBounds_toArray, List.set_cons_zero, List.set_cons_succ, i64_w, i32_w]; rfl)
       refine pure_ (i := 3) (N := some 26) (v := ?_) (a' := ?_) (lb_ 24 15) rfl rfl (any_of HT_.out (by kernel_rfl)) (fun _ _ _ h => h) (Or.inl ⟨by rfl, ?_⟩) ?_ ?_; rotate_left; (intro w'; go_simp; with_reducible rfl); rotate_left; (simp only [Act.put, List.setIfInBounds_toArray, List.set_cons_zero, List.set_cons_succ, i64_w, i32_w]; rfl)
       refine pure_ (i := 4) (N := some 27) (v := ?_) (a' := ?_) (lb_ 24 31) rfl rfl (any_of HT_.out (by kernel_rfl)) (fun _ _ _ h => h) (Or.inl ⟨by rfl, ?_⟩) ?_ ?_; rotate_left; (intro w'; go_simp; with_reducible rfl); rotate_left; (simp only [Act.put, List.setIfInBounds_toArray, List.set_cons_zero, List.set_cons_succ, i64_w, i32_w]; rfl)
       refine pure_ (i := 5) (N := some 28) (v := ?_) (a' := ?_) (lb_ 24 63) rfl rfl (any_of HT_.out (by kernel_rfl)) (fun _ _ _ h => h) (Or.inl ⟨by rfl, ?_⟩) ?_ ?_; rotate_left; (intro w'; go_simp; with_reducible rfl); rotate_left; (simp only [Act.put, List.setIfInBounds_toArray, List.set_cons_zero, List.set_cons_succ, i64_w, i32_w]; rfl)
       refine pure_ (i := 6) (N := some 29) (v := ?_) (a' := ?_) (lb_ 24 127) rfl rfl (any_of HT_.out (by kernel_rfl)) (fun _ _ _ h => h) (Or.inl ⟨by rfl, ?_⟩) ?_ ?_; rotate_left; (intro w'; go_simp; with_reducible rfl); rotate_left; (simp only [Act.put, List.setIfInBounds_toArray, List.set_cons_zero, List.set_cons_succ, i64_w, i32_w]; rfl)
       refine pure_ (i := 8) (N := some 31) (v := ?_) (a' := ?_) (lb_ 24 383) rfl rfl (any_of HT_.out (by kernel_rfl)) (fun _ _ _ h => h) (Or.inl ⟨by rfl, ?_⟩) ?_ ?_; rotate_left; (intro w'; go_simp; with_reducible rfl); rotate_left; (simp only [Act.put, List.setIfInBounds_toArray, List.set_cons_zero, List.set_cons_succ, i64_w, i32_w]; rfl)
       refine pure_ (i := 9) (N := some 32) (v := ?_) (a' := ?_) (lb_ 24 895) rfl rfl (any_of HT_.out (by kernel_rfl)) (fun _ _ _ h => h) (Or.inl ⟨by rfl, ?_⟩) ?_ ?_; rotate_left; (intro w'; go_simp; with_reducible rfl); rotate_left; (simp only [Act.put, List.setIfInBounds_toArray, List.set_cons_zero, List.set_cons_succ, i64_w, i32_w]; rfl)
       refine pure_ (i := 11) (N := some 34) (v := ?_) (a' := ?_) (lb_ 24 2943) rfl rfl (any_of HT_.out (by kernel_rfl)) (fun _ _ _ h => h) (Or.inl ⟨by rfl, ?_⟩) ?_ ?_; rotate_left; (intro w'; go_simp; with_reducible rfl); rotate_left; (simp only [Act.put, List.setIfInBounds_toArray, List.set_cons_zero, List.set_cons_succ, i64_w, i32_w]; rfl)
       refine pure_ (i := 12) (N := some 35) (v := ?_) (a' := ?_) (lb_ 24 7039) rfl rfl (any_of HT_.out (by kernel_rfl)) (fun _ _ _ h => h) (Or.inl ⟨by rfl, ?_⟩) ?_ ?_; rotate_left; (intro w'; go_simp; with_reducible rfl); rotate_left; (simp only [Act.put, List.setIfInBounds_toArray, List.set_cons_zero, List.set_cons_succ, i64_w, i32_w]; rfl)
       refine pure_ (i := 15) (N := some 38) (v := ?_) (a' := ?_) (lb_ 24 39807) rfl rfl (any_of HT_.out (by kernel_rfl)) (fun _ _ _ h => h) (Or.inl ⟨by rfl, ?_⟩) ?_ ?_; rotate_left; (intro w'; go_simp; with_reducible rfl); rotate_left; (simp only [Act.put, List.setIfInBounds_toArray, List.set_cons_zero, List.set_cons_succ, i64_w, i32_w]; rfl)
       refine pure_ (i := 16) (N := some 39) (v := ?_) (a' := ?_) (lb_ 24 105343) rfl rfl (any_of HT_.out (by kernel_rfl)) (fun _ _ _ h => h) (Or.inl ⟨by rfl, ?_⟩) ?_ ?_; rotate_left; (intro w'; go_simp; with_reducible rfl); rotate_left; (simp only [Act.put, List.setIfInBounds_toArray, List.set_cons_zero, List.set_cons_succ, i64_w, i32_w]; rfl)
       refine pure_ (i := 17) (N := some 40) (v := ?_) (a' := ?_) (lb_ 24 236415) rfl rfl (any_of HT_.out (by kernel_rfl)) (fun _ _ _ h => h) (Or.inl ⟨by rfl, ?_⟩) ?_ ?_; rotate_left; (intro w'; go_simp; with_reducible rfl); rotate_left; (simp only [Act.put, List.setIfInBounds_toArray, List.set_cons_zero, List.set_cons_succ, i64_w, i32_w]; rfl)
       refine pure_ (i := 20) (N := some 43) (v := ?_) (a' := ?_) (lb_ 24 1284991) rfl rfl (any_of HT_.out (by kernel_rfl)) (fun _ _ _ h => h) (Or.inl ⟨by rfl, ?_⟩) ?_ ?_; rotate_left; (intro w'; go_simp; with_reducible rfl); rotate_left; (simp only [Act.put, List.setIfInBounds_toArray, List.set_cons_zero, List.set_cons_succ, i64_w, i32_w]; rfl)
       refine pure_ (i := 21) (N := some 44) (v := ?_) (a' := ?_) (lb_ 24 3382143) rfl rfl (any_of HT_.out (by kernel_rfl)) (fun _ _ _ h => h) (Or.inl ⟨by rfl, ?_⟩) ?_ ?_; rotate_left; (intro w'; go_simp; with_reducible rfl); rotate_left; (simp only [Act.put, List.setIfInBounds_toArray, List.set_cons_zero, List.set_cons_succ, i64_w, i32_w]; rfl)
       refine take_ (i := 7) (N := some 30) (v := ?_) (a' := ?_) (lb_ 24 3382271) rfl rfl (take_ofW HT_.out HW_.out (by kernel_rfl)) (fun _ _ _ h => h) (Or.inl ⟨by rfl, ?_⟩) hHeld ?_ ?_; rotate_left; (rintro w' ⟨s0, s1, s2, s3, s4, s5, s6, s7, s8, s9⟩; go_simp; with_reducible rfl); rotate_left; (simp only [Act.put, List.setIfInBounds_toArray, List.set_cons_zero, List.set_cons_succ, i64_w, i32_w]; rfl)
       refine take_ (i := 10) (N := some 33) (v := ?_) (a' := ?_) (lb_ 24 3383295) rfl rfl (take_ofW HT_.out HW_.out (by kernel_rfl)) (fun _ _ _ h => h) (Or.inl ⟨by rfl, ?_⟩) hHeld ?_ ?_; rotate_left; (rintro w' ⟨s0, s1, s2, s3, s4, s5, s6, s7, s8, s9⟩; go_simp; with_reducible rfl); rotate_left; (simp only [Act.put, List.setIfInBounds_toArray, List.set_cons_zero, List.set_cons_succ, i64_w, i32_w]; rfl)
       refine take_ (i := 13) (N := some 36) (v := ?_) (a' := ?_) (lb_ 24 3391487) rfl rfl (take_ofW HT_.out HW_.out (by kernel_rfl)) (fun _ _ _ h => h) (Or.inl ⟨by rfl, ?_⟩) hHeld ?_ ?_; rotate_left; (rintro w' ⟨s0, s1, s2, s3, s4, s5, s6, s7, s8, s9⟩; go_simp; with_reducible rfl); rotate_left; (simp only [Act.put, List.setIfInBounds_toArray, List.set_cons_zero, List.set_cons_succ, i64_w, i32_w]; rfl)
       refine take_ (i := 18) (N := some 41) (v := ?_) (a' := ?_) (lb_ 24 3653631) rfl rfl (take_ofW HT_.out HW_.out (by kernel_rfl)) (fun _ _ _ h => h) (Or.inl ⟨by rfl, ?_⟩) hHeld ?_ ?_; rotate_left; (rintro w' ⟨s0, s1, s2, s3, s4, s5, s6, s7, s8, s9⟩; go_simp; with_reducible rfl); rotate_left; (simp only [Act.put, List.setIfInBounds_toArray, List.set_cons_zero, List.set_cons_succ, i64_w, i32_w]; rfl)
       refine one_ (i := 14) (N := some 37) (lb_ 24 3670015) rfl rfl (one_of HT_.out (by kernel_rfl)) (by decide) (fun K hK => ?_)
       refine goesv_ Try.func39 (by kernel_rfl) rfl #[.pointer (some ⟨g, 0, none⟩), .agg #[.bool false, .int .i64 a1_1, .int .i64 a1_2], .int .i64 a2_0] (by rfl) rfl rfl rfl (by (try simp only [List.map_toArray, List.map_cons, List.map_nil]); first | done | rfl | (simp only [List.length_drop, List.length_take]; rfl)) ?_
       with_reducible refine (control_Steer_drift.calls g x1000_1 x1001_1 x1002_1 x1003_1 false a1_1 a1_2 a2_0 t452 x1000_1 x1001_1 x1002_1 x1003_1 w0 _ ?side1 ?side2 A39.out).mono ?_
       (case side1 => repeat (first | (with_reducible first | exact HI0.out | apply IsS65.alloc | apply IsS65.drewN | apply IsS65.drew | apply IsS65.set_0 | apply IsS65.set_1 | apply IsS65.set_2 | apply IsS65.set_3 | refine IsS65.far ?_ NB0_438.out _ | refine IsS65.far ?_ NB0_439.out _ | refine IsS65.far ?_ NB0_440.out _ | refine IsS65.far ?_ NB0_441.out _ | refine IsS65.far ?_ NB0_442.out _ | refine IsS65.far ?_ NB0_443.out _) | exact HI0.out))
       (case side2 => repeat (first | (with_reducible first | exact HB.out | apply below_alloc | apply pw_below_drewN | apply below_drew1 | refine below_set ?_ (IsS65.ge HI0.out) | refine below_set ?_ GE438.out | refine below_set ?_ GE439.out | refine below_set ?_ GE440.out | refine below_set ?_ GE441.out | refine below_set ?_ GE442.out | refine below_set ?_ GE443.out) | exact HB.out))
       rintro e w53 ⟨rfl, hi, hb, hk⟩
       refine ⟨_, rfl, ?_⟩
       have n0_ := Aside0.mk (KeepBut.blk hk BK438.out NB438_0.out (by simp))
       have n1_ := Aside0.mk (KeepBut.blk hk BK439.out NB439_0.out (by simp))
       have n2_ := Aside0.mk (KeepBut.blk hk BK440.out NB440_0.out (by simp))
       have n3_ := Aside0.mk (KeepBut.blk hk BK441.out NB441_0.out (by simp))
       have n4_ := Aside0.mk (KeepBut.blk hk BK442.out NB442_0.out (by simp))
       have n5_ := Aside0.mk (KeepBut.blk hk BK443.out NB443_0.out (by simp))
       have n6_ := Aside0.mk (KeepBut.trans HK.out hk (.inl rfl))
       have n7_ := Aside0.mk (hb)
       have n8_ := Aside0.mk (hi)
       clear BK438
       clear BK439
       clear BK440
       clear BK441
       clear BK442
       clear BK443
       clear HK
       clear HB
       clear HI0
       have BK438 := n0_
       have BK439 := n1_
       have BK440 := n2_
       have BK441 := n3_
       have BK442 := n4_
       have BK443 := n5_
       have HK := n6_
       have HB := n7_
       have HI0 := n8_
       clear n0_ n1_ n2_ n3_ n4_ n5_ n6_ n7_ n8_
       (try clear hb)
       (try clear hb2)
       (try clear hk)
       (try clear hi)
       refine hK.out _ _ ⟨(cellS65_0 HI0.out.1), (cellS65_1 HI0.out.1), (cellS65_2 HI0.out.1), (cellS65_3 HI0.out.1), (blk_cell BK443.out 0).trans rfl, (blk_cell BK443.out 1).trans rfl, (blk_cell BK443.out 2).trans rfl, (blk_cell BK439.out 0).trans rfl, (blk_cell BK439.out 1).trans rfl, (blk_cell BK439.out 2).trans rfl⟩ (fun hHeld => ?_)
       clear hK K
       refine norm_ (a' := ?_) ?_ ?_
       rotate_left
       ·show Act.put _ (some 37) _ = _
        simp only [Act.put, List.setIfInBounds_toArray, List.set_cons_zero, List.set_cons_succ, i64_w, i32_w]
        rfl
       refine one_ (i := 19) (N := some 42) (lb_ 24 4194303) rfl rfl (one_of HT_.out (by kernel_rfl)) (by decide) (fun K hK => ?_)
       refine goes_ Try.func41 (by kernel_rfl) rfl #[.int .i64 x1001_1, .int .i64 t452, .int .i64 x1000_1] (by rfl) rfl rfl (by (try simp only [List.map_toArray, List.map_cons, List.map_nil]); first | done | rfl | (simp only [List.length_drop, List.length_take]; rfl)) ?_
       with_reducible refine (fix_Slew.calls k1 x1001_1 t452 x1000_1 t457 _ A40.out).mono ?_
       rintro e w54 ⟨rfl, hb⟩
       refine ⟨_, rfl, ?_⟩
       have n0_ := Aside0.mk (blk_below BK438.out hb)
       have n1_ := Aside0.mk (blk_below BK439.out hb)
       have n2_ := Aside0.mk (blk_below BK440.out hb)
       have n3_ := Aside0.mk (blk_below BK441.out hb)
       have n4_ := Aside0.mk (blk_below BK442.out hb)
       have n5_ := Aside0.mk (IsS65.below HI0.out hb)
       have n6_ := Aside0.mk (blk_below BK443.out hb)
       have n7_ := Aside0.mk (KeepBut.trans HK.out (KeepBut.of_below hb g none) (.inl rfl))
       have n8_ := Aside0.mk (below_step HB.out hb)
       clear BK438
       clear BK439
       clear BK440
       clear BK441
       clear BK442
       clear HI0
       clear BK443
       clear HK
       clear HB
       have BK438 := n0_
       have BK439 := n1_
       have BK440 := n2_
       have BK441 := n3_
       have BK442 := n4_
       have HI0 := n5_
       have BK443 := n6_
       have HK := n7_
       have HB := n8_
       clear n0_ n1_ n2_ n3_ n4_ n5_ n6_ n7_ n8_
       (try clear hb)
       (try clear hb2)
       (try clear hk)
       (try clear hi)
       refine hK.out _ _ ⟨(cellS65_0 HI0.out.1), (cellS65_1 HI0.out.1), (cellS65_2 HI0.out.1), (cellS65_3 HI0.out.1), (blk_cell BK443.out 0).trans rfl, (blk_cell BK443.out 1).trans rfl, (blk_cell BK443.out 2).trans rfl, (blk_cell BK439.out 0).trans rfl, (blk_cell BK439.out 1).trans rfl, (blk_cell BK439.out 2).trans rfl⟩ (fun hHeld => ?_)
       clear hK K
       refine norm_ (a' := ?_) ?_ ?_
       rotate_left
       ·show Act.put _ (some 42) _ = _
        simp only [Act.put, List.setIfInBounds_toArray, List.set_cons_zero, List.set_cons_succ, i64_w, i32_w]
        rfl
       refine pure_ (i := 22) (N := some 45) (v := ?_) (a' := ?_) (lb_ 24 8388607) rfl rfl (any_of HT_.out (by kernel_rfl)) (fun _ _ _ h => h) (Or.inl ⟨by rfl, ?_⟩) ?_ ?_; rotate_left; (intro w'; go_simp; with_reducible rfl); rotate_left; (simp only [Act.put, List.setIfInBounds_toArray, List.set_cons_zero, List.set_cons_succ, i64_w, i32_w]; rfl)
       refine last_ (i := 23) (N := none) (lb_ 24 16777215) rfl rfl (one_of HT_.out (by kernel_rfl)) (by decide) (fun K hK => ?_)
       have hs55 := cellS65_1 HI0.out.1
       have hfs55 := blk_frozen HI0.out.1 1
       have hns55_0 := NB438_0.out
       have hns55_1 := NB439_0.out
       have hns55_2 := NB440_0.out
       have hns55_3 := NB441_0.out
       have hns55_4 := NB442_0.out
       have hns55_5 := NB443_0.out
       have hms55_0 := NB0_438.out
       have hms55_1 := NB0_439.out
       have hms55_2 := NB0_440.out
       have hms55_3 := NB0_441.out
       have hms55_4 := NB0_442.out
       have hms55_5 := NB0_443.out
       refine skip_ (w1 := ?_) (by rfl) rfl ?_ ?_
       rotate_left
       ·go_simp
        rfl
       refine hK.out _ _ ?_
       clear hK K
       refine done_ (done_of HT_.out (by kernel_rfl)) ?_
       try go_wp2
       (repeat (rw [drewN_self w54]; generalize hq_ : World.drewN w54 _ = w54; have n0_ := Aside0.mk (blk_at hq_ BK438.out); have n1_ := Aside0.mk (blk_at hq_ BK439.out); have n2_ := Aside0.mk (blk_at hq_ BK440.out); have n3_ := Aside0.mk (blk_at hq_ BK441.out); have n4_ := Aside0.mk (blk_at hq_ BK442.out); have n5_ := Aside0.mk (blk_at hq_ BK443.out); have n6_ := Aside0.mk (IsS65.at_ hq_ HI0.out); have n7_ := Aside0.mk (keep_at hq_ HK.out); have n8_ := Aside0.mk (below_at hq_ HB.out); clear hq_ BK438 BK439 BK440 BK441 BK442 BK443 HI0 HK HB; have BK438 := n0_; have BK439 := n1_; have BK440 := n2_; have BK441 := n3_; have BK442 := n4_; have BK443 := n5_; have HI0 := n6_; have HK := n7_; have HB := n8_; clear n0_ n1_ n2_ n3_ n4_ n5_ n6_ n7_ n8_))
       obtain ⟨w56, hW_⟩ : ∃ W_, W_ = (w54.setCell ⟨g, 1, none⟩ (.int .i64 t457)) := ⟨_, rfl⟩
       have n0_ : Aside0 (w56.heap[gb438]? = some (.cells #[.bool false, .int .i64 a1_1, .int .i64 a1_2, .bool a1_3, .int .i64 a1_4, .int .i64 a1_5, .bool a1_6, .int .i64 a1_7, .int .i64 a1_8] 42 (0, 0))) := ⟨by rw [hW_]; repeat (first | exact BK438.out | refine blk_far ?_ NB438_0.out _ | (with_reducible first | refine blk_drewN ?_ _ | refine blk_drew ?_ | refine blk_alloc ?_ _))⟩
       have n1_ : Aside0 (w56.heap[gb439]? = some (.cells #[.int .i64 a2_0, .int .i64 a2_1, .int .i64 a2_2] 37 (0, 0))) := ⟨by rw [hW_]; repeat (first | exact BK439.out | refine blk_far ?_ NB439_0.out _ | (with_reducible first | refine blk_drewN ?_ _ | refine blk_drew ?_ | refine blk_alloc ?_ _))⟩
       have n2_ : Aside0 (w56.heap[gb440]? = some (.cells #[.int .i64 a3_0, .int .i64 a3_1, .int .i64 a3_2] 37 (0, 0))) := ⟨by rw [hW_]; repeat (first | exact BK440.out | refine blk_far ?_ NB440_0.out _ | (with_reducible first | refine blk_drewN ?_ _ | refine blk_drew ?_ | refine blk_alloc ?_ _))⟩
       have n3_ : Aside0 (w56.heap[gb441]? = some (.cells #[.int .i64 x442000_1, .int .i64 x442001_1, .int .i64 x442002_1] 37 (0, 0))) := ⟨by rw [hW_]; repeat (first | exact BK441.out | refine blk_far ?_ NB441_0.out _ | (with_reducible first | refine blk_drewN ?_ _ | refine blk_drew ?_ | refine blk_alloc ?_ _))⟩
       have n4_ : Aside0 (w56.heap[gb442]? = some (.cells #[.int .i64 x443000_1, .int .i64 x443001_1, .int .i64 x443002_1] 37 (0, 0))) := ⟨by rw [hW_]; repeat (first | exact BK442.out | refine blk_far ?_ NB442_0.out _ | (with_reducible first | refine blk_drewN ?_ _ | refine blk_drew ?_ | refine blk_alloc ?_ _))⟩
       have n5_ : Aside0 (w56.heap[gb443]? = some (.cells #[.bool false, .int .i64 a1_1, .int .i64 a1_2] 41 (0, 0))) := ⟨by rw [hW_]; repeat (first | exact BK443.out | refine blk_far ?_ NB443_0.out _ | (with_reducible first | refine blk_drewN ?_ _ | refine blk_drew ?_ | refine blk_alloc ?_ _))⟩
       have n6_ : Aside0 (IsS65 w0 w56 g x1000_1 t457 x1002_1 x1003_1) := ⟨by rw [hW_]; repeat (first | (with_reducible first | exact HI0.out | apply IsS65.alloc | apply IsS65.drewN | apply IsS65.drew | apply IsS65.set_0 | apply IsS65.set_1 | apply IsS65.set_2 | apply IsS65.set_3 | refine IsS65.far ?_ NB0_438.out _ | refine IsS65.far ?_ NB0_439.out _ | refine IsS65.far ?_ NB0_440.out _ | refine IsS65.far ?_ NB0_441.out _ | refine IsS65.far ?_ NB0_442.out _ | refine IsS65.far ?_ NB0_443.out _) | exact HI0.out)⟩
       have n7_ : Aside0 (KeepBut w w56 g none) := ⟨by rw [hW_]; repeat (first | (with_reducible first | exact HK.out | apply KeepBut.set_ | apply keep_drewN | apply keep_drew | apply keep_alloc | refine keep_far ?_ GW438.out _ | refine keep_far ?_ GW439.out _ | refine keep_far ?_ GW440.out _ | refine keep_far ?_ GW441.out _ | refine keep_far ?_ GW442.out _ | refine keep_far ?_ GW443.out _) | exact HK.out)⟩
       have n8_ : Aside0 (Below w0.heap.size w0 w56) := ⟨by rw [hW_]; repeat (first | (with_reducible first | exact HB.out | apply below_alloc | apply pw_below_drewN | apply below_drew1 | refine below_set ?_ (IsS65.ge HI0.out) | refine below_set ?_ GE438.out | refine below_set ?_ GE439.out | refine below_set ?_ GE440.out | refine below_set ?_ GE441.out | refine below_set ?_ GE442.out | refine below_set ?_ GE443.out) | exact HB.out)⟩
       (try clear BK438)
       (try clear BK439)
       (try clear BK440)
       (try clear BK441)
       (try clear BK442)
       (try clear BK443)
       (try clear HI0)
       (try clear HK)
       (try clear HB)
       rw [← hW_]
       clear hW_
       have BK438 := n0_
       have BK439 := n1_
       have BK440 := n2_
       have BK441 := n3_
       have BK442 := n4_
       have BK443 := n5_
       have HI0 := n6_
       have HK := n7_
       have HB := n8_
       clear n0_ n1_ n2_ n3_ n4_ n5_ n6_ n7_ n8_
       have n0_ := Aside0.mk (blk_drew BK438.out)
       have n1_ := Aside0.mk (blk_drew BK439.out)
       have n2_ := Aside0.mk (blk_drew BK440.out)
       have n3_ := Aside0.mk (blk_drew BK441.out)
       have n4_ := Aside0.mk (blk_drew BK442.out)
       have n5_ := Aside0.mk (blk_drew BK443.out)
       have n6_ := Aside0.mk (IsS65.drew HI0.out)
       have n7_ := Aside0.mk (keep_drew HK.out)
       have n8_ := Aside0.mk (below_drew1 HB.out)
       clear BK438
       clear BK439
       clear BK440
       clear BK441
       clear BK442
       clear BK443
       clear HI0
       clear HK
       clear HB
       have BK438 := n0_
       have BK439 := n1_
       have BK440 := n2_
       have BK441 := n3_
       have BK442 := n4_
       have BK443 := n5_
       have HI0 := n6_
       have HK := n7_
       have HB := n8_
       clear n0_ n1_ n2_ n3_ n4_ n5_ n6_ n7_ n8_
       refine start_ (n := 14) (S := fun w' => w'.cell? ⟨g, 0, none⟩ = some (.int .i64 x1000_1) ∧ w'.cell? ⟨g, 1, none⟩ = some (.int .i64 t457) ∧ w'.cell? ⟨g, 2, none⟩ = some (.int .i64 x1002_1) ∧ w'.cell? ⟨g, 3, none⟩ = some (.int .i64 x1003_1) ∧ w'.cell? ⟨gb440, 0, none⟩ = some (.int .i64 a3_0) ∧ w'.cell? ⟨gb440, 1, none⟩ = some (.int .i64 a3_1) ∧ w'.cell? ⟨gb440, 2, none⟩ = some (.int .i64 a3_2)) (ds := []) (lb_ 14 0) (by kernel_rfl) rfl rfl ⟨(cellS65_0 HI0.out.1), (cellS65_1 HI0.out.1), (cellS65_2 HI0.out.1), (cellS65_3 HI0.out.1), (blk_cell BK440.out 0).trans rfl, (blk_cell BK440.out 1).trans rfl, (blk_cell BK440.out 2).trans rfl⟩ (fun hHeld => ?_); refine with_tabW control_Steer_Step.tab11 control_Steer_Step.bits11 (fun HT_ HW_ => ?_)
       generalize w56.drew = w57 at BK438 BK439 BK440 BK441 BK442 BK443 HI0 HK HB hHeld ⊢
       refine pure_ (i := 0) (N := some 46) (v := ?_) (a' := ?_) (lb_ 14 1) rfl rfl (any_of HT_.out (by kernel_rfl)) (fun _ _ _ h => h) (Or.inl ⟨by rfl, ?_⟩) ?_ ?_; rotate_left; (intro w'; go_simp; with_reducible rfl); rotate_left; (simp only [Act.put, List.setIfInBounds_toArray, List.set_cons_zero, List.set_cons_succ, i64_w, i32_w]; rfl)
       refine pure_ (i := 1) (N := some 47) (v := ?_) (a' := ?_) (lb_ 14 3) rfl rfl (any_of HT_.out (by kernel_rfl)) (fun _ _ _ h => h) (Or.inl ⟨by rfl, ?_⟩) ?_ ?_; rotate_left; (intro w'; go_simp; with_reducible rfl); rotate_left; (simp only [Act.put, List.setIfInBounds_toArray, List.set_cons_zero, List.set_cons_succ, i64_w, i32_w]; rfl)
       refine pure_ (i := 2) (N := some 48) (v := ?_) (a' := ?_) (lb_ 14 7) rfl rfl (any_of HT_.out (by kernel_rfl)) (fun _ _ _ h => h) (Or.inl ⟨by rfl, ?_⟩) ?_ ?_; rotate_left; (intro w'; go_simp; with_reducible rfl); rotate_left; (simp only [Act.put, List.setIfInBounds_toArray, List.set_cons_zero, List.set_cons_succ, i64_w, i32_w]; rfl)
       refine pure_ (i := 3) (N := some 49) (v := ?_) (a' := ?_) (lb_ 14 15) rfl rfl (any_of HT_.out (by kernel_rfl)) (fun _ _ _ h => h) (Or.inl ⟨by rfl, ?_⟩) ?_ ?_; rotate_left; (intro w'; go_simp; with_reducible rfl); rotate_left; (simp only [Act.put, List.setIfInBounds_toArray, List.set_cons_zero, List.set_cons_succ, i64_w, i32_w]; rfl)
       refine pure_ (i := 4) (N := some 50) (v := ?_) (a' := ?_) (lb_ 14 31) rfl rfl (any_of HT_.out (by kernel_rfl)) (fun _ _ _ h => h) (Or.inl ⟨by rfl, ?_⟩) ?_ ?_; rotate_left; (intro w'; go_simp; with_reducible rfl); rotate_left; (simp only [Act.put, List.setIfInBounds_toArray, List.set_cons_zero, List.set_cons_succ, i64_w, i32_w]; rfl)
       refine pure_ (i := 5) (N := some 51) (v := ?_) (a' := ?_) (lb_ 14 63) rfl rfl (any_of HT_.out (by kernel_rfl)) (fun _ _ _ h => h) (Or.inl ⟨by rfl, ?_⟩) ?_ ?_; rotate_left; (intro w'; go_simp; with_reducible rfl); rotate_left; (simp only [Act.put, List.setIfInBounds_toArray, List.set_cons_zero, List.set_cons_succ, i64_w, i32_w]; rfl)
       refine pure_ (i := 7) (N := some 53) (v := ?_) (a' := ?_) (lb_ 14 191) rfl rfl (any_of HT_.out (by kernel_rfl)) (fun _ _ _ h => h) (Or.inl ⟨by rfl, ?_⟩) ?_ ?_; rotate_left; (intro w'; go_simp; with_reducible rfl); rotate_left; (simp only [Act.put, List.setIfInBounds_toArray, List.set_cons_zero, List.set_cons_succ, i64_w, i32_w]; rfl)
       refine pure_ (i := 8) (N := some 54) (v := ?_) (a' := ?_) (lb_ 14 447) rfl rfl (any_of HT_.out (by kernel_rfl)) (fun _ _ _ h => h) (Or.inl ⟨by rfl, ?_⟩) ?_ ?_; rotate_left; (intro w'; go_simp; with_reducible rfl); rotate_left; (simp only [Act.put, List.setIfInBounds_toArray, List.set_cons_zero, List.set_cons_succ, i64_w, i32_w]; rfl)
       refine take_ (i := 6) (N := some 52) (v := ?_) (a' := ?_) (lb_ 14 511) rfl rfl (take_ofW HT_.out HW_.out (by kernel_rfl)) (fun _ _ _ h => h) (Or.inl ⟨by rfl, ?_⟩) hHeld ?_ ?_; rotate_left; (rintro w' ⟨s0, s1, s2, s3, s4, s5, s6⟩; go_simp; with_reducible rfl); rotate_left; (simp only [Act.put, List.setIfInBounds_toArray, List.set_cons_zero, List.set_cons_succ, i64_w, i32_w]; rfl)
       refine take_ (i := 9) (N := some 55) (v := ?_) (a' := ?_) (lb_ 14 1023) rfl rfl (take_ofW HT_.out HW_.out (by kernel_rfl)) (fun _ _ _ h => h) (Or.inl ⟨by rfl, ?_⟩) hHeld ?_ ?_; rotate_left; (rintro w' ⟨s0, s1, s2, s3, s4, s5, s6⟩; go_simp; with_reducible rfl); rotate_left; (simp only [Act.put, List.setIfInBounds_toArray, List.set_cons_zero, List.set_cons_succ, i64_w, i32_w]; rfl)
       refine one_ (i := 10) (N := some 56) (lb_ 14 2047) rfl rfl (one_of HT_.out (by kernel_rfl)) (by decide) (fun K hK => ?_)
       refine goes_ Try.func27 (by kernel_rfl) rfl #[.int .i64 t457, .int .i64 a3_0] (by rfl) rfl rfl (by (try simp only [List.map_toArray, List.map_cons, List.map_nil]); first | done | rfl | (simp only [List.length_drop, List.length_take]; rfl)) ?_
       with_reducible refine (fix_Sub.calls k1 t457 a3_0 t458 _ A41.out).mono ?_
       rintro e w' ⟨rfl, ⟨nd, rfl⟩⟩
       refine ⟨_, rfl, ?_⟩
       refine hK.out _ _ ⟨(cellS65_0 HI0.out.1), (cellS65_1 HI0.out.1), (cellS65_2 HI0.out.1), (cellS65_3 HI0.out.1), (blk_cell BK440.out 0).trans rfl, (blk_cell BK440.out 1).trans rfl, (blk_cell BK440.out 2).trans rfl⟩ (fun hHeld => ?_)
       clear hK K
       refine norm_ (a' := ?_) ?_ ?_
       rotate_left
       ·show Act.put _ (some 56) _ = _
        simp only [Act.put, List.setIfInBounds_toArray, List.set_cons_zero, List.set_cons_succ, i64_w, i32_w]
        rfl
       refine one_ (i := 11) (N := some 57) (lb_ 14 4095) rfl rfl (one_of HT_.out (by kernel_rfl)) (by decide) (fun K hK => ?_)
       refine goes_ Try.func33 (by kernel_rfl) rfl #[.int .i64 t458, .int .i64 (-64), .int .i64 64] (by rfl) rfl rfl (by (try simp only [List.map_toArray, List.map_cons, List.map_nil]); first | done | rfl | (simp only [List.length_drop, List.length_take]; rfl)) ?_
       with_reducible refine (fix_Clamp.calls t458 (-64) 64 t459 _ A42.out).mono ?_
       rintro e w' ⟨rfl, ⟨nd, rfl⟩⟩
       refine ⟨_, rfl, ?_⟩
       refine hK.out _ _ ⟨(cellS65_0 HI0.out.1), (cellS65_1 HI0.out.1), (cellS65_2 HI0.out.1), (cellS65_3 HI0.out.1), (blk_cell BK440.out 0).trans rfl, (blk_cell BK440.out 1).trans rfl, (blk_cell BK440.out 2).trans rfl⟩ (fun hHeld => ?_)
       clear hK K
       refine norm_ (a' := ?_) ?_ ?_
       rotate_left
       ·show Act.put _ (some 57) _ = _
        simp only [Act.put, List.setIfInBounds_toArray, List.set_cons_zero, List.set_cons_succ, i64_w, i32_w]
        rfl
       refine pure_ (i := 12) (N := some 58) (v := ?_) (a' := ?_) (lb_ 14 8191) rfl rfl (any_of HT_.out (by kernel_rfl)) (fun _ _ _ h => h) (Or.inl ⟨by rfl, ?_⟩) ?_ ?_; rotate_left; (intro w'; go_simp; with_reducible rfl); rotate_left; (simp only [Act.put, List.setIfInBounds_toArray, List.set_cons_zero, List.set_cons_succ, i64_w, i32_w]; rfl)
       refine one_ (i := 13) (N := none) (lb_ 14 16383) rfl rfl (one_of HT_.out (by kernel_rfl)) (by decide) (fun K hK => ?_)
       have hs58 : w57.cell? ⟨gb442, 0, none⟩ = some (.int .i64 x443000_1) := (blk_cell BK442.out 0).trans rfl
       have hfs58 := blk_frozen BK442.out 0
       have hns58_0 := NB438_442.out
       have hns58_1 := NB439_442.out
       have hns58_2 := NB440_442.out
       have hns58_3 := NB441_442.out
       have hns58_5 := NB443_442.out
       have hms58_0 := NB442_438.out
       have hms58_1 := NB442_439.out
       have hms58_2 := NB442_440.out
       have hms58_3 := NB442_441.out
       have hms58_5 := NB442_443.out
       refine skip_ (w1 := ?_) (by rfl) rfl ?_ ?_
       rotate_left
       ·go_simp
        rfl
       refine hK.out _ _ ⟨((cell_far (p := ⟨gb442, _, none⟩) NB0_442.out _).trans (hHeld.1)), ((cell_far (p := ⟨gb442, _, none⟩) NB0_442.out _).trans (hHeld.2.1)), ((cell_far (p := ⟨gb442, _, none⟩) NB0_442.out _).trans (hHeld.2.2.1)), ((cell_far (p := ⟨gb442, _, none⟩) NB0_442.out _).trans (hHeld.2.2.2.1)), ((cell_far (p := ⟨gb442, _, none⟩) NB440_442.out _).trans (hHeld.2.2.2.2.1)), ((cell_far (p := ⟨gb442, _, none⟩) NB440_442.out _).trans (hHeld.2.2.2.2.2.1)), ((cell_far (p := ⟨gb442, _, none⟩) NB440_442.out _).trans (hHeld.2.2.2.2.2.2))⟩ (fun hHeld => ?_)
       clear hK K
       refine done_ (done_of HT_.out (by kernel_rfl)) ?_
       try go_wp2
       go_roundg k1
       case measure => have := HK1.out; omega
       case rel => exact ⟨(1), (x1000_1), (t457), (x1002_1), (x1003_1), (x442000_1), (x442001_1), (x442002_1), (t459), (x443001_1), (x443002_1), (by first | rfl | (simp; done) | (simp [*]; done)), H', ⟨by have := HK1.out; omega⟩, ⟨by (with_reducible repeat (first | refine blk_drewN ?_ _ | refine blk_drew ?_ | refine blk_alloc ?_ _)); refine blk_far ?_ NB438_442.out _; (with_reducible repeat (first | refine blk_drewN ?_ _ | refine blk_drew ?_ | refine blk_alloc ?_ _)); exact BK438.out⟩, ⟨by (with_reducible repeat (first | refine blk_drewN ?_ _ | refine blk_drew ?_ | refine blk_alloc ?_ _)); refine blk_far ?_ NB439_442.out _; (with_reducible repeat (first | refine blk_drewN ?_ _ | refine blk_drew ?_ | refine blk_alloc ?_ _)); exact BK439.out⟩, ⟨by (with_reducible repeat (first | refine blk_drewN ?_ _ | refine blk_drew ?_ | refine blk_alloc ?_ _)); refine blk_far ?_ NB440_442.out _; (with_reducible repeat (first | refine blk_drewN ?_ _ | refine blk_drew ?_ | refine blk_alloc ?_ _)); exact BK440.out⟩, ⟨by (with_reducible repeat (first | refine blk_drewN ?_ _ | refine blk_drew ?_ | refine blk_alloc ?_ _)); refine blk_far ?_ NB441_442.out _; (with_reducible repeat (first | refine blk_drewN ?_ _ | refine blk_drew ?_ | refine blk_alloc ?_ _)); exact BK441.out⟩, ⟨by (with_reducible repeat (first | refine blk_drewN ?_ _ | refine blk_drew ?_ | refine blk_alloc ?_ _)); refine blk_put (cs := #[.int .i64 x443000_1, .int .i64 x443001_1, .int .i64 x443002_1]) ?_ 0 _ rfl; (with_reducible repeat (first | refine blk_drewN ?_ _ | refine blk_drew ?_ | refine blk_alloc ?_ _)); exact BK442.out⟩, ⟨by repeat (first | (with_reducible first | exact HI0.out | apply IsS65.alloc | apply IsS65.drewN | apply IsS65.drew | apply IsS65.set_0 | apply IsS65.set_1 | apply IsS65.set_2 | apply IsS65.set_3 | refine IsS65.far ?_ NB0_438.out _ | refine IsS65.far ?_ NB0_439.out _ | refine IsS65.far ?_ NB0_440.out _ | refine IsS65.far ?_ NB0_441.out _ | refine IsS65.far ?_ NB0_442.out _ | refine IsS65.far ?_ NB0_443.out _) | exact HI0.out)⟩, ⟨by repeat (first | (with_reducible first | exact HK.out | apply KeepBut.set_ | apply keep_drewN | apply keep_drew | apply keep_alloc | refine keep_far ?_ GW438.out _ | refine keep_far ?_ GW439.out _ | refine keep_far ?_ GW440.out _ | refine keep_far ?_ GW441.out _ | refine keep_far ?_ GW442.out _ | refine keep_far ?_ GW443.out _) | exact HK.out)⟩, ⟨by repeat (first | (with_reducible first | exact HB.out | apply below_alloc | apply pw_below_drewN | apply below_drew1 | refine below_set ?_ (IsS65.ge HI0.out) | refine below_set ?_ GE438.out | refine below_set ?_ GE439.out | refine below_set ?_ GE440.out | refine below_set ?_ GE441.out | refine below_set ?_ GE442.out | refine below_set ?_ GE443.out) | exact HB.out)⟩⟩
     rw [if_neg c17] at H
     by_cases c59 : x17_1 = 1
     ·subst c59
      have H1 : (if a1_3 = true then ((control_Steer_place.f k1 x1000_1 x1001_1 x1002_1 x1003_1 a1_3 a1_4 a1_5 a2_1).bind fun bt461 => ((fix_Slew.f k1 x1002_1 bt461.1 x1000_1).bind fun t466 => ((fix_Sub.f k1 t466 a3_1).bind fun t467 => ((fix_Clamp.f t467 (-64) 64).bind fun t468 => (control_Steer_Step.l0 k1 2 x1000_1 x1001_1 t466 x1003_1 a2_0 a2_1 a2_2 a3_0 a3_1 a3_2 x443000_1 t468 x443002_1 a1_0 a1_1 a1_2 a1_3 a1_4 a1_5 a1_6 a1_7 a1_8))))) else ((control_Steer_drift.f x1000_1 x1001_1 x1002_1 x1003_1 a1_3 a1_4 a1_5 a2_1).bind fun bt469 => ((fix_Slew.f k1 x1002_1 bt469.1 x1000_1).bind fun t474 => ((fix_Sub.f k1 t474 a3_1).bind fun t475 => ((fix_Clamp.f t475 (-64) 64).bind fun t476 => (control_Steer_Step.l0 k1 2 x1000_1 x1001_1 t474 x1003_1 a2_0 a2_1 a2_2 a3_0 a3_1 a3_2 x443000_1 t476 x443002_1 a1_0 a1_1 a1_2 a1_3 a1_4 a1_5 a1_6 a1_7 a1_8)))))) = some (r1, r2, r3, r4, r5, r6, r7) := by rw [if_pos rfl] at H; exact H
      clear H
      have H := H1
      clear H1
      by_cases c60 : a1_3 = true
      ·subst c60
       have H1 : ((control_Steer_place.f k1 x1000_1 x1001_1 x1002_1 x1003_1 true a1_4 a1_5 a2_1).bind fun bt461 => ((fix_Slew.f k1 x1002_1 bt461.1 x1000_1).bind fun t466 => ((fix_Sub.f k1 t466 a3_1).bind fun t467 => ((fix_Clamp.f t467 (-64) 64).bind fun t468 => (control_Steer_Step.l0 k1 2 x1000_1 x1001_1 t466 x1003_1 a2_0 a2_1 a2_2 a3_0 a3_1 a3_2 x443000_1 t468 x443002_1 a1_0 a1_1 a1_2 true a1_4 a1_5 a1_6 a1_7 a1_8))))) = some (r1, r2, r3, r4, r5, r6, r7) := by rw [if_pos rfl] at H; exact H
       clear H
       have H := H1
       clear H1
       replace H := Option.bind_eq_some_iff.mp H
       obtain ⟨⟨t461, t462, t463, t464, t465⟩, A610, H⟩ := H
       replace H : ((fix_Slew.f k1 x1002_1 t461 x1000_1).bind fun t466 => ((fix_Sub.f k1 t466 a3_1).bind fun t467 => ((fix_Clamp.f t467 (-64) 64).bind fun t468 => (control_Steer_Step.l0 k1 2 x1000_1 x1001_1 t466 x1003_1 a2_0 a2_1 a2_2 a3_0 a3_1 a3_2 x443000_1 t468 x443002_1 a1_0 a1_1 a1_2 true a1_4 a1_5 a1_6 a1_7 a1_8)))) = some (r1, r2, r3, r4, r5, r6, r7) := H
       have A61 := Aside0.mk A610
       clear A610
       obtain ⟨E0_, E1_, E2_, E3_⟩ := control_Steer_place.same A61.out
       subst E0_
       subst E1_
       subst E2_
       subst E3_
       replace H := Option.bind_eq_some_iff.mp H
       obtain ⟨t466, A620, H⟩ := H
       replace H : ((fix_Sub.f k1 t466 a3_1).bind fun t467 => ((fix_Clamp.f t467 (-64) 64).bind fun t468 => (control_Steer_Step.l0 k1 2 x1000_1 x1001_1 t466 x1003_1 a2_0 a2_1 a2_2 a3_0 a3_1 a3_2 x443000_1 t468 x443002_1 a1_0 a1_1 a1_2 true a1_4 a1_5 a1_6 a1_7 a1_8))) = some (r1, r2, r3, r4, r5, r6, r7) := H
       have A62 := Aside0.mk A620
       clear A620
       replace H := Option.bind_eq_some_iff.mp H
       obtain ⟨t467, A630, H⟩ := H
       replace H : ((fix_Clamp.f t467 (-64) 64).bind fun t468 => (control_Steer_Step.l0 k1 2 x1000_1 x1001_1 t466 x1003_1 a2_0 a2_1 a2_2 a3_0 a3_1 a3_2 x443000_1 t468 x443002_1 a1_0 a1_1 a1_2 true a1_4 a1_5 a1_6 a1_7 a1_8)) = some (r1, r2, r3, r4, r5, r6, r7) := H
       have A63 := Aside0.mk A630
       clear A630
       replace H := Option.bind_eq_some_iff.mp H
       obtain ⟨t468, A640, H⟩ := H
       replace H : (control_Steer_Step.l0 k1 2 x1000_1 x1001_1 t466 x1003_1 a2_0 a2_1 a2_2 a3_0 a3_1 a3_2 x443000_1 t468 x443002_1 a1_0 a1_1 a1_2 true a1_4 a1_5 a1_6 a1_7 a1_8) = some (r1, r2, r3, r4, r5, r6, r7) := H
       have A64 := Aside0.mk A640
       clear A640
       have H' := Aside0.mk H
       clear H
       try go_wp2_with (first | ((with_reducible refine gate_dst (N := 11) rfl ?_); refine box_event ?hg (N := 11) ?hd (cs := #[.bool false, .int .i64 0, .int .i64 0]) (t := 41) ?hr ?_; (case hd => rfl); (case hg => rfl); (case hr => first | (go_simp; done) | (go_simp; rfl)); intro gb460 hg w65 hbox hb; have n0_ := Aside0.mk (blk_below BK438.out hb); have n1_ := Aside0.mk (blk_below BK439.out hb); have n2_ := Aside0.mk (blk_below BK440.out hb); have n3_ := Aside0.mk (blk_below BK441.out hb); have n4_ := Aside0.mk (blk_below BK442.out hb); have n5_ := Aside0.mk (IsS65.below HI0.out hb); have n6_ := Aside0.mk (KeepBut.trans HK.out (KeepBut.of_below hb g none) (.inl rfl)); have n7_ := Aside0.mk (below_step HB.out hb); have n8_ := Aside0.mk (hbox); have n9_ := Aside0.mk ((by rw [hg]; exact (keep_size (w := w) (g := g) (row := none) HK.out) : w.heap.size ≤ gb460)); have n10_ := Aside0.mk ((Nat.le_trans HW0.out (by rw [hg]; exact (keep_size (w := w) (g := g) (row := none) HK.out) : w.heap.size ≤ gb460) : w0.heap.size ≤ gb460)); have n11_ := Aside0.mk ((by rw [hg]; exact Nat.ne_of_lt (blk_lt BK438.out) : gb438 ≠ gb460)); have n12_ := Aside0.mk ((by rw [hg]; exact Nat.ne_of_gt (blk_lt BK438.out) : gb460 ≠ gb438)); have n13_ := Aside0.mk ((by rw [hg]; exact Nat.ne_of_lt (blk_lt BK439.out) : gb439 ≠ gb460)); have n14_ := Aside0.mk ((by rw [hg]; exact Nat.ne_of_gt (blk_lt BK439.out) : gb460 ≠ gb439)); have n15_ := Aside0.mk ((by rw [hg]; exact Nat.ne_of_lt (blk_lt BK440.out) : gb440 ≠ gb460)); have n16_ := Aside0.mk ((by rw [hg]; exact Nat.ne_of_gt (blk_lt BK440.out) : gb460 ≠ gb440)); have n17_ := Aside0.mk ((by rw [hg]; exact Nat.ne_of_lt (blk_lt BK441.out) : gb441 ≠ gb460)); have n18_ := Aside0.mk ((by rw [hg]; exact Nat.ne_of_gt (blk_lt BK441.out) : gb460 ≠ gb441)); have n19_ := Aside0.mk ((by rw [hg]; exact Nat.ne_of_lt (blk_lt BK442.out) : gb442 ≠ gb460)); have n20_ := Aside0.mk ((by rw [hg]; exact Nat.ne_of_gt (blk_lt BK442.out) : gb460 ≠ gb442)); have n21_ := Aside0.mk ((by rw [hg]; exact Nat.ne_of_lt (IsS65.lt HI0.out) : g ≠ gb460)); have n22_ := Aside0.mk ((by rw [hg]; exact Nat.ne_of_gt (IsS65.lt HI0.out) : gb460 ≠ g)); clear BK438; clear BK439; clear BK440; clear BK441; clear BK442; clear HI0; clear HK; clear HB; have BK438 := n0_; have BK439 := n1_; have BK440 := n2_; have BK441 := n3_; have BK442 := n4_; have HI0 := n5_; have HK := n6_; have HB := n7_; have BK460 := n8_; have GW460 := n9_; have GE460 := n10_; have NB438_460 := n11_; have NB460_438 := n12_; have NB439_460 := n13_; have NB460_439 := n14_; have NB440_460 := n15_; have NB460_440 := n16_; have NB441_460 := n17_; have NB460_441 := n18_; have NB442_460 := n19_; have NB460_442 := n20_; have NB0_460 := n21_; have NB460_0 := n22_; clear n0_ n1_ n2_ n3_ n4_ n5_ n6_ n7_ n8_ n9_ n10_ n11_ n12_ n13_ n14_ n15_ n16_ n17_ n18_ n19_ n20_ n21_ n22_; clear hb hbox hg; have hnb66 := NB460_438.out; have hnc66 := NB438_460.out; have hnb67 := NB460_439.out; have hnc67 := NB439_460.out; have hnb68 := NB460_440.out; have hnc68 := NB440_460.out; have hnb69 := NB460_441.out; have hnc69 := NB441_460.out; have hnb70 := NB460_442.out; have hnc70 := NB442_460.out; have hnb71 := NB460_0.out; have hnc71 := NB0_460.out; have hcz72_0 := blk_cells3 (w := w65) (g := gb460) BK460.out; have hfz72_0 := blk_frozen BK460.out))
       (repeat (rw [drewN_self w65]; generalize hq_ : World.drewN w65 _ = w65; have n0_ := Aside0.mk (blk_at hq_ BK438.out); have n1_ := Aside0.mk (blk_at hq_ BK439.out); have n2_ := Aside0.mk (blk_at hq_ BK440.out); have n3_ := Aside0.mk (blk_at hq_ BK441.out); have n4_ := Aside0.mk (blk_at hq_ BK442.out); have n5_ := Aside0.mk (blk_at hq_ BK460.out); have n6_ := Aside0.mk (IsS65.at_ hq_ HI0.out); have n7_ := Aside0.mk (keep_at hq_ HK.out); have n8_ := Aside0.mk (below_at hq_ HB.out); clear hq_ BK438 BK439 BK440 BK441 BK442 BK460 HI0 HK HB; have BK438 := n0_; have BK439 := n1_; have BK440 := n2_; have BK441 := n3_; have BK442 := n4_; have BK460 := n5_; have HI0 := n6_; have HK := n7_; have HB := n8_; clear n0_ n1_ n2_ n3_ n4_ n5_ n6_ n7_ n8_))
       obtain ⟨w73, hW_⟩ : ∃ W_, W_ = (((w65.setCell ⟨gb460, 0, none⟩ (.bool true)).setCell ⟨gb460, 1, none⟩ (.int .i64 a1_4)).setCell ⟨gb460, 2, none⟩ (.int .i64 a1_5)) := ⟨_, rfl⟩
       have n0_ : Aside0 (w73.heap[gb438]? = some (.cells #[.bool a1_0, .int .i64 a1_1, .int .i64 a1_2, .bool true, .int .i64 a1_4, .int .i64 a1_5, .bool a1_6, .int .i64 a1_7, .int .i64 a1_8] 42 (0, 0))) := ⟨by rw [hW_]; repeat (first | exact BK438.out | refine blk_far ?_ NB438_460.out _ | (with_reducible first | refine blk_drewN ?_ _ | refine blk_drew ?_ | refine blk_alloc ?_ _))⟩
       have n1_ : Aside0 (w73.heap[gb439]? = some (.cells #[.int .i64 a2_0, .int .i64 a2_1, .int .i64 a2_2] 37 (0, 0))) := ⟨by rw [hW_]; repeat (first | exact BK439.out | refine blk_far ?_ NB439_460.out _ | (with_reducible first | refine blk_drewN ?_ _ | refine blk_drew ?_ | refine blk_alloc ?_ _))⟩
       have n2_ : Aside0 (w73.heap[gb440]? = some (.cells #[.int .i64 a3_0, .int .i64 a3_1, .int .i64 a3_2] 37 (0, 0))) := ⟨by rw [hW_]; repeat (first | exact BK440.out | refine blk_far ?_ NB440_460.out _ | (with_reducible first | refine blk_drewN ?_ _ | refine blk_drew ?_ | refine blk_alloc ?_ _))⟩
       have n3_ : Aside0 (w73.heap[gb441]? = some (.cells #[.int .i64 x442000_1, .int .i64 x442001_1, .int .i64 x442002_1] 37 (0, 0))) := ⟨by rw [hW_]; repeat (first | exact BK441.out | refine blk_far ?_ NB441_460.out _ | (with_reducible first | refine blk_drewN ?_ _ | refine blk_drew ?_ | refine blk_alloc ?_ _))⟩
       have n4_ : Aside0 (w73.heap[gb442]? = some (.cells #[.int .i64 x443000_1, .int .i64 x443001_1, .int .i64 x443002_1] 37 (0, 0))) := ⟨by rw [hW_]; repeat (first | exact BK442.out | refine blk_far ?_ NB442_460.out _ | (with_reducible first | refine blk_drewN ?_ _ | refine blk_drew ?_ | refine blk_alloc ?_ _))⟩
       have n5_ : Aside0 (w73.heap[gb460]? = some (.cells #[.bool true, .int .i64 a1_4, .int .i64 a1_5] 41 (0, 0))) := ⟨by rw [hW_]; (with_reducible repeat (first | refine blk_drewN ?_ _ | refine blk_drew ?_ | refine blk_alloc ?_ _)); refine blk_put (cs := #[.bool true, .int .i64 a1_4, .int .i64 0]) ?_ 2 _ rfl; (with_reducible repeat (first | refine blk_drewN ?_ _ | refine blk_drew ?_ | refine blk_alloc ?_ _)); refine blk_put (cs := #[.bool true, .int .i64 0, .int .i64 0]) ?_ 1 _ rfl; (with_reducible repeat (first | refine blk_drewN ?_ _ | refine blk_drew ?_ | refine blk_alloc ?_ _)); refine blk_put (cs := #[.bool false, .int .i64 0, .int .i64 0]) ?_ 0 _ rfl; (with_reducible repeat (first | refine blk_drewN ?_ _ | refine blk_drew ?_ | refine blk_alloc ?_ _)); exact BK460.out⟩
       have n6_ : Aside0 (IsS65 w0 w73 g x1000_1 x1001_1 x1002_1 x1003_1) := ⟨by rw [hW_]; repeat (first | (with_reducible first | exact HI0.out | apply IsS65.alloc | apply IsS65.drewN | apply IsS65.drew | apply IsS65.set_0 | apply IsS65.set_1 | apply IsS65.set_2 | apply IsS65.set_3 | refine IsS65.far ?_ NB0_438.out _ | refine IsS65.far ?_ NB0_439.out _ | refine IsS65.far ?_ NB0_440.out _ | refine IsS65.far ?_ NB0_441.out _ | refine IsS65.far ?_ NB0_442.out _ | refine IsS65.far ?_ NB0_460.out _) | exact HI0.out)⟩
       have n7_ : Aside0 (KeepBut w w73 g none) := ⟨by rw [hW_]; repeat (first | (with_reducible first | exact HK.out | apply KeepBut.set_ | apply keep_drewN | apply keep_drew | apply keep_alloc | refine keep_far ?_ GW438.out _ | refine keep_far ?_ GW439.out _ | refine keep_far ?_ GW440.out _ | refine keep_far ?_ GW441.out _ | refine keep_far ?_ GW442.out _ | refine keep_far ?_ GW460.out _) | exact HK.out)⟩
       have n8_ : Aside0 (Below w0.heap.size w0 w73) := ⟨by rw [hW_]; repeat (first | (with_reducible first | exact HB.out | apply below_alloc | apply pw_below_drewN | apply below_drew1 | refine below_set ?_ (IsS65.ge HI0.out) | refine below_set ?_ GE438.out | refine below_set ?_ GE439.out | refine below_set ?_ GE440.out | refine below_set ?_ GE441.out | refine below_set ?_ GE442.out | refine below_set ?_ GE460.out) | exact HB.out)⟩
       (try clear BK438)
       (try clear BK439)
       (try clear BK440)
       (try clear BK441)
       (try clear BK442)
       (try clear BK460)
       (try clear HI0)
       (try clear HK)
       (try clear HB)
       rw [← hW_]
       clear hW_
       have BK438 := n0_
       have BK439 := n1_
       have BK440 := n2_
       have BK441 := n3_
       have BK442 := n4_
       have BK460 := n5_
       have HI0 := n6_
       have HK := n7_
       have HB := n8_
       clear n0_ n1_ n2_ n3_ n4_ n5_ n6_ n7_ n8_
       have n0_ := Aside0.mk (blk_drew BK438.out)
       have n1_ := Aside0.mk (blk_drew BK439.out)
       have n2_ := Aside0.mk (blk_drew BK440.out)
       have n3_ := Aside0.mk (blk_drew BK441.out)
       have n4_ := Aside0.mk (blk_drew BK442.out)
       have n5_ := Aside0.mk (blk_drew BK460.out)
       have n6_ := Aside0.mk (IsS65.drew HI0.out)
       have n7_ := Aside0.mk (keep_drew HK.out)
       have n8_ := Aside0.mk (below_drew1 HB.out)
       clear BK438
       clear BK439
       clear BK440
       clear BK441
       clear BK442
       clear BK460
       clear HI0
       clear HK
       clear HB
       have BK438 := n0_
       have BK439 := n1_
       have BK440 := n2_
       have BK441 := n3_
       have BK442 := n4_
       have BK460 := n5_
       have HI0 := n6_
       have HK := n7_
       have HB := n8_
       clear n0_ n1_ n2_ n3_ n4_ n5_ n6_ n7_ n8_
       refine start_ (n := 24) (S := fun w' => w'.cell? ⟨g, 0, none⟩ = some (.int .i64 x1000_1) ∧ w'.cell? ⟨g, 1, none⟩ = some (.int .i64 x1001_1) ∧ w'.cell? ⟨g, 2, none⟩ = some (.int .i64 x1002_1) ∧ w'.cell? ⟨g, 3, none⟩ = some (.int .i64 x1003_1) ∧ w'.cell? ⟨gb460, 0, none⟩ = some (.bool true) ∧ w'.cell? ⟨gb460, 1, none⟩ = some (.int .i64 a1_4) ∧ w'.cell? ⟨gb460, 2, none⟩ = some (.int .i64 a1_5) ∧ w'.cell? ⟨gb439, 0, none⟩ = some (.int .i64 a2_0) ∧ w'.cell? ⟨gb439, 1, none⟩ = some (.int .i64 a2_1) ∧ w'.cell? ⟨gb439, 2, none⟩ = some (.int .i64 a2_2)) (ds := [23]) (lb_ 24 0) (by kernel_rfl) rfl rfl ⟨(cellS65_0 HI0.out.1), (cellS65_1 HI0.out.1), (cellS65_2 HI0.out.1), (cellS65_3 HI0.out.1), (blk_cell BK460.out 0).trans rfl, (blk_cell BK460.out 1).trans rfl, (blk_cell BK460.out 2).trans rfl, (blk_cell BK439.out 0).trans rfl, (blk_cell BK439.out 1).trans rfl, (blk_cell BK439.out 2).trans rfl⟩ (fun hHeld => ?_); refine with_tabW control_Steer_Step.tab10 control_Steer_Step.bits10 (fun HT_ HW_ => ?_)
       generalize w73.drew = w74 at BK438 BK439 BK440 BK441 BK442 BK460 HI0 HK HB hHeld ⊢
       refine pure_ (i := 0) (N := some 23) (v := ?_) (a' := ?_) (lb_ 24 1) rfl rfl (any_of HT_.out (by kernel_rfl)) (fun _ _ _ h => h) (Or.inl ⟨by rfl, ?_⟩) ?_ ?_; rotate_left; (intro w'; go_simp; with_reducible rfl); rotate_left; (simp only [Act.put, List.setIfInBounds_toArray, List.set_cons_zero, List.set_cons_succ, i64_w, i32_w]; rfl)
       refine pure_ (i := 1) (N := some 24) (v := ?_) (a' := ?_) (lb_ 24 3) rfl rfl (any_of HT_.out (by kernel_rfl)) (fun _ _ _ h => h) (Or.inl ⟨by rfl, ?_⟩) ?_ ?_; rotate_left; (intro w'; go_simp; with_reducible rfl); rotate_left; (simp only [Act.put, List.setIfInBounds_toArray, List.set_cons_zero, List.set_cons_succ, i64_w, i32_w]; rfl)
       refine pure_ (i := 2) (N := some 25) (v := ?_) (a' := ?_) (lb_ 24 7) rfl rfl (any_of HT_.out (by kernel_rfl)) (fun _ _ _ h => h) (Or.inl ⟨by rfl, ?_⟩) ?_ ?_; rotate_left; (intro w'; go_simp; with_reducible rfl); rotate_left; (simp only [Act.put, List.setIfInBounds_toArray, List.set_cons_zero, List.set_cons_succ, i64_w, i32_w]; rfl)
       refine pure_ (i := 3) (N := some 26) (v := ?_) (a' := ?_) (lb_ 24 15) rfl rfl (any_of HT_.out (by kernel_rfl)) (fun _ _ _ h => h) (Or.inl ⟨by rfl, ?_⟩) ?_ ?_; rotate_left; (intro w'; go_simp; with_reducible rfl); rotate_left; (simp only [Act.put, List.setIfInBounds_toArray, List.set_cons_zero, List.set_cons_succ, i64_w, i32_w]; rfl)
       refine pure_ (i := 4) (N := some 27) (v := ?_) (a' := ?_) (lb_ 24 31) rfl rfl (any_of HT_.out (by kernel_rfl)) (fun _ _ _ h => h) (Or.inl ⟨by rfl, ?_⟩) ?_ ?_; rotate_left; (intro w'; go_simp; with_reducible rfl); rotate_left; (simp only [Act.put, List.setIfInBounds_toArray, List.set_cons_zero, List.set_cons_succ, i64_w, i32_w]; rfl)
       refine pure_ (i := 5) (N := some 28) (v := ?_) (a' := ?_) (lb_ 24 63) rfl rfl (any_of HT_.out (by kernel_rfl)) (fun _ _ _ h => h) (Or.inl ⟨by rfl, ?_⟩) ?_ ?_; rotate_left; (intro w'; go_simp; with_reducible rfl); rotate_left; (simp only [Act.put, List.setIfInBounds_toArray, List.set_cons_zero, List.set_cons_succ, i64_w, i32_w]; rfl)
       refine pure_ (i := 6) (N := some 29) (v := ?_) (a' := ?_) (lb_ 24 127) rfl rfl (any_of HT_.out (by kernel_rfl)) (fun _ _ _ h => h) (Or.inl ⟨by rfl, ?_⟩) ?_ ?_; rotate_left; (intro w'; go_simp; with_reducible rfl); rotate_left; (simp only [Act.put, List.setIfInBounds_toArray, List.set_cons_zero, List.set_cons_succ, i64_w, i32_w]; rfl)
       refine pure_ (i := 8) (N := some 31) (v := ?_) (a' := ?_) (lb_ 24 383) rfl rfl (any_of HT_.out (by kernel_rfl)) (fun _ _ _ h => h) (Or.inl ⟨by rfl, ?_⟩) ?_ ?_; rotate_left; (intro w'; go_simp; with_reducible rfl); rotate_left; (simp only [Act.put, List.setIfInBounds_toArray, List.set_cons_zero, List.set_cons_succ, i64_w, i32_w]; rfl)
       refine pure_ (i := 9) (N := some 32) (v := ?_) (a' := ?_) (lb_ 24 895) rfl rfl (any_of HT_.out (by kernel_rfl)) (fun _ _ _ h => h) (Or.inl ⟨by rfl, ?_⟩) ?_ ?_; rotate_left; (intro w'; go_simp; with_reducible rfl); rotate_left; (simp only [Act.put, List.setIfInBounds_toArray, List.set_cons_zero, List.set_cons_succ, i64_w, i32_w]; rfl)
       refine pure_ (i := 11) (N := some 34) (v := ?_) (a' := ?_) (lb_ 24 2943) rfl rfl (any_of HT_.out (by kernel_rfl)) (fun _ _ _ h => h) (Or.inl ⟨by rfl, ?_⟩) ?_ ?_; rotate_left; (intro w'; go_simp; with_reducible rfl); rotate_left; (simp only [Act.put, List.setIfInBounds_toArray, List.set_cons_zero, List.set_cons_succ, i64_w, i32_w]; rfl)
       refine pure_ (i := 12) (N := some 35) (v := ?_) (a' := ?_) (lb_ 24 7039) rfl rfl (any_of HT_.out (by kernel_rfl)) (fun _ _ _ h => h) (Or.inl ⟨by rfl, ?_⟩) ?_ ?_; rotate_left; (intro w'; go_simp; with_reducible rfl); rotate_left; (simp only [Act.put, List.setIfInBounds_toArray, List.set_cons_zero, List.set_cons_succ, i64_w, i32_w]; rfl)
       refine pure_ (i := 15) (N := some 38) (v := ?_) (a' := ?_) (lb_ 24 39807) rfl rfl (any_of HT_.out (by kernel_rfl)) (fun _ _ _ h => h) (Or.inl ⟨by rfl, ?_⟩) ?_ ?_; rotate_left; (intro w'; go_simp; with_reducible rfl); rotate_left; (simp only [Act.put, List.setIfInBounds_toArray, List.set_cons_zero, List.set_cons_succ, i64_w, i32_w]; rfl)
       refine pure_ (i := 16) (N := some 39) (v := ?_) (a' := ?_) (lb_ 24 105343) rfl rfl (any_of HT_.out (by kernel_rfl)) (fun _ _ _ h => h) (Or.inl ⟨by rfl, ?_⟩) ?_ ?_; rotate_left; (intro w'; go_simp; with_reducible rfl); rotate_left; (simp only [Act.put, List.setIfInBounds_toArray, List.set_cons_zero, List.set_cons_succ, i64_w, i32_w]; rfl)
       refine pure_ (i := 17) (N := some 40) (v := ?_) (a' := ?_) (lb_ 24 236415) rfl rfl (any_of HT_.out (by kernel_rfl)) (fun _ _ _ h => h) (Or.inl ⟨by rfl, ?_⟩) ?_ ?_; rotate_left; (intro w'; go_simp; with_reducible rfl); rotate_left; (simp only [Act.put, List.setIfInBounds_toArray, List.set_cons_zero, List.set_cons_succ, i64_w, i32_w]; rfl)
       refine pure_ (i := 20) (N := some 43) (v := ?_) (a' := ?_) (lb_ 24 1284991) rfl rfl (any_of HT_.out (by kernel_rfl)) (fun _ _ _ h => h) (Or.inl ⟨by rfl, ?_⟩) ?_ ?_; rotate_left; (intro w'; go_simp; with_reducible rfl); rotate_left; (simp only [Act.put, List.setIfInBounds_toArray, List.set_cons_zero, List.set_cons_succ, i64_w, i32_w]; rfl)
       refine pure_ (i := 21) (N := some 44) (v := ?_) (a' := ?_) (lb_ 24 3382143) rfl rfl (any_of HT_.out (by kernel_rfl)) (fun _ _ _ h => h) (Or.inl ⟨by rfl, ?_⟩) ?_ ?_; rotate_left; (intro w'; go_simp; with_reducible rfl); rotate_left; (simp only [Act.put, List.setIfInBounds_toArray, List.set_cons_zero, List.set_cons_succ, i64_w, i32_w]; rfl)
       refine take_ (i := 7) (N := some 30) (v := ?_) (a' := ?_) (lb_ 24 3382271) rfl rfl (take_ofW HT_.out HW_.out (by kernel_rfl)) (fun _ _ _ h => h) (Or.inl ⟨by rfl, ?_⟩) hHeld ?_ ?_; rotate_left; (rintro w' ⟨s0, s1, s2, s3, s4, s5, s6, s7, s8, s9⟩; go_simp; with_reducible rfl); rotate_left; (simp only [Act.put, List.setIfInBounds_toArray, List.set_cons_zero, List.set_cons_succ, i64_w, i32_w]; rfl)
       refine take_ (i := 10) (N := some 33) (v := ?_) (a' := ?_) (lb_ 24 3383295) rfl rfl (take_ofW HT_.out HW_.out (by kernel_rfl)) (fun _ _ _ h => h) (Or.inl ⟨by rfl, ?_⟩) hHeld ?_ ?_; rotate_left; (rintro w' ⟨s0, s1, s2, s3, s4, s5, s6, s7, s8, s9⟩; go_simp; with_reducible rfl); rotate_left; (simp only [Act.put, List.setIfInBounds_toArray, List.set_cons_zero, List.set_cons_succ, i64_w, i32_w]; rfl)
       refine take_ (i := 13) (N := some 36) (v := ?_) (a' := ?_) (lb_ 24 3391487) rfl rfl (take_ofW HT_.out HW_.out (by kernel_rfl)) (fun _ _ _ h => h) (Or.inl ⟨by rfl, ?_⟩) hHeld ?_ ?_; rotate_left; (rintro w' ⟨s0, s1, s2, s3, s4, s5, s6, s7, s8, s9⟩; go_simp; with_reducible rfl); rotate_left; (simp only [Act.put, List.setIfInBounds_toArray, List.set_cons_zero, List.set_cons_succ, i64_w, i32_w]; rfl)
       refine take_ (i := 18) (N := some 41) (v := ?_) (a' := ?_) (lb_ 24 3653631) rfl rfl (take_ofW HT_.out HW_.out (by kernel_rfl)) (fun _ _ _ h => h) (Or.inl ⟨by rfl, ?_⟩) hHeld ?_ ?_; rotate_left; (rintro w' ⟨s0, s1, s2, s3, s4, s5, s6, s7, s8, s9⟩; go_simp; with_reducible rfl); rotate_left; (simp only [Act.put, List.setIfInBounds_toArray, List.set_cons_zero, List.set_cons_succ, i64_w, i32_w]; rfl)
       refine one_ (i := 14) (N := some 37) (lb_ 24 3670015) rfl rfl (one_of HT_.out (by kernel_rfl)) (by decide) (fun K hK => ?_)
       refine goesv_ Try.func40 (by kernel_rfl) rfl #[.pointer (some ⟨g, 0, none⟩), .agg #[.bool true, .int .i64 a1_4, .int .i64 a1_5], .int .i64 a2_1] (by rfl) rfl rfl rfl (by (try simp only [List.map_toArray, List.map_cons, List.map_nil]); first | done | rfl | (simp only [List.length_drop, List.length_take]; rfl)) ?_
       with_reducible refine (control_Steer_place.calls k1 g x1000_1 x1001_1 x1002_1 x1003_1 true a1_4 a1_5 a2_1 t461 x1000_1 x1001_1 x1002_1 x1003_1 w0 _ ?side1 ?side2 A61.out).mono ?_
       (case side1 => repeat (first | (with_reducible first | exact HI0.out | apply IsS65.alloc | apply IsS65.drewN | apply IsS65.drew | apply IsS65.set_0 | apply IsS65.set_1 | apply IsS65.set_2 | apply IsS65.set_3 | refine IsS65.far ?_ NB0_438.out _ | refine IsS65.far ?_ NB0_439.out _ | refine IsS65.far ?_ NB0_440.out _ | refine IsS65.far ?_ NB0_441.out _ | refine IsS65.far ?_ NB0_442.out _ | refine IsS65.far ?_ NB0_460.out _) | exact HI0.out))
       (case side2 => repeat (first | (with_reducible first | exact HB.out | apply below_alloc | apply pw_below_drewN | apply below_drew1 | refine below_set ?_ (IsS65.ge HI0.out) | refine below_set ?_ GE438.out | refine below_set ?_ GE439.out | refine below_set ?_ GE440.out | refine below_set ?_ GE441.out | refine below_set ?_ GE442.out | refine below_set ?_ GE460.out) | exact HB.out))
       rintro e w75 ⟨rfl, hi, hb, hk⟩
       refine ⟨_, rfl, ?_⟩
       have n0_ := Aside0.mk (KeepBut.blk hk BK438.out NB438_0.out (by simp))
       have n1_ := Aside0.mk (KeepBut.blk hk BK439.out NB439_0.out (by simp))
       have n2_ := Aside0.mk (KeepBut.blk hk BK440.out NB440_0.out (by simp))
       have n3_ := Aside0.mk (KeepBut.blk hk BK441.out NB441_0.out (by simp))
       have n4_ := Aside0.mk (KeepBut.blk hk BK442.out NB442_0.out (by simp))
       have n5_ := Aside0.mk (KeepBut.blk hk BK460.out NB460_0.out (by simp))
       have n6_ := Aside0.mk (KeepBut.trans HK.out hk (.inl rfl))
       have n7_ := Aside0.mk (hb)
       have n8_ := Aside0.mk (hi)
       clear BK438
       clear BK439
       clear BK440
       clear BK441
       clear BK442
       clear BK460
       clear HK
       clear HB
       clear HI0
       have BK438 := n0_
       have BK439 := n1_
       have BK440 := n2_
       have BK441 := n3_
       have BK442 := n4_
       have BK460 := n5_
       have HK := n6_
       have HB := n7_
       have HI0 := n8_
       clear n0_ n1_ n2_ n3_ n4_ n5_ n6_ n7_ n8_
       (try clear hb)
       (try clear hb2)
       (try clear hk)
       (try clear hi)
       refine hK.out _ _ ⟨(cellS65_0 HI0.out.1), (cellS65_1 HI0.out.1), (cellS65_2 HI0.out.1), (cellS65_3 HI0.out.1), (blk_cell BK460.out 0).trans rfl, (blk_cell BK460.out 1).trans rfl, (blk_cell BK460.out 2).trans rfl, (blk_cell BK439.out 0).trans rfl, (blk_cell BK439.out 1).trans rfl, (blk_cell BK439.out 2).trans rfl⟩ (fun hHeld => ?_)
       clear hK K
       refine norm_ (a' := ?_) ?_ ?_
       rotate_left
       ·show Act.put _ (some 37) _ = _
        simp only [Act.put, List.setIfInBounds_toArray, List.set_cons_zero, List.set_cons_succ, i64_w, i32_w]
        rfl
       refine one_ (i := 19) (N := some 42) (lb_ 24 4194303) rfl rfl (one_of HT_.out (by kernel_rfl)) (by decide) (fun K hK => ?_)
       refine goes_ Try.func41 (by kernel_rfl) rfl #[.int .i64 x1002_1, .int .i64 t461, .int .i64 x1000_1] (by rfl) rfl rfl (by (try simp only [List.map_toArray, List.map_cons, List.map_nil]); first | done | rfl | (simp only [List.length_drop, List.length_take]; rfl)) ?_
       with_reducible refine (fix_Slew.calls k1 x1002_1 t461 x1000_1 t466 _ A62.out).mono ?_
       rintro e w76 ⟨rfl, hb⟩
       refine ⟨_, rfl, ?_⟩
       have n0_ := Aside0.mk (blk_below BK438.out hb)
       have n1_ := Aside0.mk (blk_below BK439.out hb)
       have n2_ := Aside0.mk (blk_below BK440.out hb)
       have n3_ := Aside0.mk (blk_below BK441.out hb)
       have n4_ := Aside0.mk (blk_below BK442.out hb)
       have n5_ := Aside0.mk (IsS65.below HI0.out hb)
       have n6_ := Aside0.mk (blk_below BK460.out hb)
       have n7_ := Aside0.mk (KeepBut.trans HK.out (KeepBut.of_below hb g none) (.inl rfl))
       have n8_ := Aside0.mk (below_step HB.out hb)
       clear BK438
       clear BK439
       clear BK440
       clear BK441
       clear BK442
       clear HI0
       clear BK460
       clear HK
       clear HB
       have BK438 := n0_
       have BK439 := n1_
       have BK440 := n2_
       have BK441 := n3_
       have BK442 := n4_
       have HI0 := n5_
       have BK460 := n6_
       have HK := n7_
       have HB := n8_
       clear n0_ n1_ n2_ n3_ n4_ n5_ n6_ n7_ n8_
       (try clear hb)
       (try clear hb2)
       (try clear hk)
       (try clear hi)
       refine hK.out _ _ ⟨(cellS65_0 HI0.out.1), (cellS65_1 HI0.out.1), (cellS65_2 HI0.out.1), (cellS65_3 HI0.out.1), (blk_cell BK460.out 0).trans rfl, (blk_cell BK460.out 1).trans rfl, (blk_cell BK460.out 2).trans rfl, (blk_cell BK439.out 0).trans rfl, (blk_cell BK439.out 1).trans rfl, (blk_cell BK439.out 2).trans rfl⟩ (fun hHeld => ?_)
       clear hK K
       refine norm_ (a' := ?_) ?_ ?_
       rotate_left
       ·show Act.put _ (some 42) _ = _
        simp only [Act.put, List.setIfInBounds_toArray, List.set_cons_zero, List.set_cons_succ, i64_w, i32_w]
        rfl
       refine pure_ (i := 22) (N := some 45) (v := ?_) (a' := ?_) (lb_ 24 8388607) rfl rfl (any_of HT_.out (by kernel_rfl)) (fun _ _ _ h => h) (Or.inl ⟨by rfl, ?_⟩) ?_ ?_; rotate_left; (intro w'; go_simp; with_reducible rfl); rotate_left; (simp only [Act.put, List.setIfInBounds_toArray, List.set_cons_zero, List.set_cons_succ, i64_w, i32_w]; rfl)
       refine last_ (i := 23) (N := none) (lb_ 24 16777215) rfl rfl (one_of HT_.out (by kernel_rfl)) (by decide) (fun K hK => ?_)
       have hs77 := cellS65_2 HI0.out.1
       have hfs77 := blk_frozen HI0.out.1 2
       have hns77_0 := NB438_0.out
       have hns77_1 := NB439_0.out
       have hns77_2 := NB440_0.out
       have hns77_3 := NB441_0.out
       have hns77_4 := NB442_0.out
       have hns77_5 := NB460_0.out
       have hms77_0 := NB0_438.out
       have hms77_1 := NB0_439.out
       have hms77_2 := NB0_440.out
       have hms77_3 := NB0_441.out
       have hms77_4 := NB0_442.out
       have hms77_5 := NB0_460.out
       refine skip_ (w1 := ?_) (by rfl) rfl ?_ ?_
       rotate_left
       ·go_simp
        rfl
       refine hK.out _ _ ?_
       clear hK K
       refine done_ (done_of HT_.out (by kernel_rfl)) ?_
       try go_wp2
       (repeat (rw [drewN_self w76]; generalize hq_ : World.drewN w76 _ = w76; have n0_ := Aside0.mk (blk_at hq_ BK438.out); have n1_ := Aside0.mk (blk_at hq_ BK439.out); have n2_ := Aside0.mk (blk_at hq_ BK440.out); have n3_ := Aside0.mk (blk_at hq_ BK441.out); have n4_ := Aside0.mk (blk_at hq_ BK442.out); have n5_ := Aside0.mk (blk_at hq_ BK460.out); have n6_ := Aside0.mk (IsS65.at_ hq_ HI0.out); have n7_ := Aside0.mk (keep_at hq_ HK.out); have n8_ := Aside0.mk (below_at hq_ HB.out); clear hq_ BK438 BK439 BK440 BK441 BK442 BK460 HI0 HK HB; have BK438 := n0_; have BK439 := n1_; have BK440 := n2_; have BK441 := n3_; have BK442 := n4_; have BK460 := n5_; have HI0 := n6_; have HK := n7_; have HB := n8_; clear n0_ n1_ n2_ n3_ n4_ n5_ n6_ n7_ n8_))
       obtain ⟨w78, hW_⟩ : ∃ W_, W_ = (w76.setCell ⟨g, 2, none⟩ (.int .i64 t466)) := ⟨_, rfl⟩
       have n0_ : Aside0 (w78.heap[gb438]? = some (.cells #[.bool a1_0, .int .i64 a1_1, .int .i64 a1_2, .bool true, .int .i64 a1_4, .int .i64 a1_5, .bool a1_6, .int .i64 a1_7, .int .i64 a1_8] 42 (0, 0))) := ⟨by rw [hW_]; repeat (first | exact BK438.out | refine blk_far ?_ NB438_0.out _ | (with_reducible first | refine blk_drewN ?_ _ | refine blk_drew ?_ | refine blk_alloc ?_ _))⟩
       have n1_ : Aside0 (w78.heap[gb439]? = some (.cells #[.int .i64 a2_0, .int .i64 a2_1, .int .i64 a2_2] 37 (0, 0))) := ⟨by rw [hW_]; repeat (first | exact BK439.out | refine blk_far ?_ NB439_0.out _ | (with_reducible first | refine blk_drewN ?_ _ | refine blk_drew ?_ | refine blk_alloc ?_ _))⟩
       have n2_ : Aside0 (w78.heap[gb440]? = some (.cells #[.int .i64 a3_0, .int .i64 a3_1, .int .i64 a3_2] 37 (0, 0))) := ⟨by rw [hW_]; repeat (first | exact BK440.out | refine blk_far ?_ NB440_0.out _ | (with_reducible first | refine blk_drewN ?_ _ | refine blk_drew ?_ | refine blk_alloc ?_ _))⟩
       have n3_ : Aside0 (w78.heap[gb441]? = some (.cells #[.int .i64 x442000_1, .int .i64 x442001_1, .int .i64 x442002_1] 37 (0, 0))) := ⟨by rw [hW_]; repeat (first | exact BK441.out | refine blk_far ?_ NB441_0.out _ | (with_reducible first | refine blk_drewN ?_ _ | refine blk_drew ?_ | refine blk_alloc ?_ _))⟩
       have n4_ : Aside0 (w78.heap[gb442]? = some (.cells #[.int .i64 x443000_1, .int .i64 x443001_1, .int .i64 x443002_1] 37 (0, 0))) := ⟨by rw [hW_]; repeat (first | exact BK442.out | refine blk_far ?_ NB442_0.out _ | (with_reducible first | refine blk_drewN ?_ _ | refine blk_drew ?_ | refine blk_alloc ?_ _))⟩
       have n5_ : Aside0 (w78.heap[gb460]? = some (.cells #[.bool true, .int .i64 a1_4, .int .i64 a1_5] 41 (0, 0))) := ⟨by rw [hW_]; repeat (first | exact BK460.out | refine blk_far ?_ NB460_0.out _ | (with_reducible first | refine blk_drewN ?_ _ | refine blk_drew ?_ | refine blk_alloc ?_ _))⟩
       have n6_ : Aside0 (IsS65 w0 w78 g x1000_1 x1001_1 t466 x1003_1) := ⟨by rw [hW_]; repeat (first | (with_reducible first | exact HI0.out | apply IsS65.alloc | apply IsS65.drewN | apply IsS65.drew | apply IsS65.set_0 | apply IsS65.set_1 | apply IsS65.set_2 | apply IsS65.set_3 | refine IsS65.far ?_ NB0_438.out _ | refine IsS65.far ?_ NB0_439.out _ | refine IsS65.far ?_ NB0_440.out _ | refine IsS65.far ?_ NB0_441.out _ | refine IsS65.far ?_ NB0_442.out _ | refine IsS65.far ?_ NB0_460.out _) | exact HI0.out)⟩
       have n7_ : Aside0 (KeepBut w w78 g none) := ⟨by rw [hW_]; repeat (first | (with_reducible first | exact HK.out | apply KeepBut.set_ | apply keep_drewN | apply keep_drew | apply keep_alloc | refine keep_far ?_ GW438.out _ | refine keep_far ?_ GW439.out _ | refine keep_far ?_ GW440.out _ | refine keep_far ?_ GW441.out _ | refine keep_far ?_ GW442.out _ | refine keep_far ?_ GW460.out _) | exact HK.out)⟩
       have n8_ : Aside0 (Below w0.heap.size w0 w78) := ⟨by rw [hW_]; repeat (first | (with_reducible first | exact HB.out | apply below_alloc | apply pw_below_drewN | apply below_drew1 | refine below_set ?_ (IsS65.ge HI0.out) | refine below_set ?_ GE438.out | refine below_set ?_ GE439.out | refine below_set ?_ GE440.out | refine below_set ?_ GE441.out | refine below_set ?_ GE442.out | refine below_set ?_ GE460.out) | exact HB.out)⟩
       (try clear BK438)
       (try clear BK439)
       (try clear BK440)
       (try clear BK441)
       (try clear BK442)
       (try clear BK460)
       (try clear HI0)
       (try clear HK)
       (try clear HB)
       rw [← hW_]
       clear hW_
       have BK438 := n0_
       have BK439 := n1_
       have BK440 := n2_
       have BK441 := n3_
       have BK442 := n4_
       have BK460 := n5_
       have HI0 := n6_
       have HK := n7_
       have HB := n8_
       clear n0_ n1_ n2_ n3_ n4_ n5_ n6_ n7_ n8_
       have n0_ := Aside0.mk (blk_drew BK438.out)
       have n1_ := Aside0.mk (blk_drew BK439.out)
       have n2_ := Aside0.mk (blk_drew BK440.out)
       have n3_ := Aside0.mk (blk_drew BK441.out)
       have n4_ := Aside0.mk (blk_drew BK442.out)
       have n5_ := Aside0.mk (blk_drew BK460.out)
       have n6_ := Aside0.mk (IsS65.drew HI0.out)
       have n7_ := Aside0.mk (keep_drew HK.out)
       have n8_ := Aside0.mk (below_drew1 HB.out)
       clear BK438
       clear BK439
       clear BK440
       clear BK441
       clear BK442
       clear BK460
       clear HI0
       clear HK
       clear HB
       have BK438 := n0_
       have BK439 := n1_
       have BK440 := n2_
       have BK441 := n3_
       have BK442 := n4_
       have BK460 := n5_
       have HI0 := n6_
       have HK := n7_
       have HB := n8_
       clear n0_ n1_ n2_ n3_ n4_ n5_ n6_ n7_ n8_
       refine start_ (n := 14) (S := fun w' => w'.cell? ⟨g, 0, none⟩ = some (.int .i64 x1000_1) ∧ w'.cell? ⟨g, 1, none⟩ = some (.int .i64 x1001_1) ∧ w'.cell? ⟨g, 2, none⟩ = some (.int .i64 t466) ∧ w'.cell? ⟨g, 3, none⟩ = some (.int .i64 x1003_1) ∧ w'.cell? ⟨gb440, 0, none⟩ = some (.int .i64 a3_0) ∧ w'.cell? ⟨gb440, 1, none⟩ = some (.int .i64 a3_1) ∧ w'.cell? ⟨gb440, 2, none⟩ = some (.int .i64 a3_2)) (ds := []) (lb_ 14 0) (by kernel_rfl) rfl rfl ⟨(cellS65_0 HI0.out.1), (cellS65_1 HI0.out.1), (cellS65_2 HI0.out.1), (cellS65_3 HI0.out.1), (blk_cell BK440.out 0).trans rfl, (blk_cell BK440.out 1).trans rfl, (blk_cell BK440.out 2).trans rfl⟩ (fun hHeld => ?_); refine with_tabW control_Steer_Step.tab11 control_Steer_Step.bits11 (fun HT_ HW_ => ?_)
       generalize w78.drew = w79 at BK438 BK439 BK440 BK441 BK442 BK460 HI0 HK HB hHeld ⊢
       refine pure_ (i := 0) (N := some 46) (v := ?_) (a' := ?_) (lb_ 14 1) rfl rfl (any_of HT_.out (by kernel_rfl)) (fun _ _ _ h => h) (Or.inl ⟨by rfl, ?_⟩) ?_ ?_; rotate_left; (intro w'; go_simp; with_reducible rfl); rotate_left; (simp only [Act.put, List.setIfInBounds_toArray, List.set_cons_zero, List.set_cons_succ, i64_w, i32_w]; rfl)
       refine pure_ (i := 1) (N := some 47) (v := ?_) (a' := ?_) (lb_ 14 3) rfl rfl (any_of HT_.out (by kernel_rfl)) (fun _ _ _ h => h) (Or.inl ⟨by rfl, ?_⟩) ?_ ?_; rotate_left; (intro w'; go_simp; with_reducible rfl); rotate_left; (simp only [Act.put, List.setIfInBounds_toArray, List.set_cons_zero, List.set_cons_succ, i64_w, i32_w]; rfl)
       refine pure_ (i := 2) (N := some 48) (v := ?_) (a' := ?_) (lb_ 14 7) rfl rfl (any_of HT_.out (by kernel_rfl)) (fun _ _ _ h => h) (Or.inl ⟨by rfl, ?_⟩) ?_ ?_; rotate_left; (intro w'; go_simp; with_reducible rfl); rotate_left; (simp only [Act.put, List.setIfInBounds_toArray, List.set_cons_zero, List.set_cons_succ, i64_w, i32_w]; rfl)
       refine pure_ (i := 3) (N := some 49) (v := ?_) (a' := ?_) (lb_ 14 15) rfl rfl (any_of HT_.out (by kernel_rfl)) (fun _ _ _ h => h) (Or.inl ⟨by rfl, ?_⟩) ?_ ?_; rotate_left; (intro w'; go_simp; with_reducible rfl); rotate_left; (simp only [Act.put, List.setIfInBounds_toArray, List.set_cons_zero, List.set_cons_succ, i64_w, i32_w]; rfl)
       refine pure_ (i := 4) (N := some 50) (v := ?_) (a' := ?_) (lb_ 14 31) rfl rfl (any_of HT_.out (by kernel_rfl)) (fun _ _ _ h => h) (Or.inl ⟨by rfl, ?_⟩) ?_ ?_; rotate_left; (intro w'; go_simp; with_reducible rfl); rotate_left; (simp only [Act.put, List.setIfInBounds_toArray, List.set_cons_zero, List.set_cons_succ, i64_w, i32_w]; rfl)
       refine pure_ (i := 5) (N := some 51) (v := ?_) (a' := ?_) (lb_ 14 63) rfl rfl (any_of HT_.out (by kernel_rfl)) (fun _ _ _ h => h) (Or.inl ⟨by rfl, ?_⟩) ?_ ?_; rotate_left; (intro w'; go_simp; with_reducible rfl); rotate_left; (simp only [Act.put, List.setIfInBounds_toArray, List.set_cons_zero, List.set_cons_succ, i64_w, i32_w]; rfl)
       refine pure_ (i := 7) (N := some 53) (v := ?_) (a' := ?_) (lb_ 14 191) rfl rfl (any_of HT_.out (by kernel_rfl)) (fun _ _ _ h => h) (Or.inl ⟨by rfl, ?_⟩) ?_ ?_; rotate_left; (intro w'; go_simp; with_reducible rfl); rotate_left; (simp only [Act.put, List.setIfInBounds_toArray, List.set_cons_zero, List.set_cons_succ, i64_w, i32_w]; rfl)
       refine pure_ (i := 8) (N := some 54) (v := ?_) (a' := ?_) (lb_ 14 447) rfl rfl (any_of HT_.out (by kernel_rfl)) (fun _ _ _ h => h) (Or.inl ⟨by rfl, ?_⟩) ?_ ?_; rotate_left; (intro w'; go_simp; with_reducible rfl); rotate_left; (simp only [Act.put, List.setIfInBounds_toArray, List.set_cons_zero, List.set_cons_succ, i64_w, i32_w]; rfl)
       refine take_ (i := 6) (N := some 52) (v := ?_) (a' := ?_) (lb_ 14 511) rfl rfl (take_ofW HT_.out HW_.out (by kernel_rfl)) (fun _ _ _ h => h) (Or.inl ⟨by rfl, ?_⟩) hHeld ?_ ?_; rotate_left; (rintro w' ⟨s0, s1, s2, s3, s4, s5, s6⟩; go_simp; with_reducible rfl); rotate_left; (simp only [Act.put, List.setIfInBounds_toArray, List.set_cons_zero, List.set_cons_succ, i64_w, i32_w]; rfl)
       refine take_ (i := 9) (N := some 55) (v := ?_) (a' := ?_) (lb_ 14 1023) rfl rfl (take_ofW HT_.out HW_.out (by kernel_rfl)) (fun _ _ _ h => h) (Or.inl ⟨by rfl, ?_⟩) hHeld ?_ ?_; rotate_left; (rintro w' ⟨s0, s1, s2, s3, s4, s5, s6⟩; go_simp; with_reducible rfl); rotate_left; (simp only [Act.put, List.setIfInBounds_toArray, List.set_cons_zero, List.set_cons_succ, i64_w, i32_w]; rfl)
       refine one_ (i := 10) (N := some 56) (lb_ 14 2047) rfl rfl (one_of HT_.out (by kernel_rfl)) (by decide) (fun K hK => ?_)
       refine goes_ Try.func27 (by kernel_rfl) rfl #[.int .i64 t466, .int .i64 a3_1] (by rfl) rfl rfl (by (try simp only [List.map_toArray, List.map_cons, List.map_nil]); first | done | rfl | (simp only [List.length_drop, List.length_take]; rfl)) ?_
       with_reducible refine (fix_Sub.calls k1 t466 a3_1 t467 _ A63.out).mono ?_
       rintro e w' ⟨rfl, ⟨nd, rfl⟩⟩
       refine ⟨_, rfl, ?_⟩
       refine hK.out _ _ ⟨(cellS65_0 HI0.out.1), (cellS65_1 HI0.out.1), (cellS65_2 HI0.out.1), (cellS65_3 HI0.out.1), (blk_cell BK440.out 0).trans rfl, (blk_cell BK440.out 1).trans rfl, (blk_cell BK440.out 2).trans rfl⟩ (fun hHeld => ?_)
       clear hK K
       refine norm_ (a' := ?_) ?_ ?_
       rotate_left
       ·show Act.put _ (some 56) _ = _
        simp only [Act.put, List.setIfInBounds_toArray, List.set_cons_zero, List.set_cons_succ, i64_w, i32_w]
        rfl
       refine one_ (i := 11) (N := some 57) (lb_ 14 4095) rfl rfl (one_of HT_.out (by kernel_rfl)) (by decide) (fun K hK => ?_)
       refine goes_ Try.func33 (by kernel_rfl) rfl #[.int .i64 t467, .int .i64 (-64), .int .i64 64] (by rfl) rfl rfl (by (try simp only [List.map_toArray, List.map_cons, List.map_nil]); first | done | rfl | (simp only [List.length_drop, List.length_take]; rfl)) ?_
       with_reducible refine (fix_Clamp.calls t467 (-64) 64 t468 _ A64.out).mono ?_
       rintro e w' ⟨rfl, ⟨nd, rfl⟩⟩
       refine ⟨_, rfl, ?_⟩
       refine hK.out _ _ ⟨(cellS65_0 HI0.out.1), (cellS65_1 HI0.out.1), (cellS65_2 HI0.out.1), (cellS65_3 HI0.out.1), (blk_cell BK440.out 0).trans rfl, (blk_cell BK440.out 1).trans rfl, (blk_cell BK440.out 2).trans rfl⟩ (fun hHeld => ?_)
       clear hK K
       refine norm_ (a' := ?_) ?_ ?_
       rotate_left
       ·show Act.put _ (some 57) _ = _
        simp only [Act.put, List.setIfInBounds_toArray, List.set_cons_zero, List.set_cons_succ, i64_w, i32_w]
        rfl
       refine pure_ (i := 12) (N := some 58) (v := ?_) (a' := ?_) (lb_ 14 8191) rfl rfl (any_of HT_.out (by kernel_rfl)) (fun _ _ _ h => h) (Or.inl ⟨by rfl, ?_⟩) ?_ ?_; rotate_left; (intro w'; go_simp; with_reducible rfl); rotate_left; (simp only [Act.put, List.setIfInBounds_toArray, List.set_cons_zero, List.set_cons_succ, i64_w, i32_w]; rfl)
       refine one_ (i := 13) (N := none) (lb_ 14 16383) rfl rfl (one_of HT_.out (by kernel_rfl)) (by decide) (fun K hK => ?_)
       have hs80 : w79.cell? ⟨gb442, 1, none⟩ = some (.int .i64 x443001_1) := (blk_cell BK442.out 1).trans rfl
       have hfs80 := blk_frozen BK442.out 1
       have hns80_0 := NB438_442.out
       have hns80_1 := NB439_442.out
       have hns80_2 := NB440_442.out
       have hns80_3 := NB441_442.out
       have hns80_5 := NB460_442.out
       have hms80_0 := NB442_438.out
       have hms80_1 := NB442_439.out
       have hms80_2 := NB442_440.out
       have hms80_3 := NB442_441.out
       have hms80_5 := NB442_460.out
       refine skip_ (w1 := ?_) (by rfl) rfl ?_ ?_
       rotate_left
       ·go_simp
        rfl
       refine hK.out _ _ ⟨((cell_far (p := ⟨gb442, _, none⟩) NB0_442.out _).trans (hHeld.1)), ((cell_far (p := ⟨gb442, _, none⟩) NB0_442.out _).trans (hHeld.2.1)), ((cell_far (p := ⟨gb442, _, none⟩) NB0_442.out _).trans (hHeld.2.2.1)), ((cell_far (p := ⟨gb442, _, none⟩) NB0_442.out _).trans (hHeld.2.2.2.1)), ((cell_far (p := ⟨gb442, _, none⟩) NB440_442.out _).trans (hHeld.2.2.2.2.1)), ((cell_far (p := ⟨gb442, _, none⟩) NB440_442.out _).trans (hHeld.2.2.2.2.2.1)), ((cell_far (p := ⟨gb442, _, none⟩) NB440_442.out _).trans (hHeld.2.2.2.2.2.2))⟩ (fun hHeld => ?_)
       clear hK K
       refine done_ (done_of HT_.out (by kernel_rfl)) ?_
       try go_wp2
       go_roundg k1
       case measure => have := HK1.out; omega
       case rel => exact ⟨(2), (x1000_1), (x1001_1), (t466), (x1003_1), (x442000_1), (x442001_1), (x442002_1), (x443000_1), (t468), (x443002_1), (by first | rfl | (simp; done) | (simp [*]; done)), H', ⟨by have := HK1.out; omega⟩, ⟨by (with_reducible repeat (first | refine blk_drewN ?_ _ | refine blk_drew ?_ | refine blk_alloc ?_ _)); refine blk_far ?_ NB438_442.out _; (with_reducible repeat (first | refine blk_drewN ?_ _ | refine blk_drew ?_ | refine blk_alloc ?_ _)); exact BK438.out⟩, ⟨by (with_reducible repeat (first | refine blk_drewN ?_ _ | refine blk_drew ?_ | refine blk_alloc ?_ _)); refine blk_far ?_ NB439_442.out _; (with_reducible repeat (first | refine blk_drewN ?_ _ | refine blk_drew ?_ | refine blk_alloc ?_ _)); exact BK439.out⟩, ⟨by (with_reducible repeat (first | refine blk_drewN ?_ _ | refine blk_drew ?_ | refine blk_alloc ?_ _)); refine blk_far ?_ NB440_442.out _; (with_reducible repeat (first | refine blk_drewN ?_ _ | refine blk_drew ?_ | refine blk_alloc ?_ _)); exact BK440.out⟩, ⟨by (with_reducible repeat (first | refine blk_drewN ?_ _ | refine blk_drew ?_ | refine blk_alloc ?_ _)); refine blk_far ?_ NB441_442.out _; (with_reducible repeat (first | refine blk_drewN ?_ _ | refine blk_drew ?_ | refine blk_alloc ?_ _)); exact BK441.out⟩, ⟨by (with_reducible repeat (first | refine blk_drewN ?_ _ | refine blk_drew ?_ | refine blk_alloc ?_ _)); refine blk_put (cs := #[.int .i64 x443000_1, .int .i64 x443001_1, .int .i64 x443002_1]) ?_ 1 _ rfl; (with_reducible repeat (first | refine blk_drewN ?_ _ | refine blk_drew ?_ | refine blk_alloc ?_ _)); exact BK442.out⟩, ⟨by repeat (first | (with_reducible first | exact HI0.out | apply IsS65.alloc | apply IsS65.drewN | apply IsS65.drew | apply IsS65.set_0 | apply IsS65.set_1 | apply IsS65.set_2 | apply IsS65.set_3 | refine IsS65.far ?_ NB0_438.out _ | refine IsS65.far ?_ NB0_439.out _ | refine IsS65.far ?_ NB0_440.out _ | refine IsS65.far ?_ NB0_441.out _ | refine IsS65.far ?_ NB0_442.out _ | refine IsS65.far ?_ NB0_460.out _) | exact HI0.out)⟩, ⟨by repeat (first | (with_reducible first | exact HK.out | apply KeepBut.set_ | apply keep_drewN | apply keep_drew | apply keep_alloc | refine keep_far ?_ GW438.out _ | refine keep_far ?_ GW439.out _ | refine keep_far ?_ GW440.out _ | refine keep_far ?_ GW441.out _ | refine keep_far ?_ GW442.out _ | refine keep_far ?_ GW460.out _) | exact HK.out)⟩, ⟨by repeat (first | (with_reducible first | exact HB.out | apply below_alloc | apply pw_below_drewN | apply below_drew1 | refine below_set ?_ (IsS65.ge HI0.out) | refine below_set ?_ GE438.out | refine below_set ?_ GE439.out | refine below_set ?_ GE440.out | refine below_set ?_ GE441.out | refine below_set ?_ GE442.out | refine below_set ?_ GE460.out) | exact HB.out)⟩⟩
      ·replace c60 := Bool.eq_false_iff.mpr c60
       subst c60
       have H1 : ((control_Steer_drift.f x1000_1 x1001_1 x1002_1 x1003_1 false a1_4 a1_5 a2_1).bind fun bt469 => ((fix_Slew.f k1 x1002_1 bt469.1 x1000_1).bind fun t474 => ((fix_Sub.f k1 t474 a3_1).bind fun t475 => ((fix_Clamp.f t475 (-64) 64).bind fun t476 => (control_Steer_Step.l0 k1 2 x1000_1 x1001_1 t474 x1003_1 a2_0 a2_1 a2_2 a3_0 a3_1 a3_2 x443000_1 t476 x443002_1 a1_0 a1_1 a1_2 false a1_4 a1_5 a1_6 a1_7 a1_8))))) = some (r1, r2, r3, r4, r5, r6, r7) := by rw [if_neg (show ¬ (false = true) by decide)] at H; exact H
       clear H
       have H := H1
       clear H1
       replace H := Option.bind_eq_some_iff.mp H
       obtain ⟨⟨t469, t470, t471, t472, t473⟩, A810, H⟩ := H
       replace H : ((fix_Slew.f k1 x1002_1 t469 x1000_1).bind fun t474 => ((fix_Sub.f k1 t474 a3_1).bind fun t475 => ((fix_Clamp.f t475 (-64) 64).bind fun t476 => (control_Steer_Step.l0 k1 2 x1000_1 x1001_1 t474 x1003_1 a2_0 a2_1 a2_2 a3_0 a3_1 a3_2 x443000_1 t476 x443002_1 a1_0 a1_1 a1_2 false a1_4 a1_5 a1_6 a1_7 a1_8)))) = some (r1, r2, r3, r4, r5, r6, r7) := H
       have A81 := Aside0.mk A810
       clear A810
       obtain ⟨E0_, E1_, E2_, E3_⟩ := control_Steer_drift.same A81.out
       subst E0_
       subst E1_
       subst E2_
       subst E3_
       replace H := Option.bind_eq_some_iff.mp H
       obtain ⟨t474, A820, H⟩ := H
       replace H : ((fix_Sub.f k1 t474 a3_1).bind fun t475 => ((fix_Clamp.f t475 (-64) 64).bind fun t476 => (control_Steer_Step.l0 k1 2 x1000_1 x1001_1 t474 x1003_1 a2_0 a2_1 a2_2 a3_0 a3_1 a3_2 x443000_1 t476 x443002_1 a1_0 a1_1 a1_2 false a1_4 a1_5 a1_6 a1_7 a1_8))) = some (r1, r2, r3, r4, r5, r6, r7) := H
       have A82 := Aside0.mk A820
       clear A820
       replace H := Option.bind_eq_some_iff.mp H
       obtain ⟨t475, A830, H⟩ := H
       replace H : ((fix_Clamp.f t475 (-64) 64).bind fun t476 => (control_Steer_Step.l0 k1 2 x1000_1 x1001_1 t474 x1003_1 a2_0 a2_1 a2_2 a3_0 a3_1 a3_2 x443000_1 t476 x443002_1 a1_0 a1_1 a1_2 false a1_4 a1_5 a1_6 a1_7 a1_8)) = some (r1, r2, r3, r4, r5, r6, r7) := H
       have A83 := Aside0.mk A830
       clear A830
       replace H := Option.bind_eq_some_iff.mp H
       obtain ⟨t476, A840, H⟩ := H
       replace H : (control_Steer_Step.l0 k1 2 x1000_1 x1001_1 t474 x1003_1 a2_0 a2_1 a2_2 a3_0 a3_1 a3_2 x443000_1 t476 x443002_1 a1_0 a1_1 a1_2 false a1_4 a1_5 a1_6 a1_7 a1_8) = some (r1, r2, r3, r4, r5, r6, r7) := H
       have A84 := Aside0.mk A840
       clear A840
       have H' := Aside0.mk H
       clear H
       try go_wp2_with (first | ((with_reducible refine gate_dst (N := 11) rfl ?_); refine box_event ?hg (N := 11) ?hd (cs := #[.bool false, .int .i64 0, .int .i64 0]) (t := 41) ?hr ?_; (case hd => rfl); (case hg => rfl); (case hr => first | (go_simp; done) | (go_simp; rfl)); intro gb460 hg w85 hbox hb; have n0_ := Aside0.mk (blk_below BK438.out hb); have n1_ := Aside0.mk (blk_below BK439.out hb); have n2_ := Aside0.mk (blk_below BK440.out hb); have n3_ := Aside0.mk (blk_below BK441.out hb); have n4_ := Aside0.mk (blk_below BK442.out hb); have n5_ := Aside0.mk (IsS65.below HI0.out hb); have n6_ := Aside0.mk (KeepBut.trans HK.out (KeepBut.of_below hb g none) (.inl rfl)); have n7_ := Aside0.mk (below_step HB.out hb); have n8_ := Aside0.mk (hbox); have n9_ := Aside0.mk ((by rw [hg]; exact (keep_size (w := w) (g := g) (row := none) HK.out) : w.heap.size ≤ gb460)); have n10_ := Aside0.mk ((Nat.le_trans HW0.out (by rw [hg]; exact (keep_size (w := w) (g := g) (row := none) HK.out) : w.heap.size ≤ gb460) : w0.heap.size ≤ gb460)); have n11_ := Aside0.mk ((by rw [hg]; exact Nat.ne_of_lt (blk_lt BK438.out) : gb438 ≠ gb460)); have n12_ := Aside0.mk ((by rw [hg]; exact Nat.ne_of_gt (blk_lt BK438.out) : gb460 ≠ gb438)); have n13_ := Aside0.mk ((by rw [hg]; exact Nat.ne_of_lt (blk_lt BK439.out) : gb439 ≠ gb460)); have n14_ := Aside0.mk ((by rw [hg]; exact Nat.ne_of_gt (blk_lt BK439.out) : gb460 ≠ gb439)); have n15_ := Aside0.mk ((by rw [hg]; exact Nat.ne_of_lt (blk_lt BK440.out) : gb440 ≠ gb460)); have n16_ := Aside0.mk ((by rw [hg]; exact Nat.ne_of_gt (blk_lt BK440.out) : gb460 ≠ gb440)); have n17_ := Aside0.mk ((by rw [hg]; exact Nat.ne_of_lt (blk_lt BK441.out) : gb441 ≠ gb460)); have n18_ := Aside0.mk ((by rw [hg]; exact Nat.ne_of_gt (blk_lt BK441.out) : gb460 ≠ gb441)); have n19_ := Aside0.mk ((by rw [hg]; exact Nat.ne_of_lt (blk_lt BK442.out) : gb442 ≠ gb460)); have n20_ := Aside0.mk ((by rw [hg]; exact Nat.ne_of_gt (blk_lt BK442.out) : gb460 ≠ gb442)); have n21_ := Aside0.mk ((by rw [hg]; exact Nat.ne_of_lt (IsS65.lt HI0.out) : g ≠ gb460)); have n22_ := Aside0.mk ((by rw [hg]; exact Nat.ne_of_gt (IsS65.lt HI0.out) : gb460 ≠ g)); clear BK438; clear BK439; clear BK440; clear BK441; clear BK442; clear HI0; clear HK; clear HB; have BK438 := n0_; have BK439 := n1_; have BK440 := n2_; have BK441 := n3_; have BK442 := n4_; have HI0 := n5_; have HK := n6_; have HB := n7_; have BK460 := n8_; have GW460 := n9_; have GE460 := n10_; have NB438_460 := n11_; have NB460_438 := n12_; have NB439_460 := n13_; have NB460_439 := n14_; have NB440_460 := n15_; have NB460_440 := n16_; have NB441_460 := n17_; have NB460_441 := n18_; have NB442_460 := n19_; have NB460_442 := n20_; have NB0_460 := n21_; have NB460_0 := n22_; clear n0_ n1_ n2_ n3_ n4_ n5_ n6_ n7_ n8_ n9_ n10_ n11_ n12_ n13_ n14_ n15_ n16_ n17_ n18_ n19_ n20_ n21_ n22_; clear hb hbox hg; have hnb86 := NB460_438.out; have hnc86 := NB438_460.out; have hnb87 := NB460_439.out; have hnc87 := NB439_460.out; have hnb88 := NB460_440.out; have hnc88 := NB440_460.out; have hnb89 := NB460_441.out; have hnc89 := NB441_460.out; have hnb90 := NB460_442.out; have hnc90 := NB442_460.out; have hnb91 := NB460_0.out; have hnc91 := NB0_460.out; have hcz92_0 := blk_cells3 (w := w85) (g := gb460) BK460.out; have hfz92_0 := blk_frozen BK460.out))
       (repeat (rw [drewN_self w85]; generalize hq_ : World.drewN w85 _ = w85; have n0_ := Aside0.mk (blk_at hq_ BK438.out); have n1_ := Aside0.mk (blk_at hq_ BK439.out); have n2_ := Aside0.mk (blk_at hq_ BK440.out); have n3_ := Aside0.mk (blk_at hq_ BK441.out); have n4_ := Aside0.mk (blk_at hq_ BK442.out); have n5_ := Aside0.mk (blk_at hq_ BK460.out); have n6_ := Aside0.mk (IsS65.at_ hq_ HI0.out); have n7_ := Aside0.mk (keep_at hq_ HK.out); have n8_ := Aside0.mk (below_at hq_ HB.out); clear hq_ BK438 BK439 BK440 BK441 BK442 BK460 HI0 HK HB; have BK438 := n0_; have BK439 := n1_; have BK440 := n2_; have BK441 := n3_; have BK442 := n4_; have BK460 := n5_; have HI0 := n6_; have HK := n7_; have HB := n8_; clear n0_ n1_ n2_ n3_ n4_ n5_ n6_ n7_ n8_))
       obtain ⟨w93, hW_⟩ : ∃ W_, W_ = (((w85.setCell ⟨gb460, 0, none⟩ (.bool false)).setCell ⟨gb460, 1, none⟩ (.int .i64 a1_4)).setCell ⟨gb460, 2, none⟩ (.int .i64 a1_5)) := ⟨_, rfl⟩
       have n0_ : Aside0 (w93.heap[gb438]? = some (.cells #[.bool a1_0, .int .i64 a1_1, .int .i64 a1_2, .bool false, .int .i64 a1_4, .int .i64 a1_5, .bool a1_6, .int .i64 a1_7, .int .i64 a1_8] 42 (0, 0))) := ⟨by rw [hW_]; repeat (first | exact BK438.out | refine blk_far ?_ NB438_460.out _ | (with_reducible first | refine blk_drewN ?_ _ | refine blk_drew ?_ | refine blk_alloc ?_ _))⟩
       have n1_ : Aside0 (w93.heap[gb439]? = some (.cells #[.int .i64 a2_0, .int .i64 a2_1, .int .i64 a2_2] 37 (0, 0))) := ⟨by rw [hW_]; repeat (first | exact BK439.out | refine blk_far ?_ NB439_460.out _ | (with_reducible first | refine blk_drewN ?_ _ | refine blk_drew ?_ | refine blk_alloc ?_ _))⟩
       have n2_ : Aside0 (w93.heap[gb440]? = some (.cells #[.int .i64 a3_0, .int .i64 a3_1, .int .i64 a3_2] 37 (0, 0))) := ⟨by rw [hW_]; repeat (first | exact BK440.out | refine blk_far ?_ NB440_460.out _ | (with_reducible first | refine blk_drewN ?_ _ | refine blk_drew ?_ | refine blk_alloc ?_ _))⟩
       have n3_ : Aside0 (w93.heap[gb441]? = some (.cells #[.int .i64 x442000_1, .int .i64 x442001_1, .int .i64 x442002_1] 37 (0, 0))) := ⟨by rw [hW_]; repeat (first | exact BK441.out | refine blk_far ?_ NB441_460.out _ | (with_reducible first | refine blk_drewN ?_ _ | refine blk_drew ?_ | refine blk_alloc ?_ _))⟩
       have n4_ : Aside0 (w93.heap[gb442]? = some (.cells #[.int .i64 x443000_1, .int .i64 x443001_1, .int .i64 x443002_1] 37 (0, 0))) := ⟨by rw [hW_]; repeat (first | exact BK442.out | refine blk_far ?_ NB442_460.out _ | (with_reducible first | refine blk_drewN ?_ _ | refine blk_drew ?_ | refine blk_alloc ?_ _))⟩
       have n5_ : Aside0 (w93.heap[gb460]? = some (.cells #[.bool false, .int .i64 a1_4, .int .i64 a1_5] 41 (0, 0))) := ⟨by rw [hW_]; (with_reducible repeat (first | refine blk_drewN ?_ _ | refine blk_drew ?_ | refine blk_alloc ?_ _)); refine blk_put (cs := #[.bool false, .int .i64 a1_4, .int .i64 0]) ?_ 2 _ rfl; (with_reducible repeat (first | refine blk_drewN ?_ _ | refine blk_drew ?_ | refine blk_alloc ?_ _)); refine blk_put (cs := #[.bool false, .int .i64 0, .int .i64 0]) ?_ 1 _ rfl; (with_reducible repeat (first | refine blk_drewN ?_ _ | refine blk_drew ?_ | refine blk_alloc ?_ _)); refine blk_put (cs := #[.bool false, .int .i64 0, .int .i64 0]) ?_ 0 _ rfl; (with_reducible repeat (first | refine blk_drewN ?_ _ | refine blk_drew ?_ | refine blk_alloc ?_ _)); exact BK460.out⟩
       have n6_ : Aside0 (IsS65 w0 w93 g x1000_1 x1001_1 x1002_1 x1003_1) := ⟨by rw [hW_]; repeat (first | (with_reducible first | exact HI0.out | apply IsS65.alloc | apply IsS65.drewN | apply IsS65.drew | apply IsS65.set_0 | apply IsS65.set_1 | apply IsS65.set_2 | apply IsS65.set_3 | refine IsS65.far ?_ NB0_438.out _ | refine IsS65.far ?_ NB0_439.out _ | refine IsS65.far ?_ NB0_440.out _ | refine IsS65.far ?_ NB0_441.out _ | refine IsS65.far ?_ NB0_442.out _ | refine IsS65.far ?_ NB0_460.out _) | exact HI0.out)⟩
       have n7_ : Aside0 (KeepBut w w93 g none) := ⟨by rw [hW_]; repeat (first | (with_reducible first | exact HK.out | apply KeepBut.set_ | apply keep_drewN | apply keep_drew | apply keep_alloc | refine keep_far ?_ GW438.out _ | refine keep_far ?_ GW439.out _ | refine keep_far ?_ GW440.out _ | refine keep_far ?_ GW441.out _ | refine keep_far ?_ GW442.out _ | refine keep_far ?_ GW460.out _) | exact HK.out)⟩
       have n8_ : Aside0 (Below w0.heap.size w0 w93) := ⟨by rw [hW_]; repeat (first | (with_reducible first | exact HB.out | apply below_alloc | apply pw_below_drewN | apply below_drew1 | refine below_set ?_ (IsS65.ge HI0.out) | refine below_set ?_ GE438.out | refine below_set ?_ GE439.out | refine below_set ?_ GE440.out | refine below_set ?_ GE441.out | refine below_set ?_ GE442.out | refine below_set ?_ GE460.out) | exact HB.out)⟩
       (try clear BK438)
       (try clear BK439)
       (try clear BK440)
       (try clear BK441)
       (try clear BK442)
       (try clear BK460)
       (try clear HI0)
       (try clear HK)
       (try clear HB)
       rw [← hW_]
       clear hW_
       have BK438 := n0_
       have BK439 := n1_
       have BK440 := n2_
       have BK441 := n3_
       have BK442 := n4_
       have BK460 := n5_
       have HI0 := n6_
       have HK := n7_
       have HB := n8_
       clear n0_ n1_ n2_ n3_ n4_ n5_ n6_ n7_ n8_
       have n0_ := Aside0.mk (blk_drew BK438.out)
       have n1_ := Aside0.mk (blk_drew BK439.out)
       have n2_ := Aside0.mk (blk_drew BK440.out)
       have n3_ := Aside0.mk (blk_drew BK441.out)
       have n4_ := Aside0.mk (blk_drew BK442.out)
       have n5_ := Aside0.mk (blk_drew BK460.out)
       have n6_ := Aside0.mk (IsS65.drew HI0.out)
       have n7_ := Aside0.mk (keep_drew HK.out)
       have n8_ := Aside0.mk (below_drew1 HB.out)
       clear BK438
       clear BK439
       clear BK440
       clear BK441
       clear BK442
       clear BK460
       clear HI0
       clear HK
       clear HB
       have BK438 := n0_
       have BK439 := n1_
       have BK440 := n2_
       have BK441 := n3_
       have BK442 := n4_
       have BK460 := n5_
       have HI0 := n6_
       have HK := n7_
       have HB := n8_
       clear n0_ n1_ n2_ n3_ n4_ n5_ n6_ n7_ n8_
       refine start_ (n := 24) (S := fun w' => w'.cell? ⟨g, 0, none⟩ = some (.int .i64 x1000_1) ∧ w'.cell? ⟨g, 1, none⟩ = some (.int .i64 x1001_1) ∧ w'.cell? ⟨g, 2, none⟩ = some (.int .i64 x1002_1) ∧ w'.cell? ⟨g, 3, none⟩ = some (.int .i64 x1003_1) ∧ w'.cell? ⟨gb460, 0, none⟩ = some (.bool false) ∧ w'.cell? ⟨gb460, 1, none⟩ = some (.int .i64 a1_4) ∧ w'.cell? ⟨gb460, 2, none⟩ = some (.int .i64 a1_5) ∧ w'.cell? ⟨gb439, 0, none⟩ = some (.int .i64 a2_0) ∧ w'.cell? ⟨gb439, 1, none⟩ = some (.int .i64 a2_1) ∧ w'.cell? ⟨gb439, 2, none⟩ = some (.int .i64 a2_2)) (ds := [23]) (lb_ 24 0) (by kernel_rfl) rfl rfl ⟨(cellS65_0 HI0.out.1), (cellS65_1 HI0.out.1), (cellS65_2 HI0.out.1), (cellS65_3 HI0.out.1), (blk_cell BK460.out 0).trans rfl, (blk_cell BK460.out 1).trans rfl, (blk_cell BK460.out 2).trans rfl, (blk_cell BK439.out 0).trans rfl, (blk_cell BK439.out 1).trans rfl, (blk_cell BK439.out 2).trans rfl⟩ (fun hHeld => ?_); refine with_tabW control_Steer_Step.tab10 control_Steer_Step.bits10 (fun HT_ HW_ => ?_)
       generalize w93.drew = w94 at BK438 BK439 BK440 BK441 BK442 BK460 HI0 HK HB hHeld ⊢
       refine pure_ (i := 0) (N := some 23) (v := ?_) (a' := ?_) (lb_ 24 1) rfl rfl (any_of HT_.out (by kernel_rfl)) (fun _ _ _ h => h) (Or.inl ⟨by rfl, ?_⟩) ?_ ?_; rotate_left; (intro w'; go_simp; with_reducible rfl); rotate_left; (simp only [Act.put, List.setIfInBounds_toArray, List.set_cons_zero, List.set_cons_succ, i64_w, i32_w]; rfl)
       refine pure_ (i := 1) (N := some 24) (v := ?_) (a' := ?_) (lb_ 24 3) rfl rfl (any_of HT_.out (by kernel_rfl)) (fun _ _ _ h => h) (Or.inl ⟨by rfl, ?_⟩) ?_ ?_; rotate_left; (intro w'; go_simp; with_reducible rfl); rotate_left; (simp only [Act.put, List.setIfInBounds_toArray, List.set_cons_zero, List.set_cons_succ, i64_w, i32_w]; rfl)
       refine pure_ (i := 2) (N := some 25) (v := ?_) (a' := ?_) (lb_ 24 7) rfl rfl (any_of HT_.out (by kernel_rfl)) (fun _ _ _ h => h) (Or.inl ⟨by rfl, ?_⟩) ?_ ?_; rotate_left; (intro w'; go_simp; with_reducible rfl); rotate_left; (simp only [Act.put, List.setIfInBounds_toArray, List.set_cons_zero, List.set_cons_succ, i64_w, i32_w]; rfl)
       refine pure_ (i := 3) (N := some 26) (v := ?_) (a' := ?_) (lb_ 24 15) rfl rfl (any_of HT_.out (by kernel_rfl)) (fun _ _ _ h => h) (Or.inl ⟨by rfl, ?_⟩) ?_ ?_; rotate_left; (intro w'; go_simp; with_reducible rfl); rotate_left; (simp only [Act.put, List.setIfInBounds_toArray, List.set_cons_zero, List.set_cons_succ, i64_w, i32_w]; rfl)
       refine pure_ (i := 4) (N := some 27) (v := ?_) (a' := ?_) (lb_ 24 31) rfl rfl (any_of HT_.out (by kernel_rfl)) (fun _ _ _ h => h) (Or.inl ⟨by rfl, ?_⟩) ?_ ?_; rotate_left; (intro w'; go_simp; with_reducible rfl); rotate_left; (simp only [Act.put, List.setIfInBounds_toArray, List.set_cons_zero, List.set_cons_succ, i64_w, i32_w]; rfl)
       refine pure_ (i := 5) (N := some 28) (v := ?_) (a' := ?_) (lb_ 24 63) rfl rfl (any_of HT_.out (by kernel_rfl)) (fun _ _ _ h => h) (Or.inl ⟨by rfl, ?_⟩) ?_ ?_; rotate_left; (intro w'; go_simp; with_reducible rfl); rotate_left; (simp only [Act.put, List.setIfInBounds_toArray, List.set_cons_zero, List.set_cons_succ, i64_w, i32_w]; rfl)
       refine pure_ (i := 6) (N := some 29) (v := ?_) (a' := ?_) (lb_ 24 127) rfl rfl (any_of HT_.out (by kernel_rfl)) (fun _ _ _ h => h) (Or.inl ⟨by rfl, ?_⟩) ?_ ?_; rotate_left; (intro w'; go_simp; with_reducible rfl); rotate_left; (simp only [Act.put, List.setIfInBounds_toArray, List.set_cons_zero, List.set_cons_succ, i64_w, i32_w]; rfl)
       refine pure_ (i := 8) (N := some 31) (v := ?_) (a' := ?_) (lb_ 24 383) rfl rfl (any_of HT_.out (by kernel_rfl)) (fun _ _ _ h => h) (Or.inl ⟨by rfl, ?_⟩) ?_ ?_; rotate_left; (intro w'; go_simp; with_reducible rfl); rotate_left; (simp only [Act.put, List.setIfInBounds_toArray, List.set_cons_zero, List.set_cons_succ, i64_w, i32_w]; rfl)
       refine pure_ (i := 9) (N := some 32) (v := ?_) (a' := ?_) (lb_ 24 895) rfl rfl (any_of HT_.out (by kernel_rfl)) (fun _ _ _ h => h) (Or.inl ⟨by rfl, ?_⟩) ?_ ?_; rotate_left; (intro w'; go_simp; with_reducible rfl); rotate_left; (simp only [Act.put, List.setIfInBounds_toArray, List.set_cons_zero, List.set_cons_succ, i64_w, i32_w]; rfl)
       refine pure_ (i := 11) (N := some 34) (v := ?_) (a' := ?_) (lb_ 24 2943) rfl rfl (any_of HT_.out (by kernel_rfl)) (fun _ _ _ h => h) (Or.inl ⟨by rfl, ?_⟩) ?_ ?_; rotate_left; (intro w'; go_simp; with_reducible rfl); rotate_left; (simp only [Act.put, List.setIfInBounds_toArray, List.set_cons_zero, List.set_cons_succ, i64_w, i32_w]; rfl)
       refine pure_ (i := 12) (N := some 35) (v := ?_) (a' := ?_) (lb_ 24 7039) rfl rfl (any_of HT_.out (by kernel_rfl)) (fun _ _ _ h => h) (Or.inl ⟨by rfl, ?_⟩) ?_ ?_; rotate_left; (intro w'; go_simp; with_reducible rfl); rotate_left; (simp only [Act.put, List.setIfInBounds_toArray, List.set_cons_zero, List.set_cons_succ, i64_w, i32_w]; rfl)
       refine pure_ (i := 15) (N := some 38) (v := ?_) (a' := ?_) (lb_ 24 39807) rfl rfl (any_of HT_.out (by kernel_rfl)) (fun _ _ _ h => h) (Or.inl ⟨by rfl, ?_⟩) ?_ ?_; rotate_left; (intro w'; go_simp; with_reducible rfl); rotate_left; (simp only [Act.put, List.setIfInBounds_toArray, List.set_cons_zero, List.set_cons_succ, i64_w, i32_w]; rfl)
       refine pure_ (i := 16) (N := some 39) (v := ?_) (a' := ?_) (lb_ 24 105343) rfl rfl (any_of HT_.out (by kernel_rfl)) (fun _ _ _ h => h) (Or.inl ⟨by rfl, ?_⟩) ?_ ?_; rotate_left; (intro w'; go_simp; with_reducible rfl); rotate_left; (simp only [Act.put, List.setIfInBounds_toArray, List.set_cons_zero, List.set_cons_succ, i64_w, i32_w]; rfl)
       refine pure_ (i := 17) (N := some 40) (v := ?_) (a' := ?_) (lb_ 24 236415) rfl rfl (any_of HT_.out (by kernel_rfl)) (fun _ _ _ h => h) (Or.inl ⟨by rfl, ?_⟩) ?_ ?_; rotate_left; (intro w'; go_simp; with_reducible rfl); rotate_left; (simp only [Act.put, List.setIfInBounds_toArray, List.set_cons_zero, List.set_cons_succ, i64_w, i32_w]; rfl)
       refine pure_ (i := 20) (N := some 43) (v := ?_) (a' := ?_) (lb_ 24 1284991) rfl rfl (any_of HT_.out (by kernel_rfl)) (fun _ _ _ h => h) (Or.inl ⟨by rfl, ?_⟩) ?_ ?_; rotate_left; (intro w'; go_simp; with_reducible rfl); rotate_left; (simp only [Act.put, List.setIfInBounds_toArray, List.set_cons_zero, List.set_cons_succ, i64_w, i32_w]; rfl)
       refine pure_ (i := 21) (N := some 44) (v := ?_) (a' := ?_) (lb_ 24 3382143) rfl rfl (any_of HT_.out (by kernel_rfl)) (fun _ _ _ h => h) (Or.inl ⟨by rfl, ?_⟩) ?_ ?_; rotate_left; (intro w'; go_simp; with_reducible rfl); rotate_left; (simp only [Act.put, List.setIfInBounds_toArray, List.set_cons_zero, List.set_cons_succ, i64_w, i32_w]; rfl)
       refine take_ (i := 7) (N := some 30) (v := ?_) (a' := ?_) (lb_ 24 3382271) rfl rfl (take_ofW HT_.out HW_.out (by kernel_rfl)) (fun _ _ _ h => h) (Or.inl ⟨by rfl, ?_⟩) hHeld ?_ ?_; rotate_left; (rintro w' ⟨s0, s1, s2, s3, s4, s5, s6, s7, s8, s9⟩; go_simp; with_reducible rfl); rotate_left; (simp only [Act.put, List.setIfInBounds_toArray, List.set_cons_zero, List.set_cons_succ, i64_w, i32_w]; rfl)
       refine take_ (i := 10) (N := some 33) (v := ?_) (a' := ?_) (lb_ 24 3383295) rfl rfl (take_ofW HT_.out HW_.out (by kernel_rfl)) (fun _ _ _ h => h) (Or.inl ⟨by rfl, ?_⟩) hHeld ?_ ?_; rotate_left; (rintro w' ⟨s0, s1, s2, s3, s4, s5, s6, s7, s8, s9⟩; go_simp; with_reducible rfl); rotate_left; (simp only [Act.put, List.setIfInBounds_toArray, List.set_cons_zero, List.set_cons_succ, i64_w, i32_w]; rfl)
       refine take_ (i := 13) (N := some 36) (v := ?_) (a' := ?_) (lb_ 24 3391487) rfl rfl (take_ofW HT_.out HW_.out (by kernel_rfl)) (fun _ _ _ h => h) (Or.inl ⟨by rfl, ?_⟩) hHeld ?_ ?_; rotate_left; (rintro w' ⟨s0, s1, s2, s3, s4, s5, s6, s7, s8, s9⟩; go_simp; with_reducible rfl); rotate_left; (simp only [Act.put, List.setIfInBounds_toArray, List.set_cons_zero, List.set_cons_succ, i64_w, i32_w]; rfl)
       refine take_ (i := 18) (N := some 41) (v := ?_) (a' := ?_) (lb_ 24 3653631) rfl rfl (take_ofW HT_.out HW_.out (by kernel_rfl)) (fun _ _ _ h => h) (Or.inl ⟨by rfl, ?_⟩) hHeld ?_ ?_; rotate_left; (rintro w' ⟨s0, s1, s2, s3, s4, s5, s6, s7, s8, s9⟩; go_simp; with_reducible rfl); rotate_left; (simp only [Act.put, List.setIfInBounds_toArray, List.set_cons_zero, List.set_cons_succ, i64_w, i32_w]; rfl)
       refine one_ (i := 14) (N := some 37) (lb_ 24 3670015) rfl rfl (one_of HT_.out (by kernel_rfl)) (by decide) (fun K hK => ?_)
       refine goesv_ Try.func39 (by kernel_rfl) rfl #[.pointer (some ⟨g, 0, none⟩), .agg #[.bool false, .int .i64 a1_4, .int .i64 a1_5], .int .i64 a2_1] (by rfl) rfl rfl rfl (by (try simp only [List.map_toArray, List.map_cons, List.map_nil]); first | done | rfl | (simp only [List.length_drop, List.length_take]; rfl)) ?_
       with_reducible refine (control_Steer_drift.calls g x1000_1 x1001_1 x1002_1 x1003_1 false a1_4 a1_5 a2_1 t469 x1000_1 x1001_1 x1002_1 x1003_1 w0 _ ?side1 ?side2 A81.out).mono ?_
       (case side1 => repeat (first | (with_reducible first | exact HI0.out | apply IsS65.alloc | apply IsS65.drewN | apply IsS65.drew | apply IsS65.set_0 | apply IsS65.set_1 | apply IsS65.set_2 | apply IsS65.set_3 | refine IsS65.far ?_ NB0_438.out _ | refine IsS65.far ?_ NB0_439.out _ | refine IsS65.far ?_ NB0_440.out _ | refine IsS65.far ?_ NB0_441.out _ | refine IsS65.far ?_ NB0_442.out _ | refine IsS65.far ?_ NB0_460.out _) | exact HI0.out))
       (case side2 => repeat (first | (with_reducible first | exact HB.out | apply below_alloc | apply pw_below_drewN | apply below_drew1 | refine below_set ?_ (IsS65.ge HI0.out) | refine below_set ?_ GE438.out | refine below_set ?_ GE439.out | refine below_set ?_ GE440.out | refine below_set ?_ GE441.out | refine below_set ?_ GE442.out | refine below_set ?_ GE460.out) | exact HB.out))
       rintro e w95 ⟨rfl, hi, hb, hk⟩
       refine ⟨_, rfl, ?_⟩
       have n0_ := Aside0.mk (KeepBut.blk hk BK438.out NB438_0.out (by simp))
       have n1_ := Aside0.mk (KeepBut.blk hk BK439.out NB439_0.out (by simp))
       have n2_ := Aside0.mk (KeepBut.blk hk BK440.out NB440_0.out (by simp))
       have n3_ := Aside0.mk (KeepBut.blk hk BK441.out NB441_0.out (by simp))
       have n4_ := Aside0.mk (KeepBut.blk hk BK442.out NB442_0.out (by simp))
       have n5_ := Aside0.mk (KeepBut.blk hk BK460.out NB460_0.out (by simp))
       have n6_ := Aside0.mk (KeepBut.trans HK.out hk (.inl rfl))
       have n7_ := Aside0.mk (hb)
       have n8_ := Aside0.mk (hi)
       clear BK438
       clear BK439
       clear BK440
       clear BK441
       clear BK442
       clear BK460
       clear HK
       clear HB
       clear HI0
       have BK438 := n0_
       have BK439 := n1_
       have BK440 := n2_
       have BK441 := n3_
       have BK442 := n4_
       have BK460 := n5_
       have HK := n6_
       have HB := n7_
       have HI0 := n8_
       clear n0_ n1_ n2_ n3_ n4_ n5_ n6_ n7_ n8_
       (try clear hb)
       (try clear hb2)
       (try clear hk)
       (try clear hi)
       refine hK.out _ _ ⟨(cellS65_0 HI0.out.1), (cellS65_1 HI0.out.1), (cellS65_2 HI0.out.1), (cellS65_3 HI0.out.1), (blk_cell BK460.out 0).trans rfl, (blk_cell BK460.out 1).trans rfl, (blk_cell BK460.out 2).trans rfl, (blk_cell BK439.out 0).trans rfl, (blk_cell BK439.out 1).trans rfl, (blk_cell BK439.out 2).trans rfl⟩ (fun hHeld => ?_)
       clear hK K
       refine norm_ (a' := ?_) ?_ ?_
       rotate_left
       ·show Act.put _ (some 37) _ = _
        simp only [Act.put, List.setIfInBounds_toArray, List.set_cons_zero, List.set_cons_succ, i64_w, i32_w]
        rfl
       refine one_ (i := 19) (N := some 42) (lb_ 24 4194303) rfl rfl (one_of HT_.out (by kernel_rfl)) (by decide) (fun K hK => ?_)
       refine goes_ Try.func41 (by kernel_rfl) rfl #[.int .i64 x1002_1, .int .i64 t469, .int .i64 x1000_1] (by rfl) rfl rfl (by (try simp only [List.map_toArray, List.map_cons, List.map_nil]); first | done | rfl | (simp only [List.length_drop, List.length_take]; rfl)) ?_
       with_reducible refine (fix_Slew.calls k1 x1002_1 t469 x1000_1 t474 _ A82.out).mono ?_
       rintro e w96 ⟨rfl, hb⟩
       refine ⟨_, rfl, ?_⟩
       have n0_ := Aside0.mk (blk_below BK438.out hb)
       have n1_ := Aside0.mk (blk_below BK439.out hb)
       have n2_ := Aside0.mk (blk_below BK440.out hb)
       have n3_ := Aside0.mk (blk_below BK441.out hb)
       have n4_ := Aside0.mk (blk_below BK442.out hb)
       have n5_ := Aside0.mk (IsS65.below HI0.out hb)
       have n6_ := Aside0.mk (blk_below BK460.out hb)
       have n7_ := Aside0.mk (KeepBut.trans HK.out (KeepBut.of_below hb g none) (.inl rfl))
       have n8_ := Aside0.mk (below_step HB.out hb)
       clear BK438
       clear BK439
       clear BK440
       clear BK441
       clear BK442
       clear HI0
       clear BK460
       clear HK
       clear HB
       have BK438 := n0_
       have BK439 := n1_
       have BK440 := n2_
       have BK441 := n3_
       have BK442 := n4_
       have HI0 := n5_
       have BK460 := n6_
       have HK := n7_
       have HB := n8_
       clear n0_ n1_ n2_ n3_ n4_ n5_ n6_ n7_ n8_
       (try clear hb)
       (try clear hb2)
       (try clear hk)
       (try clear hi)
       refine hK.out _ _ ⟨(cellS65_0 HI0.out.1), (cellS65_1 HI0.out.1), (cellS65_2 HI0.out.1), (cellS65_3 HI0.out.1), (blk_cell BK460.out 0).trans rfl, (blk_cell BK460.out 1).trans rfl, (blk_cell BK460.out 2).trans rfl, (blk_cell BK439.out 0).trans rfl, (blk_cell BK439.out 1).trans rfl, (blk_cell BK439.out 2).trans rfl⟩ (fun hHeld => ?_)
       clear hK K
       refine norm_ (a' := ?_) ?_ ?_
       rotate_left
       ·show Act.put _ (some 42) _ = _
        simp only [Act.put, List.setIfInBounds_toArray, List.set_cons_zero, List.set_cons_succ, i64_w, i32_w]
        rfl
       refine pure_ (i := 22) (N := some 45) (v := ?_) (a' := ?_) (lb_ 24 8388607) rfl rfl (any_of HT_.out (by kernel_rfl)) (fun _ _ _ h => h) (Or.inl ⟨by rfl, ?_⟩) ?_ ?_; rotate_left; (intro w'; go_simp; with_reducible rfl); rotate_left; (simp only [Act.put, List.setIfInBounds_toArray, List.set_cons_zero, List.set_cons_succ, i64_w, i32_w]; rfl)
       refine last_ (i := 23) (N := none) (lb_ 24 16777215) rfl rfl (one_of HT_.out (by kernel_rfl)) (by decide) (fun K hK => ?_)
       have hs97 := cellS65_2 HI0.out.1
       have hfs97 := blk_frozen HI0.out.1 2
       have hns97_0 := NB438_0.out
       have hns97_1 := NB439_0.out
       have hns97_2 := NB440_0.out
       have hns97_3 := NB441_0.out
       have hns97_4 := NB442_0.out
       have hns97_5 := NB460_0.out
       have hms97_0 := NB0_438.out
       have hms97_1 := NB0_439.out
       have hms97_2 := NB0_440.out
       have hms97_3 := NB0_441.out
       have hms97_4 := NB0_442.out
       have hms97_5 := NB0_460.out
       refine skip_ (w1 := ?_) (by rfl) rfl ?_ ?_
       rotate_left
       ·go_simp
        rfl
       refine hK.out _ _ ?_
       clear hK K
       refine done_ (done_of HT_.out (by kernel_rfl)) ?_
       try go_wp2
       (repeat (rw [drewN_self w96]; generalize hq_ : World.drewN w96 _ = w96; have n0_ := Aside0.mk (blk_at hq_ BK438.out); have n1_ := Aside0.mk (blk_at hq_ BK439.out); have n2_ := Aside0.mk (blk_at hq_ BK440.out); have n3_ := Aside0.mk (blk_at hq_ BK441.out); have n4_ := Aside0.mk (blk_at hq_ BK442.out); have n5_ := Aside0.mk (blk_at hq_ BK460.out); have n6_ := Aside0.mk (IsS65.at_ hq_ HI0.out); have n7_ := Aside0.mk (keep_at hq_ HK.out); have n8_ := Aside0.mk (below_at hq_ HB.out); clear hq_ BK438 BK439 BK440 BK441 BK442 BK460 HI0 HK HB; have BK438 := n0_; have BK439 := n1_; have BK440 := n2_; have BK441 := n3_; have BK442 := n4_; have BK460 := n5_; have HI0 := n6_; have HK := n7_; have HB := n8_; clear n0_ n1_ n2_ n3_ n4_ n5_ n6_ n7_ n8_))
       obtain ⟨w98, hW_⟩ : ∃ W_, W_ = (w96.setCell ⟨g, 2, none⟩ (.int .i64 t474)) := ⟨_, rfl⟩
       have n0_ : Aside0 (w98.heap[gb438]? = some (.cells #[.bool a1_0, .int .i64 a1_1, .int .i64 a1_2, .bool false, .int .i64 a1_4, .int .i64 a1_5, .bool a1_6, .int .i64 a1_7, .int .i64 a1_8] 42 (0, 0))) := ⟨by rw [hW_]; repeat (first | exact BK438.out | refine blk_far ?_ NB438_0.out _ | (with_reducible first | refine blk_drewN ?_ _ | refine blk_drew ?_ | refine blk_alloc ?_ _))⟩
       have n1_ : Aside0 (w98.heap[gb439]? = some (.cells #[.int .i64 a2_0, .int .i64 a2_1, .int .i64 a2_2] 37 (0, 0))) := ⟨by rw [hW_]; repeat (first | exact BK439.out | refine blk_far ?_ NB439_0.out _ | (with_reducible first | refine blk_drewN ?_ _ | refine blk_drew ?_ | refine blk_alloc ?_ _))⟩
       have n2_ : Aside0 (w98.heap[gb440]? = some (.cells #[.int .i64 a3_0, .int .i64 a3_1, .int .i64 a3_2] 37 (0, 0))) := ⟨by rw [hW_]; repeat (first | exact BK440.out | refine blk_far ?_ NB440_0.out _ | (with_reducible first | refine blk_drewN ?_ _ | refine blk_drew ?_ | refine blk_alloc ?_ _))⟩
       have n3_ : Aside0 (w98.heap[gb441]? = some (.cells #[.int .i64 x442000_1, .int .i64 x442001_1, .int .i64 x442002_1] 37 (0, 0))) := ⟨by rw [hW_]; repeat (first | exact BK441.out | refine blk_far ?_ NB441_0.out _ | (with_reducible first | refine blk_drewN ?_ _ | refine blk_drew ?_ | refine blk_alloc ?_ _))⟩
       have n4_ : Aside0 (w98.heap[gb442]? = some (.cells #[.int .i64 x443000_1, .int .i64 x443001_1, .int .i64 x443002_1] 37 (0, 0))) := ⟨by rw [hW_]; repeat (first | exact BK442.out | refine blk_far ?_ NB442_0.out _ | (with_reducible first | refine blk_drewN ?_ _ | refine blk_drew ?_ | refine blk_alloc ?_ _))⟩
       have n5_ : Aside0 (w98.heap[gb460]? = some (.cells #[.bool false, .int .i64 a1_4, .int .i64 a1_5] 41 (0, 0))) := ⟨by rw [hW_]; repeat (first | exact BK460.out | refine blk_far ?_ NB460_0.out _ | (with_reducible first | refine blk_drewN ?_ _ | refine blk_drew ?_ | refine blk_alloc ?_ _))⟩
       have n6_ : Aside0 (IsS65 w0 w98 g x1000_1 x1001_1 t474 x1003_1) := ⟨by rw [hW_]; repeat (first | (with_reducible first | exact HI0.out | apply IsS65.alloc | apply IsS65.drewN | apply IsS65.drew | apply IsS65.set_0 | apply IsS65.set_1 | apply IsS65.set_2 | apply IsS65.set_3 | refine IsS65.far ?_ NB0_438.out _ | refine IsS65.far ?_ NB0_439.out _ | refine IsS65.far ?_ NB0_440.out _ | refine IsS65.far ?_ NB0_441.out _ | refine IsS65.far ?_ NB0_442.out _ | refine IsS65.far ?_ NB0_460.out _) | exact HI0.out)⟩
       have n7_ : Aside0 (KeepBut w w98 g none) := ⟨by rw [hW_]; repeat (first | (with_reducible first | exact HK.out | apply KeepBut.set_ | apply keep_drewN | apply keep_drew | apply keep_alloc | refine keep_far ?_ GW438.out _ | refine keep_far ?_ GW439.out _ | refine keep_far ?_ GW440.out _ | refine keep_far ?_ GW441.out _ | refine keep_far ?_ GW442.out _ | refine keep_far ?_ GW460.out _) | exact HK.out)⟩
       have n8_ : Aside0 (Below w0.heap.size w0 w98) := ⟨by rw [hW_]; repeat (first | (with_reducible first | exact HB.out | apply below_alloc | apply pw_below_drewN | apply below_drew1 | refine below_set ?_ (IsS65.ge HI0.out) | refine below_set ?_ GE438.out | refine below_set ?_ GE439.out | refine below_set ?_ GE440.out | refine below_set ?_ GE441.out | refine below_set ?_ GE442.out | refine below_set ?_ GE460.out) | exact HB.out)⟩
       (try clear BK438)
       (try clear BK439)
       (try clear BK440)
       (try clear BK441)
       (try clear BK442)
       (try clear BK460)
       (try clear HI0)
       (try clear HK)
       (try clear HB)
       rw [← hW_]
       clear hW_
       have BK438 := n0_
       have BK439 := n1_
       have BK440 := n2_
       have BK441 := n3_
       have BK442 := n4_
       have BK460 := n5_
       have HI0 := n6_
       have HK := n7_
       have HB := n8_
       clear n0_ n1_ n2_ n3_ n4_ n5_ n6_ n7_ n8_
       have n0_ := Aside0.mk (blk_drew BK438.out)
       have n1_ := Aside0.mk (blk_drew BK439.out)
       have n2_ := Aside0.mk (blk_drew BK440.out)
       have n3_ := Aside0.mk (blk_drew BK441.out)
       have n4_ := Aside0.mk (blk_drew BK442.out)
       have n5_ := Aside0.mk (blk_drew BK460.out)
       have n6_ := Aside0.mk (IsS65.drew HI0.out)
       have n7_ := Aside0.mk (keep_drew HK.out)
       have n8_ := Aside0.mk (below_drew1 HB.out)
       clear BK438
       clear BK439
       clear BK440
       clear BK441
       clear BK442
       clear BK460
       clear HI0
       clear HK
       clear HB
       have BK438 := n0_
       have BK439 := n1_
       have BK440 := n2_
       have BK441 := n3_
       have BK442 := n4_
       have BK460 := n5_
       have HI0 := n6_
       have HK := n7_
       have HB := n8_
       clear n0_ n1_ n2_ n3_ n4_ n5_ n6_ n7_ n8_
       refine start_ (n := 14) (S := fun w' => w'.cell? ⟨g, 0, none⟩ = some (.int .i64 x1000_1) ∧ w'.cell? ⟨g, 1, none⟩ = some (.int .i64 x1001_1) ∧ w'.cell? ⟨g, 2, none⟩ = some (.int .i64 t474) ∧ w'.cell? ⟨g, 3, none⟩ = some (.int .i64 x1003_1) ∧ w'.cell? ⟨gb440, 0, none⟩ = some (.int .i64 a3_0) ∧ w'.cell? ⟨gb440, 1, none⟩ = some (.int .i64 a3_1) ∧ w'.cell? ⟨gb440, 2, none⟩ = some (.int .i64 a3_2)) (ds := []) (lb_ 14 0) (by kernel_rfl) rfl rfl ⟨(cellS65_0 HI0.out.1), (cellS65_1 HI0.out.1), (cellS65_2 HI0.out.1), (cellS65_3 HI0.out.1), (blk_cell BK440.out 0).trans rfl, (blk_cell BK440.out 1).trans rfl, (blk_cell BK440.out 2).trans rfl⟩ (fun hHeld => ?_); refine with_tabW control_Steer_Step.tab11 control_Steer_Step.bits11 (fun HT_ HW_ => ?_)
       generalize w98.drew = w99 at BK438 BK439 BK440 BK441 BK442 BK460 HI0 HK HB hHeld ⊢
       refine pure_ (i := 0) (N := some 46) (v := ?_) (a' := ?_) (lb_ 14 1) rfl rfl (any_of HT_.out (by kernel_rfl)) (fun _ _ _ h => h) (Or.inl ⟨by rfl, ?_⟩) ?_ ?_; rotate_left; (intro w'; go_simp; with_reducible rfl); rotate_left; (simp only [Act.put, List.setIfInBounds_toArray, List.set_cons_zero, List.set_cons_succ, i64_w, i32_w]; rfl)
       refine pure_ (i := 1) (N := some 47) (v := ?_) (a' := ?_) (lb_ 14 3) rfl rfl (any_of HT_.out (by kernel_rfl)) (fun _ _ _ h => h) (Or.inl ⟨by rfl, ?_⟩) ?_ ?_; rotate_left; (intro w'; go_simp; with_reducible rfl); rotate_left; (simp only [Act.put, List.setIfInBounds_toArray, List.set_cons_zero, List.set_cons_succ, i64_w, i32_w]; rfl)
       refine pure_ (i := 2) (N := some 48) (v := ?_) (a' := ?_) (lb_ 14 7) rfl rfl (any_of HT_.out (by kernel_rfl)) (fun _ _ _ h => h) (Or.inl ⟨by rfl, ?_⟩) ?_ ?_; rotate_left; (intro w'; go_simp; with_reducible rfl); rotate_left; (simp only [Act.put, List.setIfInBounds_toArray, List.set_cons_zero, List.set_cons_succ, i64_w, i32_w]; rfl)
       refine pure_ (i := 3) (N := some 49) (v := ?_) (a' := ?_) (lb_ 14 15) rfl rfl (any_of HT_.out (by kernel_rfl)) (fun _ _ _ h => h) (Or.inl ⟨by rfl, ?_⟩) ?_ ?_; rotate_left; (intro w'; go_simp; with_reducible rfl); rotate_left; (simp only [Act.put, List.setIfInBounds_toArray, List.set_cons_zero, List.set_cons_succ, i64_w, i32_w]; rfl)
       refine pure_ (i := 4) (N := some 50) (v := ?_) (a' := ?_) (lb_ 14 31) rfl rfl (any_of HT_.out (by kernel_rfl)) (fun _ _ _ h => h) (Or.inl ⟨by rfl, ?_⟩) ?_ ?_; rotate_left; (intro w'; go_simp; with_reducible rfl); rotate_left; (simp only [Act.put, List.setIfInBounds_toArray, List.set_cons_zero, List.set_cons_succ, i64_w, i32_w]; rfl)
       refine pure_ (i := 5) (N := some 51) (v := ?_) (a' := ?_) (lb_ 14 63) rfl rfl (any_of HT_.out (by kernel_rfl)) (fun _ _ _ h => h) (Or.inl ⟨by rfl, ?_⟩) ?_ ?_; rotate_left; (intro w'; go_simp; with_reducible rfl); rotate_left; (simp only [Act.put, List.setIfInBounds_toArray, List.set_cons_zero, List.set_cons_succ, i64_w, i32_w]; rfl)
       refine pure_ (i := 7) (N := some 53) (v := ?_) (a' := ?_) (lb_ 14 191) rfl rfl (any_of HT_.out (by kernel_rfl)) (fun _ _ _ h => h) (Or.inl ⟨by rfl, ?_⟩) ?_ ?_; rotate_left; (intro w'; go_simp; with_reducible rfl); rotate_left; (simp only [Act.put, List.setIfInBounds_toArray, List.set_cons_zero, List.set_cons_succ, i64_w, i32_w]; rfl)
       refine pure_ (i := 8) (N := some 54) (v := ?_) (a' := ?_) (lb_ 14 447) rfl rfl (any_of HT_.out (by kernel_rfl)) (fun _ _ _ h => h) (Or.inl ⟨by rfl, ?_⟩) ?_ ?_; rotate_left; (intro w'; go_simp; with_reducible rfl); rotate_left; (simp only [Act.put, List.setIfInBounds_toArray, List.set_cons_zero, List.set_cons_succ, i64_w, i32_w]; rfl)
       refine take_ (i := 6) (N := some 52) (v := ?_) (a' := ?_) (lb_ 14 511) rfl rfl (take_ofW HT_.out HW_.out (by kernel_rfl)) (fun _ _ _ h => h) (Or.inl ⟨by rfl, ?_⟩) hHeld ?_ ?_; rotate_left; (rintro w' ⟨s0, s1, s2, s3, s4, s5, s6⟩; go_simp; with_reducible rfl); rotate_left; (simp only [Act.put, List.setIfInBounds_toArray, List.set_cons_zero, List.set_cons_succ, i64_w, i32_w]; rfl)
       refine take_ (i := 9) (N := some 55) (v := ?_) (a' := ?_) (lb_ 14 1023) rfl rfl (take_ofW HT_.out HW_.out (by kernel_rfl)) (fun _ _ _ h => h) (Or.inl ⟨by rfl, ?_⟩) hHeld ?_ ?_; rotate_left; (rintro w' ⟨s0, s1, s2, s3, s4, s5, s6⟩; go_simp; with_reducible rfl); rotate_left; (simp only [Act.put, List.setIfInBounds_toArray, List.set_cons_zero, List.set_cons_succ, i64_w, i32_w]; rfl)
       refine one_ (i := 10) (N := some 56) (lb_ 14 2047) rfl rfl (one_of HT_.out (by kernel_rfl)) (by decide) (fun K hK => ?_)
       refine goes_ Try.func27 (by kernel_rfl) rfl #[.int .i64 t474, .int .i64 a3_1] (by rfl) rfl rfl (by (try simp only [List.map_toArray, List.map_cons, List.map_nil]); first | done | rfl | (simp only [List.length_drop, List.length_take]; rfl)) ?_
       with_reducible refine (fix_Sub.calls k1 t474 a3_1 t475 _ A83.out).mono ?_
       rintro e w' ⟨rfl, ⟨nd, rfl⟩⟩
       refine ⟨_, rfl, ?_⟩
       refine hK.out _ _ ⟨(cellS65_0 HI0.out.1), (cellS65_1 HI0.out.1), (cellS65_2 HI0.out.1), (cellS65_3 HI0.out.1), (blk_cell BK440.out 0).trans rfl, (blk_cell BK440.out 1).trans rfl, (blk_cell BK440.out 2).trans rfl⟩ (fun hHeld => ?_)
       clear hK K
       refine norm_ (a' := ?_) ?_ ?_
       rotate_left
       ·show Act.put _ (some 56) _ = _
        simp only [Act.put, List.setIfInBounds_toArray, List.set_cons_zero, List.set_cons_succ, i64_w, i32_w]
        rfl
       refine one_ (i := 11) (N := some 57) (lb_ 14 4095) rfl rfl (one_of HT_.out (by kernel_rfl)) (by decide) (fun K hK => ?_)
       refine goes_ Try.func33 (by kernel_rfl) rfl #[.int .i64 t475, .int .i64 (-64), .int .i64 64] (by rfl) rfl rfl (by (try simp only [List.map_toArray, List.map_cons, List.map_nil]); first | done | rfl | (simp only [List.length_drop, List.length_take]; rfl)) ?_
       with_reducible refine (fix_Clamp.calls t475 (-64) 64 t476 _ A84.out).mono ?_
       rintro e w' ⟨rfl, ⟨nd, rfl⟩⟩
       refine ⟨_, rfl, ?_⟩
       refine hK.out _ _ ⟨(cellS65_0 HI0.out.1), (cellS65_1 HI0.out.1), (cellS65_2 HI0.out.1), (cellS65_3 HI0.out.1), (blk_cell BK440.out 0).trans rfl, (blk_cell BK440.out 1).trans rfl, (blk_cell BK440.out 2).trans rfl⟩ (fun hHeld => ?_)
       clear hK K
       refine norm_ (a' := ?_) ?_ ?_
       rotate_left
       ·show Act.put _ (some 57) _ = _
        simp only [Act.put, List.setIfInBounds_toArray, List.set_cons_zero, List.set_cons_succ, i64_w, i32_w]
        rfl
       refine pure_ (i := 12) (N := some 58) (v := ?_) (a' := ?_) (lb_ 14 8191) rfl rfl (any_of HT_.out (by kernel_rfl)) (fun _ _ _ h => h) (Or.inl ⟨by rfl, ?_⟩) ?_ ?_; rotate_left; (intro w'; go_simp; with_reducible rfl); rotate_left; (simp only [Act.put, List.setIfInBounds_toArray, List.set_cons_zero, List.set_cons_succ, i64_w, i32_w]; rfl)
       refine one_ (i := 13) (N := none) (lb_ 14 16383) rfl rfl (one_of HT_.out (by kernel_rfl)) (by decide) (fun K hK => ?_)
       have hs100 : w99.cell? ⟨gb442, 1, none⟩ = some (.int .i64 x443001_1) := (blk_cell BK442.out 1).trans rfl
       have hfs100 := blk_frozen BK442.out 1
       have hns100_0 := NB438_442.out
       have hns100_1 := NB439_442.out
       have hns100_2 := NB440_442.out
       have hns100_3 := NB441_442.out
       have hns100_5 := NB460_442.out
       have hms100_0 := NB442_438.out
       have hms100_1 := NB442_439.out
       have hms100_2 := NB442_440.out
       have hms100_3 := NB442_441.out
       have hms100_5 := NB442_460.out
       refine skip_ (w1 := ?_) (by rfl) rfl ?_ ?_
       rotate_left
       ·go_simp
        rfl
       refine hK.out _ _ ⟨((cell_far (p := ⟨gb442, _, none⟩) NB0_442.out _).trans (hHeld.1)), ((cell_far (p := ⟨gb442, _, none⟩) NB0_442.out _).trans (hHeld.2.1)), ((cell_far (p := ⟨gb442, _, none⟩) NB0_442.out _).trans (hHeld.2.2.1)), ((cell_far (p := ⟨gb442, _, none⟩) NB0_442.out _).trans (hHeld.2.2.2.1)), ((cell_far (p := ⟨gb442, _, none⟩) NB440_442.out _).trans (hHeld.2.2.2.2.1)), ((cell_far (p := ⟨gb442, _, none⟩) NB440_442.out _).trans (hHeld.2.2.2.2.2.1)), ((cell_far (p := ⟨gb442, _, none⟩) NB440_442.out _).trans (hHeld.2.2.2.2.2.2))⟩ (fun hHeld => ?_)
       clear hK K
       refine done_ (done_of HT_.out (by kernel_rfl)) ?_
       try go_wp2
       go_roundg k1
       case measure => have := HK1.out; omega
       case rel => exact ⟨(2), (x1000_1), (x1001_1), (t474), (x1003_1), (x442000_1), (x442001_1), (x442002_1), (x443000_1), (t476), (x443002_1), (by first | rfl | (simp; done) | (simp [*]; done)), H', ⟨by have := HK1.out; omega⟩, ⟨by (with_reducible repeat (first | refine blk_drewN ?_ _ | refine blk_drew ?_ | refine blk_alloc ?_ _)); refine blk_far ?_ NB438_442.out _; (with_reducible repeat (first | refine blk_drewN ?_ _ | refine blk_drew ?_ | refine blk_alloc ?_ _)); exact BK438.out⟩, ⟨by (with_reducible repeat (first | refine blk_drewN ?_ _ | refine blk_drew ?_ | refine blk_alloc ?_ _)); refine blk_far ?_ NB439_442.out _; (with_reducible repeat (first | refine blk_drewN ?_ _ | refine blk_drew ?_ | refine blk_alloc ?_ _)); exact BK439.out⟩, ⟨by (with_reducible repeat (first | refine blk_drewN ?_ _ | refine blk_drew ?_ | refine blk_alloc ?_ _)); refine blk_far ?_ NB440_442.out _; (with_reducible repeat (first | refine blk_drewN ?_ _ | refine blk_drew ?_ | refine blk_alloc ?_ _)); exact BK440.out⟩, ⟨by (with_reducible repeat (first | refine blk_drewN ?_ _ | refine blk_drew ?_ | refine blk_alloc ?_ _)); refine blk_far ?_ NB441_442.out _; (with_reducible repeat (first | refine blk_drewN ?_ _ | refine blk_drew ?_ | refine blk_alloc ?_ _)); exact BK441.out⟩, ⟨by (with_reducible repeat (first | refine blk_drewN ?_ _ | refine blk_drew ?_ | refine blk_alloc ?_ _)); refine blk_put (cs := #[.int .i64 x443000_1, .int .i64 x443001_1, .int .i64 x443002_1]) ?_ 1 _ rfl; (with_reducible repeat (first | refine blk_drewN ?_ _ | refine blk_drew ?_ | refine blk_alloc ?_ _)); exact BK442.out⟩, ⟨by repeat (first | (with_reducible first | exact HI0.out | apply IsS65.alloc | apply IsS65.drewN | apply IsS65.drew | apply IsS65.set_0 | apply IsS65.set_1 | apply IsS65.set_2 | apply IsS65.set_3 | refine IsS65.far ?_ NB0_438.out _ | refine IsS65.far ?_ NB0_439.out _ | refine IsS65.far ?_ NB0_440.out _ | refine IsS65.far ?_ NB0_441.out _ | refine IsS65.far ?_ NB0_442.out _ | refine IsS65.far ?_ NB0_460.out _) | exact HI0.out)⟩, ⟨by repeat (first | (with_reducible first | exact HK.out | apply KeepBut.set_ | apply keep_drewN | apply keep_drew | apply keep_alloc | refine keep_far ?_ GW438.out _ | refine keep_far ?_ GW439.out _ | refine keep_far ?_ GW440.out _ | refine keep_far ?_ GW441.out _ | refine keep_far ?_ GW442.out _ | refine keep_far ?_ GW460.out _) | exact HK.out)⟩, ⟨by repeat (first | (with_reducible first | exact HB.out | apply below_alloc | apply pw_below_drewN | apply below_drew1 | refine below_set ?_ (IsS65.ge HI0.out) | refine below_set ?_ GE438.out | refine below_set ?_ GE439.out | refine below_set ?_ GE440.out | refine below_set ?_ GE441.out | refine below_set ?_ GE442.out | refine below_set ?_ GE460.out) | exact HB.out)⟩⟩
     rw [if_neg c59] at H
     by_cases c101 : x17_1 = 2
     ·subst c101
      have H1 : (if a1_6 = true then ((control_Steer_place.f k1 x1000_1 x1001_1 x1002_1 x1003_1 a1_6 a1_7 a1_8 a2_2).bind fun bt478 => ((fix_Slew.f k1 x1003_1 bt478.1 x1000_1).bind fun t483 => ((fix_Sub.f k1 t483 a3_2).bind fun t484 => ((fix_Clamp.f t484 (-64) 64).bind fun t485 => (control_Steer_Step.l0 k1 3 x1000_1 x1001_1 x1002_1 t483 a2_0 a2_1 a2_2 a3_0 a3_1 a3_2 x443000_1 x443001_1 t485 a1_0 a1_1 a1_2 a1_3 a1_4 a1_5 a1_6 a1_7 a1_8))))) else ((control_Steer_drift.f x1000_1 x1001_1 x1002_1 x1003_1 a1_6 a1_7 a1_8 a2_2).bind fun bt486 => ((fix_Slew.f k1 x1003_1 bt486.1 x1000_1).bind fun t491 => ((fix_Sub.f k1 t491 a3_2).bind fun t492 => ((fix_Clamp.f t492 (-64) 64).bind fun t493 => (control_Steer_Step.l0 k1 3 x1000_1 x1001_1 x1002_1 t491 a2_0 a2_1 a2_2 a3_0 a3_1 a3_2 x443000_1 x443001_1 t493 a1_0 a1_1 a1_2 a1_3 a1_4 a1_5 a1_6 a1_7 a1_8)))))) = some (r1, r2, r3, r4, r5, r6, r7) := by rw [if_pos rfl] at H; exact H
      clear H
      have H := H1
      clear H1
      by_cases c102 : a1_6 = true
      ·subst c102
       have H1 : ((control_Steer_place.f k1 x1000_1 x1001_1 x1002_1 x1003_1 true a1_7 a1_8 a2_2).bind fun bt478 => ((fix_Slew.f k1 x1003_1 bt478.1 x1000_1).bind fun t483 => ((fix_Sub.f k1 t483 a3_2).bind fun t484 => ((fix_Clamp.f t484 (-64) 64).bind fun t485 => (control_Steer_Step.l0 k1 3 x1000_1 x1001_1 x1002_1 t483 a2_0 a2_1 a2_2 a3_0 a3_1 a3_2 x443000_1 x443001_1 t485 a1_0 a1_1 a1_2 a1_3 a1_4 a1_5 true a1_7 a1_8))))) = some (r1, r2, r3, r4, r5, r6, r7) := by rw [if_pos rfl] at H; exact H
       clear H
       have H := H1
       clear H1
       replace H := Option.bind_eq_some_iff.mp H
       obtain ⟨⟨t478, t479, t480, t481, t482⟩, A1030, H⟩ := H
       replace H : ((fix_Slew.f k1 x1003_1 t478 x1000_1).bind fun t483 => ((fix_Sub.f k1 t483 a3_2).bind fun t484 => ((fix_Clamp.f t484 (-64) 64).bind fun t485 => (control_Steer_Step.l0 k1 3 x1000_1 x1001_1 x1002_1 t483 a2_0 a2_1 a2_2 a3_0 a3_1 a3_2 x443000_1 x443001_1 t485 a1_0 a1_1 a1_2 a1_3 a1_4 a1_5 true a1_7 a1_8)))) = some (r1, r2, r3, r4, r5, r6, r7) := H
       have A103 := Aside0.mk A1030
       clear A1030
       obtain ⟨E0_, E1_, E2_, E3_⟩ := control_Steer_place.same A103.out
       subst E0_
       subst E1_
       subst E2_
       subst E3_
       replace H := Option.bind_eq_some_iff.mp H
       obtain ⟨t483, A1040, H⟩ := H
       replace H : ((fix_Sub.f k1 t483 a3_2).bind fun t484 => ((fix_Clamp.f t484 (-64) 64).bind fun t485 => (control_Steer_Step.l0 k1 3 x1000_1 x1001_1 x1002_1 t483 a2_0 a2_1 a2_2 a3_0 a3_1 a3_2 x443000_1 x443001_1 t485 a1_0 a1_1 a1_2 a1_3 a1_4 a1_5 true a1_7 a1_8))) = some (r1, r2, r3, r4, r5, r6, r7) := H
       have A104 := Aside0.mk A1040
       clear A1040
       replace H := Option.bind_eq_some_iff.mp H
       obtain ⟨t484, A1050, H⟩ := H
       replace H : ((fix_Clamp.f t484 (-64) 64).bind fun t485 => (control_Steer_Step.l0 k1 3 x1000_1 x1001_1 x1002_1 t483 a2_0 a2_1 a2_2 a3_0 a3_1 a3_2 x443000_1 x443001_1 t485 a1_0 a1_1 a1_2 a1_3 a1_4 a1_5 true a1_7 a1_8)) = some (r1, r2, r3, r4, r5, r6, r7) := H
       have A105 := Aside0.mk A1050
       clear A1050
       replace H := Option.bind_eq_some_iff.mp H
       obtain ⟨t485, A1060, H⟩ := H
       replace H : (control_Steer_Step.l0 k1 3 x1000_1 x1001_1 x1002_1 t483 a2_0 a2_1 a2_2 a3_0 a3_1 a3_2 x443000_1 x443001_1 t485 a1_0 a1_1 a1_2 a1_3 a1_4 a1_5 true a1_7 a1_8) = some (r1, r2, r3, r4, r5, r6, r7) := H
       have A106 := Aside0.mk A1060
       clear A1060
       have H' := Aside0.mk H
       clear H
       try go_wp2_with (first | ((with_reducible refine gate_dst (N := 11) rfl ?_); refine box_event ?hg (N := 11) ?hd (cs := #[.bool false, .int .i64 0, .int .i64 0]) (t := 41) ?hr ?_; (case hd => rfl); (case hg => rfl); (case hr => first | (go_simp; done) | (go_simp; rfl)); intro gb477 hg w107 hbox hb; have n0_ := Aside0.mk (blk_below BK438.out hb); have n1_ := Aside0.mk (blk_below BK439.out hb); have n2_ := Aside0.mk (blk_below BK440.out hb); have n3_ := Aside0.mk (blk_below BK441.out hb); have n4_ := Aside0.mk (blk_below BK442.out hb); have n5_ := Aside0.mk (IsS65.below HI0.out hb); have n6_ := Aside0.mk (KeepBut.trans HK.out (KeepBut.of_below hb g none) (.inl rfl)); have n7_ := Aside0.mk (below_step HB.out hb); have n8_ := Aside0.mk (hbox); have n9_ := Aside0.mk ((by rw [hg]; exact (keep_size (w := w) (g := g) (row := none) HK.out) : w.heap.size ≤ gb477)); have n10_ := Aside0.mk ((Nat.le_trans HW0.out (by rw [hg]; exact (keep_size (w := w) (g := g) (row := none) HK.out) : w.heap.size ≤ gb477) : w0.heap.size ≤ gb477)); have n11_ := Aside0.mk ((by rw [hg]; exact Nat.ne_of_lt (blk_lt BK438.out) : gb438 ≠ gb477)); have n12_ := Aside0.mk ((by rw [hg]; exact Nat.ne_of_gt (blk_lt BK438.out) : gb477 ≠ gb438)); have n13_ := Aside0.mk ((by rw [hg]; exact Nat.ne_of_lt (blk_lt BK439.out) : gb439 ≠ gb477)); have n14_ := Aside0.mk ((by rw [hg]; exact Nat.ne_of_gt (blk_lt BK439.out) : gb477 ≠ gb439)); have n15_ := Aside0.mk ((by rw [hg]; exact Nat.ne_of_lt (blk_lt BK440.out) : gb440 ≠ gb477)); have n16_ := Aside0.mk ((by rw [hg]; exact Nat.ne_of_gt (blk_lt BK440.out) : gb477 ≠ gb440)); have n17_ := Aside0.mk ((by rw [hg]; exact Nat.ne_of_lt (blk_lt BK441.out) : gb441 ≠ gb477)); have n18_ := Aside0.mk ((by rw [hg]; exact Nat.ne_of_gt (blk_lt BK441.out) : gb477 ≠ gb441)); have n19_ := Aside0.mk ((by rw [hg]; exact Nat.ne_of_lt (blk_lt BK442.out) : gb442 ≠ gb477)); have n20_ := Aside0.mk ((by rw [hg]; exact Nat.ne_of_gt (blk_lt BK442.out) : gb477 ≠ gb442)); have n21_ := Aside0.mk ((by rw [hg]; exact Nat.ne_of_lt (IsS65.lt HI0.out) : g ≠ gb477)); have n22_ := Aside0.mk ((by rw [hg]; exact Nat.ne_of_gt (IsS65.lt HI0.out) : gb477 ≠ g)); clear BK438; clear BK439; clear BK440; clear BK441; clear BK442; clear HI0; clear HK; clear HB; have BK438 := n0_; have BK439 := n1_; have BK440 := n2_; have BK441 := n3_; have BK442 := n4_; have HI0 := n5_; have HK := n6_; have HB := n7_; have BK477 := n8_; have GW477 := n9_; have GE477 := n10_; have NB438_477 := n11_; have NB477_438 := n12_; have NB439_477 := n13_; have NB477_439 := n14_; have NB440_477 := n15_; have NB477_440 := n16_; have NB441_477 := n17_; have NB477_441 := n18_; have NB442_477 := n19_; have NB477_442 := n20_; have NB0_477 := n21_; have NB477_0 := n22_; clear n0_ n1_ n2_ n3_ n4_ n5_ n6_ n7_ n8_ n9_ n10_ n11_ n12_ n13_ n14_ n15_ n16_ n17_ n18_ n19_ n20_ n21_ n22_; clear hb hbox hg; have hnb108 := NB477_438.out; have hnc108 := NB438_477.out; have hnb109 := NB477_439.out; have hnc109 := NB439_477.out; have hnb110 := NB477_440.out; have hnc110 := NB440_477.out; have hnb111 := NB477_441.out; have hnc111 := NB441_477.out; have hnb112 := NB477_442.out; have hnc112 := NB442_477.out; have hnb113 := NB477_0.out; have hnc113 := NB0_477.out; have hcz114_0 := blk_cells3 (w := w107) (g := gb477) BK477.out; have hfz114_0 := blk_frozen BK477.out))
       (repeat (rw [drewN_self w107]; generalize hq_ : World.drewN w107 _ = w107; have n0_ := Aside0.mk (blk_at hq_ BK438.out); have n1_ := Aside0.mk (blk_at hq_ BK439.out); have n2_ := Aside0.mk (blk_at hq_ BK440.out); have n3_ := Aside0.mk (blk_at hq_ BK441.out); have n4_ := Aside0.mk (blk_at hq_ BK442.out); have n5_ := Aside0.mk (blk_at hq_ BK477.out); have n6_ := Aside0.mk (IsS65.at_ hq_ HI0.out); have n7_ := Aside0.mk (keep_at hq_ HK.out); have n8_ := Aside0.mk (below_at hq_ HB.out); clear hq_ BK438 BK439 BK440 BK441 BK442 BK477 HI0 HK HB; have BK438 := n0_; have BK439 := n1_; have BK440 := n2_; have BK441 := n3_; have BK442 := n4_; have BK477 := n5_; have HI0 := n6_; have HK := n7_; have HB := n8_; clear n0_ n1_ n2_ n3_ n4_ n5_ n6_ n7_ n8_))
       obtain ⟨w115, hW_⟩ : ∃ W_, W_ = (((w107.setCell ⟨gb477, 0, none⟩ (.bool true)).setCell ⟨gb477, 1, none⟩ (.int .i64 a1_7)).setCell ⟨gb477, 2, none⟩ (.int .i64 a1_8)) := ⟨_, rfl⟩
       have n0_ : Aside0 (w115.heap[gb438]? = some (.cells #[.bool a1_0, .int .i64 a1_1, .int .i64 a1_2, .bool a1_3, .int .i64 a1_4, .int .i64 a1_5, .bool true, .int .i64 a1_7, .int .i64 a1_8] 42 (0, 0))) := ⟨by rw [hW_]; repeat (first | exact BK438.out | refine blk_far ?_ NB438_477.out _ | (with_reducible first | refine blk_drewN ?_ _ | refine blk_drew ?_ | refine blk_alloc ?_ _))⟩
       have n1_ : Aside0 (w115.heap[gb439]? = some (.cells #[.int .i64 a2_0, .int .i64 a2_1, .int .i64 a2_2] 37 (0, 0))) := ⟨by rw [hW_]; repeat (first | exact BK439.out | refine blk_far ?_ NB439_477.out _ | (with_reducible first | refine blk_drewN ?_ _ | refine blk_drew ?_ | refine blk_alloc ?_ _))⟩
       have n2_ : Aside0 (w115.heap[gb440]? = some (.cells #[.int .i64 a3_0, .int .i64 a3_1, .int .i64 a3_2] 37 (0, 0))) := ⟨by rw [hW_]; repeat (first | exact BK440.out | refine blk_far ?_ NB440_477.out _ | (with_reducible first | refine blk_drewN ?_ _ | refine blk_drew ?_ | refine blk_alloc ?_ _))⟩
       have n3_ : Aside0 (w115.heap[gb441]? = some (.cells #[.int .i64 x442000_1, .int .i64 x442001_1, .int .i64 x442002_1] 37 (0, 0))) := ⟨by rw [hW_]; repeat (first | exact BK441.out | refine blk_far ?_ NB441_477.out _ | (with_reducible first | refine blk_drewN ?_ _ | refine blk_drew ?_ | refine blk_alloc ?_ _))⟩
       have n4_ : Aside0 (w115.heap[gb442]? = some (.cells #[.int .i64 x443000_1, .int .i64 x443001_1, .int .i64 x443002_1] 37 (0, 0))) := ⟨by rw [hW_]; repeat (first | exact BK442.out | refine blk_far ?_ NB442_477.out _ | (with_reducible first | refine blk_drewN ?_ _ | refine blk_drew ?_ | refine blk_alloc ?_ _))⟩
       have n5_ : Aside0 (w115.heap[gb477]? = some (.cells #[.bool true, .int .i64 a1_7, .int .i64 a1_8] 41 (0, 0))) := ⟨by rw [hW_]; (with_reducible repeat (first | refine blk_drewN ?_ _ | refine blk_drew ?_ | refine blk_alloc ?_ _)); refine blk_put (cs := #[.bool true, .int .i64 a1_7, .int .i64 0]) ?_ 2 _ rfl; (with_reducible repeat (first | refine blk_drewN ?_ _ | refine blk_drew ?_ | refine blk_alloc ?_ _)); refine blk_put (cs := #[.bool true, .int .i64 0, .int .i64 0]) ?_ 1 _ rfl; (with_reducible repeat (first | refine blk_drewN ?_ _ | refine blk_drew ?_ | refine blk_alloc ?_ _)); refine blk_put (cs := #[.bool false, .int .i64 0, .int .i64 0]) ?_ 0 _ rfl; (with_reducible repeat (first | refine blk_drewN ?_ _ | refine blk_drew ?_ | refine blk_alloc ?_ _)); exact BK477.out⟩
       have n6_ : Aside0 (IsS65 w0 w115 g x1000_1 x1001_1 x1002_1 x1003_1) := ⟨by rw [hW_]; repeat (first | (with_reducible first | exact HI0.out | apply IsS65.alloc | apply IsS65.drewN | apply IsS65.drew | apply IsS65.set_0 | apply IsS65.set_1 | apply IsS65.set_2 | apply IsS65.set_3 | refine IsS65.far ?_ NB0_438.out _ | refine IsS65.far ?_ NB0_439.out _ | refine IsS65.far ?_ NB0_440.out _ | refine IsS65.far ?_ NB0_441.out _ | refine IsS65.far ?_ NB0_442.out _ | refine IsS65.far ?_ NB0_477.out _) | exact HI0.out)⟩
       have n7_ : Aside0 (KeepBut w w115 g none) := ⟨by rw [hW_]; repeat (first | (with_reducible first | exact HK.out | apply KeepBut.set_ | apply keep_drewN | apply keep_drew | apply keep_alloc | refine keep_far ?_ GW438.out _ | refine keep_far ?_ GW439.out _ | refine keep_far ?_ GW440.out _ | refine keep_far ?_ GW441.out _ | refine keep_far ?_ GW442.out _ | refine keep_far ?_ GW477.out _) | exact HK.out)⟩
       have n8_ : Aside0 (Below w0.heap.size w0 w115) := ⟨by rw [hW_]; repeat (first | (with_reducible first | exact HB.out | apply below_alloc | apply pw_below_drewN | apply below_drew1 | refine below_set ?_ (IsS65.ge HI0.out) | refine below_set ?_ GE438.out | refine below_set ?_ GE439.out | refine below_set ?_ GE440.out | refine below_set ?_ GE441.out | refine below_set ?_ GE442.out | refine below_set ?_ GE477.out) | exact HB.out)⟩
       (try clear BK438)
       (try clear BK439)
       (try clear BK440)
       (try clear BK441)
       (try clear BK442)
       (try clear BK477)
       (try clear HI0)
       (try clear HK)
       (try clear HB)
       rw [← hW_]
       clear hW_
       have BK438 := n0_
       have BK439 := n1_
       have BK440 := n2_
       have BK441 := n3_
       have BK442 := n4_
       have BK477 := n5_
       have HI0 := n6_
       have HK := n7_
       have HB := n8_
       clear n0_ n1_ n2_ n3_ n4_ n5_ n6_ n7_ n8_
       have n0_ := Aside0.mk (blk_drew BK438.out)
       have n1_ := Aside0.mk (blk_drew BK439.out)
       have n2_ := Aside0.mk (blk_drew BK440.out)
       have n3_ := Aside0.mk (blk_drew BK441.out)
       have n4_ := Aside0.mk (blk_drew BK442.out)
       have n5_ := Aside0.mk (blk_drew BK477.out)
       have n6_ := Aside0.mk (IsS65.drew HI0.out)
       have n7_ := Aside0.mk (keep_drew HK.out)
       have n8_ := Aside0.mk (below_drew1 HB.out)
       clear BK438
       clear BK439
       clear BK440
       clear BK441
       clear BK442
       clear BK477
       clear HI0
       clear HK
       clear HB
       have BK438 := n0_
       have BK439 := n1_
       have BK440 := n2_
       have BK441 := n3_
       have BK442 := n4_
       have BK477 := n5_
       have HI0 := n6_
       have HK := n7_
       have HB := n8_
       clear n0_ n1_ n2_ n3_ n4_ n5_ n6_ n7_ n8_
       refine start_ (n := 24) (S := fun w' => w'.cell? ⟨g, 0, none⟩ = some (.int .i64 x1000_1) ∧ w'.cell? ⟨g, 1, none⟩ = some (.int .i64 x1001_1) ∧ w'.cell? ⟨g, 2, none⟩ = some (.int .i64 x1002_1) ∧ w'.cell? ⟨g, 3, none⟩ = some (.int .i64 x1003_1) ∧ w'.cell? ⟨gb477, 0, none⟩ = some (.bool true) ∧ w'.cell? ⟨gb477, 1, none⟩ = some (.int .i64 a1_7) ∧ w'.cell? ⟨gb477, 2, none⟩ = some (.int .i64 a1_8) ∧ w'.cell? ⟨gb439, 0, none⟩ = some (.int .i64 a2_0) ∧ w'.cell? ⟨gb439, 1, none⟩ = some (.int .i64 a2_1) ∧ w'.cell? ⟨gb439, 2, none⟩ = some (.int .i64 a2_2)) (ds := [23]) (lb_ 24 0) (by kernel_rfl) rfl rfl ⟨(cellS65_0 HI0.out.1), (cellS65_1 HI0.out.1), (cellS65_2 HI0.out.1), (cellS65_3 HI0.out.1), (blk_cell BK477.out 0).trans rfl, (blk_cell BK477.out 1).trans rfl, (blk_cell BK477.out 2).trans rfl, (blk_cell BK439.out 0).trans rfl, (blk_cell BK439.out 1).trans rfl, (blk_cell BK439.out 2).trans rfl⟩ (fun hHeld => ?_); refine with_tabW control_Steer_Step.tab10 control_Steer_Step.bits10 (fun HT_ HW_ => ?_)
       generalize w115.drew = w116 at BK438 BK439 BK440 BK441 BK442 BK477 HI0 HK HB hHeld ⊢
       refine pure_ (i := 0) (N := some 23) (v := ?_) (a' := ?_) (lb_ 24 1) rfl rfl (any_of HT_.out (by kernel_rfl)) (fun _ _ _ h => h) (Or.inl ⟨by rfl, ?_⟩) ?_ ?_; rotate_left; (intro w'; go_simp; with_reducible rfl); rotate_left; (simp only [Act.put, List.setIfInBounds_toArray, List.set_cons_zero, List.set_cons_succ, i64_w, i32_w]; rfl)
       refine pure_ (i := 1) (N := some 24) (v := ?_) (a' := ?_) (lb_ 24 3) rfl rfl (any_of HT_.out (by kernel_rfl)) (fun _ _ _ h => h) (Or.inl ⟨by rfl, ?_⟩) ?_ ?_; rotate_left; (intro w'; go_simp; with_reducible rfl); rotate_left; (simp only [Act.put, List.setIfInBounds_toArray, List.set_cons_zero, List.set_cons_succ, i64_w, i32_w]; rfl)
       refine pure_ (i := 2) (N := some 25) (v := ?_) (a' := ?_) (lb_ 24 7) rfl rfl (any_of HT_.out (by kernel_rfl)) (fun _ _ _ h => h) (Or.inl ⟨by rfl, ?_⟩) ?_ ?_; rotate_left; (intro w'; go_simp; with_reducible rfl); rotate_left; (simp only [Act.put, List.setIfInBounds_toArray, List.set_cons_zero, List.set_cons_succ, i64_w, i32_w]; rfl)
       refine pure_ (i := 3) (N := some 26) (v := ?_) (a' := ?_) (lb_ 24 15) rfl rfl (any_of HT_.out (by kernel_rfl)) (fun _ _ _ h => h) (Or.inl ⟨by rfl, ?_⟩) ?_ ?_; rotate_left; (intro w'; go_simp; with_reducible rfl); rotate_left; (simp only [Act.put, List.setIfInBounds_toArray, List.set_cons_zero, List.set_cons_succ, i64_w, i32_w]; rfl)
       refine pure_ (i := 4) (N := some 27) (v := ?_) (a' := ?_) (lb_ 24 31) rfl rfl (any_of HT_.out (by kernel_rfl)) (fun _ _ _ h => h) (Or.inl ⟨by rfl, ?_⟩) ?_ ?_; rotate_left; (intro w'; go_simp; with_reducible rfl); rotate_left; (simp only [Act.put, List.setIfInBounds_toArray, List.set_cons_zero, List.set_cons_succ, i64_w, i32_w]; rfl)
       refine pure_ (i := 5) (N := some 28) (v := ?_) (a' := ?_) (lb_ 24 63) rfl rfl (any_of HT_.out (by kernel_rfl)) (fun _ _ _ h => h) (Or.inl ⟨by rfl, ?_⟩) ?_ ?_; rotate_left; (intro w'; go_simp; with_reducible rfl); rotate_left; (simp only [Act.put, List.setIfInBounds_toArray, List.set_cons_zero, List.set_cons_succ, i64_w, i32_w]; rfl)
       refine pure_ (i := 6) (N := some 29) (v := ?_) (a' := ?_) (lb_ 24 127) rfl rfl (any_of HT_.out (by kernel_rfl)) (fun _ _ _ h => h) (Or.inl ⟨by rfl, ?_⟩) ?_ ?_; rotate_left; (intro w'; go_simp; with_reducible rfl); rotate_left; (simp only [Act.put, List.setIfInBounds_toArray, List.set_cons_zero, List.set_cons_succ, i64_w, i32_w]; rfl)
       refine pure_ (i := 8) (N := some 31) (v := ?_) (a' := ?_) (lb_ 24 383) rfl rfl (any_of HT_.out (by kernel_rfl)) (fun _ _ _ h => h) (Or.inl ⟨by rfl, ?_⟩) ?_ ?_; rotate_left; (intro w'; go_simp; with_reducible rfl); rotate_left; (simp only [Act.put, List.setIfInBounds_toArray, List.set_cons_zero, List.set_cons_succ, i64_w, i32_w]; rfl)
       refine pure_ (i := 9) (N := some 32) (v := ?_) (a' := ?_) (lb_ 24 895) rfl rfl (any_of HT_.out (by kernel_rfl)) (fun _ _ _ h => h) (Or.inl ⟨by rfl, ?_⟩) ?_ ?_; rotate_left; (intro w'; go_simp; with_reducible rfl); rotate_left; (simp only [Act.put, List.setIfInBounds_toArray, List.set_cons_zero, List.set_cons_succ, i64_w, i32_w]; rfl)
       refine pure_ (i := 11) (N := some 34) (v := ?_) (a' := ?_) (lb_ 24 2943) rfl rfl (any_of HT_.out (by kernel_rfl)) (fun _ _ _ h => h) (Or.inl ⟨by rfl, ?_⟩) ?_ ?_; rotate_left; (intro w'; go_simp; with_reducible rfl); rotate_left; (simp only [Act.put, List.setIfInBounds_toArray, List.set_cons_zero, List.set_cons_succ, i64_w, i32_w]; rfl)
       refine pure_ (i := 12) (N := some 35) (v := ?_) (a' := ?_) (lb_ 24 7039) rfl rfl (any_of HT_.out (by kernel_rfl)) (fun _ _ _ h => h) (Or.inl ⟨by rfl, ?_⟩) ?_ ?_; rotate_left; (intro w'; go_simp; with_reducible rfl); rotate_left; (simp only [Act.put, List.setIfInBounds_toArray, List.set_cons_zero, List.set_cons_succ, i64_w, i32_w]; rfl)
       refine pure_ (i := 15) (N := some 38) (v := ?_) (a' := ?_) (lb_ 24 39807) rfl rfl (any_of HT_.out (by kernel_rfl)) (fun _ _ _ h => h) (Or.inl ⟨by rfl, ?_⟩) ?_ ?_; rotate_left; (intro w'; go_simp; with_reducible rfl); rotate_left; (simp only [Act.put, List.setIfInBounds_toArray, List.set_cons_zero, List.set_cons_succ, i64_w, i32_w]; rfl)
       refine pure_ (i := 16) (N := some 39) (v := ?_) (a' := ?_) (lb_ 24 105343) rfl rfl (any_of HT_.out (by kernel_rfl)) (fun _ _ _ h => h) (Or.inl ⟨by rfl, ?_⟩) ?_ ?_; rotate_left; (intro w'; go_simp; with_reducible rfl); rotate_left; (simp only [Act.put, List.setIfInBounds_toArray, List.set_cons_zero, List.set_cons_succ, i64_w, i32_w]; rfl)
       refine pure_ (i := 17) (N := some 40) (v := ?_) (a' := ?_) (lb_ 24 236415) rfl rfl (any_of HT_.out (by kernel_rfl)) (fun _ _ _ h => h) (Or.inl ⟨by rfl, ?_⟩) ?_ ?_; rotate_left; (intro w'; go_simp; with_reducible rfl); rotate_left; (simp only [Act.put, List.setIfInBounds_toArray, List.set_cons_zero, List.set_cons_succ, i64_w, i32_w]; rfl)
       refine pure_ (i := 20) (N := some 43) (v := ?_) (a' := ?_) (lb_ 24 1284991) rfl rfl (any_of HT_.out (by kernel_rfl)) (fun _ _ _ h => h) (Or.inl ⟨by rfl, ?_⟩) ?_ ?_; rotate_left; (intro w'; go_simp; with_reducible rfl); rotate_left; (simp only [Act.put, List.setIfInBounds_toArray, List.set_cons_zero, List.set_cons_succ, i64_w, i32_w]; rfl)
       refine pure_ (i := 21) (N := some 44) (v := ?_) (a' := ?_) (lb_ 24 3382143) rfl rfl (any_of HT_.out (by kernel_rfl)) (fun _ _ _ h => h) (Or.inl ⟨by rfl, ?_⟩) ?_ ?_; rotate_left; (intro w'; go_simp; with_reducible rfl); rotate_left; (simp only [Act.put, List.setIfInBounds_toArray, List.set_cons_zero, List.set_cons_succ, i64_w, i32_w]; rfl)
       refine take_ (i := 7) (N := some 30) (v := ?_) (a' := ?_) (lb_ 24 3382271) rfl rfl (take_ofW HT_.out HW_.out (by kernel_rfl)) (fun _ _ _ h => h) (Or.inl ⟨by rfl, ?_⟩) hHeld ?_ ?_; rotate_left; (rintro w' ⟨s0, s1, s2, s3, s4, s5, s6, s7, s8, s9⟩; go_simp; with_reducible rfl); rotate_left; (simp only [Act.put, List.setIfInBounds_toArray, List.set_cons_zero, List.set_cons_succ, i64_w, i32_w]; rfl)
       refine take_ (i := 10) (N := some 33) (v := ?_) (a' := ?_) (lb_ 24 3383295) rfl rfl (take_ofW HT_.out HW_.out (by kernel_rfl)) (fun _ _ _ h => h) (Or.inl ⟨by rfl, ?_⟩) hHeld ?_ ?_; rotate_left; (rintro w' ⟨s0, s1, s2, s3, s4, s5, s6, s7, s8, s9⟩; go_simp; with_reducible rfl); rotate_left; (simp only [Act.put, List.setIfInBounds_toArray, List.set_cons_zero, List.set_cons_succ, i64_w, i32_w]; rfl)
       refine take_ (i := 13) (N := some 36) (v := ?_) (a' := ?_) (lb_ 24 3391487) rfl rfl (take_ofW HT_.out HW_.out (by kernel_rfl)) (fun _ _ _ h => h) (Or.inl ⟨by rfl, ?_⟩) hHeld ?_ ?_; rotate_left; (rintro w' ⟨s0, s1, s2, s3, s4, s5, s6, s7, s8, s9⟩; go_simp; with_reducible rfl); rotate_left; (simp only [Act.put, List.setIfInBounds_toArray, List.set_cons_zero, List.set_cons_succ, i64_w, i32_w]; rfl)
       refine take_ (i := 18) (N := some 41) (v := ?_) (a' := ?_) (lb_ 24 3653631) rfl rfl (take_ofW HT_.out HW_.out (by kernel_rfl)) (fun _ _ _ h => h) (Or.inl ⟨by rfl, ?_⟩) hHeld ?_ ?_; rotate_left; (rintro w' ⟨s0, s1, s2, s3, s4, s5, s6, s7, s8, s9⟩; go_simp; with_reducible rfl); rotate_left; (simp only [Act.put, List.setIfInBounds_toArray, List.set_cons_zero, List.set_cons_succ, i64_w, i32_w]; rfl)
       refine one_ (i := 14) (N := some 37) (lb_ 24 3670015) rfl rfl (one_of HT_.out (by kernel_rfl)) (by decide) (fun K hK => ?_)
       refine goesv_ Try.func40 (by kernel_rfl) rfl #[.pointer (some ⟨g, 0, none⟩), .agg #[.bool true, .int .i64 a1_7, .int .i64 a1_8], .int .i64 a2_2] (by rfl) rfl rfl rfl (by (try simp only [List.map_toArray, List.map_cons, List.map_nil]); first | done | rfl | (simp only [List.length_drop, List.length_take]; rfl)) ?_
       with_reducible refine (control_Steer_place.calls k1 g x1000_1 x1001_1 x1002_1 x1003_1 true a1_7 a1_8 a2_2 t478 x1000_1 x1001_1 x1002_1 x1003_1 w0 _ ?side1 ?side2 A103.out).mono ?_
       (case side1 => repeat (first | (with_reducible first | exact HI0.out | apply IsS65.alloc | apply IsS65.drewN | apply IsS65.drew | apply IsS65.set_0 | apply IsS65.set_1 | apply IsS65.set_2 | apply IsS65.set_3 | refine IsS65.far ?_ NB0_438.out _ | refine IsS65.far ?_ NB0_439.out _ | refine IsS65.far ?_ NB0_440.out _ | refine IsS65.far ?_ NB0_441.out _ | refine IsS65.far ?_ NB0_442.out _ | refine IsS65.far ?_ NB0_477.out _) | exact HI0.out))
       (case side2 => repeat (first | (with_reducible first | exact HB.out | apply below_alloc | apply pw_below_drewN | apply below_drew1 | refine below_set ?_ (IsS65.ge HI0.out) | refine below_set ?_ GE438.out | refine below_set ?_ GE439.out | refine below_set ?_ GE440.out | refine below_set ?_ GE441.out | refine below_set ?_ GE442.out | refine below_set ?_ GE477.out) | exact HB.out))
       rintro e w117 ⟨rfl, hi, hb, hk⟩
       refine ⟨_, rfl, ?_⟩
       have n0_ := Aside0.mk (KeepBut.blk hk BK438.out NB438_0.out (by simp))
       have n1_ := Aside0.mk (KeepBut.blk hk BK439.out NB439_0.out (by simp))
       have n2_ := Aside0.mk (KeepBut.blk hk BK440.out NB440_0.out (by simp))
       have n3_ := Aside0.mk (KeepBut.blk hk BK441.out NB441_0.out (by simp))
       have n4_ := Aside0.mk (KeepBut.blk hk BK442.out NB442_0.out (by simp))
       have n5_ := Aside0.mk (KeepBut.blk hk BK477.out NB477_0.out (by simp))
       have n6_ := Aside0.mk (KeepBut.trans HK.out hk (.inl rfl))
       have n7_ := Aside0.mk (hb)
       have n8_ := Aside0.mk (hi)
       clear BK438
       clear BK439
       clear BK440
       clear BK441
       clear BK442
       clear BK477
       clear HK
       clear HB
       clear HI0
       have BK438 := n0_
       have BK439 := n1_
       have BK440 := n2_
       have BK441 := n3_
       have BK442 := n4_
       have BK477 := n5_
       have HK := n6_
       have HB := n7_
       have HI0 := n8_
       clear n0_ n1_ n2_ n3_ n4_ n5_ n6_ n7_ n8_
       (try clear hb)
       (try clear hb2)
       (try clear hk)
       (try clear hi)
       refine hK.out _ _ ⟨(cellS65_0 HI0.out.1), (cellS65_1 HI0.out.1), (cellS65_2 HI0.out.1), (cellS65_3 HI0.out.1), (blk_cell BK477.out 0).trans rfl, (blk_cell BK477.out 1).trans rfl, (blk_cell BK477.out 2).trans rfl, (blk_cell BK439.out 0).trans rfl, (blk_cell BK439.out 1).trans rfl, (blk_cell BK439.out 2).trans rfl⟩ (fun hHeld => ?_)
       clear hK K
       refine norm_ (a' := ?_) ?_ ?_
       rotate_left
       ·show Act.put _ (some 37) _ = _
        simp only [Act.put, List.setIfInBounds_toArray, List.set_cons_zero, List.set_cons_succ, i64_w, i32_w]
        rfl
       refine one_ (i := 19) (N := some 42) (lb_ 24 4194303) rfl rfl (one_of HT_.out (by kernel_rfl)) (by decide) (fun K hK => ?_)
       refine goes_ Try.func41 (by kernel_rfl) rfl #[.int .i64 x1003_1, .int .i64 t478, .int .i64 x1000_1] (by rfl) rfl rfl (by (try simp only [List.map_toArray, List.map_cons, List.map_nil]); first | done | rfl | (simp only [List.length_drop, List.length_take]; rfl)) ?_
       with_reducible refine (fix_Slew.calls k1 x1003_1 t478 x1000_1 t483 _ A104.out).mono ?_
       rintro e w118 ⟨rfl, hb⟩
       refine ⟨_, rfl, ?_⟩
       have n0_ := Aside0.mk (blk_below BK438.out hb)
       have n1_ := Aside0.mk (blk_below BK439.out hb)
       have n2_ := Aside0.mk (blk_below BK440.out hb)
       have n3_ := Aside0.mk (blk_below BK441.out hb)
       have n4_ := Aside0.mk (blk_below BK442.out hb)
       have n5_ := Aside0.mk (IsS65.below HI0.out hb)
       have n6_ := Aside0.mk (blk_below BK477.out hb)
       have n7_ := Aside0.mk (KeepBut.trans HK.out (KeepBut.of_below hb g none) (.inl rfl))
       have n8_ := Aside0.mk (below_step HB.out hb)
       clear BK438
       clear BK439
       clear BK440
       clear BK441
       clear BK442
       clear HI0
       clear BK477
       clear HK
       clear HB
       have BK438 := n0_
       have BK439 := n1_
       have BK440 := n2_
       have BK441 := n3_
       have BK442 := n4_
       have HI0 := n5_
       have BK477 := n6_
       have HK := n7_
       have HB := n8_
       clear n0_ n1_ n2_ n3_ n4_ n5_ n6_ n7_ n8_
       (try clear hb)
       (try clear hb2)
       (try clear hk)
       (try clear hi)
       refine hK.out _ _ ⟨(cellS65_0 HI0.out.1), (cellS65_1 HI0.out.1), (cellS65_2 HI0.out.1), (cellS65_3 HI0.out.1), (blk_cell BK477.out 0).trans rfl, (blk_cell BK477.out 1).trans rfl, (blk_cell BK477.out 2).trans rfl, (blk_cell BK439.out 0).trans rfl, (blk_cell BK439.out 1).trans rfl, (blk_cell BK439.out 2).trans rfl⟩ (fun hHeld => ?_)
       clear hK K
       refine norm_ (a' := ?_) ?_ ?_
       rotate_left
       ·show Act.put _ (some 42) _ = _
        simp only [Act.put, List.setIfInBounds_toArray, List.set_cons_zero, List.set_cons_succ, i64_w, i32_w]
        rfl
       refine pure_ (i := 22) (N := some 45) (v := ?_) (a' := ?_) (lb_ 24 8388607) rfl rfl (any_of HT_.out (by kernel_rfl)) (fun _ _ _ h => h) (Or.inl ⟨by rfl, ?_⟩) ?_ ?_; rotate_left; (intro w'; go_simp; with_reducible rfl); rotate_left; (simp only [Act.put, List.setIfInBounds_toArray, List.set_cons_zero, List.set_cons_succ, i64_w, i32_w]; rfl)
       refine last_ (i := 23) (N := none) (lb_ 24 16777215) rfl rfl (one_of HT_.out (by kernel_rfl)) (by decide) (fun K hK => ?_)
       have hs119 := cellS65_3 HI0.out.1
       have hfs119 := blk_frozen HI0.out.1 3
       have hns119_0 := NB438_0.out
       have hns119_1 := NB439_0.out
       have hns119_2 := NB440_0.out
       have hns119_3 := NB441_0.out
       have hns119_4 := NB442_0.out
       have hns119_5 := NB477_0.out
       have hms119_0 := NB0_438.out
       have hms119_1 := NB0_439.out
       have hms119_2 := NB0_440.out
       have hms119_3 := NB0_441.out
       have hms119_4 := NB0_442.out
       have hms119_5 := NB0_477.out
       refine skip_ (w1 := ?_) (by rfl) rfl ?_ ?_
       rotate_left
       ·go_simp
        rfl
       refine hK.out _ _ ?_
       clear hK K
       refine done_ (done_of HT_.out (by kernel_rfl)) ?_
       try go_wp2
       (repeat (rw [drewN_self w118]; generalize hq_ : World.drewN w118 _ = w118; have n0_ := Aside0.mk (blk_at hq_ BK438.out); have n1_ := Aside0.mk (blk_at hq_ BK439.out); have n2_ := Aside0.mk (blk_at hq_ BK440.out); have n3_ := Aside0.mk (blk_at hq_ BK441.out); have n4_ := Aside0.mk (blk_at hq_ BK442.out); have n5_ := Aside0.mk (blk_at hq_ BK477.out); have n6_ := Aside0.mk (IsS65.at_ hq_ HI0.out); have n7_ := Aside0.mk (keep_at hq_ HK.out); have n8_ := Aside0.mk (below_at hq_ HB.out); clear hq_ BK438 BK439 BK440 BK441 BK442 BK477 HI0 HK HB; have BK438 := n0_; have BK439 := n1_; have BK440 := n2_; have BK441 := n3_; have BK442 := n4_; have BK477 := n5_; have HI0 := n6_; have HK := n7_; have HB := n8_; clear n0_ n1_ n2_ n3_ n4_ n5_ n6_ n7_ n8_))
       obtain ⟨w120, hW_⟩ : ∃ W_, W_ = (w118.setCell ⟨g, 3, none⟩ (.int .i64 t483)) := ⟨_, rfl⟩
       have n0_ : Aside0 (w120.heap[gb438]? = some (.cells #[.bool a1_0, .int .i64 a1_1, .int .i64 a1_2, .bool a1_3, .int .i64 a1_4, .int .i64 a1_5, .bool true, .int .i64 a1_7, .int .i64 a1_8] 42 (0, 0))) := ⟨by rw [hW_]; repeat (first | exact BK438.out | refine blk_far ?_ NB438_0.out _ | (with_reducible first | refine blk_drewN ?_ _ | refine blk_drew ?_ | refine blk_alloc ?_ _))⟩
       have n1_ : Aside0 (w120.heap[gb439]? = some (.cells #[.int .i64 a2_0, .int .i64 a2_1, .int .i64 a2_2] 37 (0, 0))) := ⟨by rw [hW_]; repeat (first | exact BK439.out | refine blk_far ?_ NB439_0.out _ | (with_reducible first | refine blk_drewN ?_ _ | refine blk_drew ?_ | refine blk_alloc ?_ _))⟩
       have n2_ : Aside0 (w120.heap[gb440]? = some (.cells #[.int .i64 a3_0, .int .i64 a3_1, .int .i64 a3_2] 37 (0, 0))) := ⟨by rw [hW_]; repeat (first | exact BK440.out | refine blk_far ?_ NB440_0.out _ | (with_reducible first | refine blk_drewN ?_ _ | refine blk_drew ?_ | refine blk_alloc ?_ _))⟩
       have n3_ : Aside0 (w120.heap[gb441]? = some (.cells #[.int .i64 x442000_1, .int .i64 x442001_1, .int .i64 x442002_1] 37 (0, 0))) := ⟨by rw [hW_]; repeat (first | exact BK441.out | refine blk_far ?_ NB441_0.out _ | (with_reducible first | refine blk_drewN ?_ _ | refine blk_drew ?_ | refine blk_alloc ?_ _))⟩
       have n4_ : Aside0 (w120.heap[gb442]? = some (.cells #[.int .i64 x443000_1, .int .i64 x443001_1, .int .i64 x443002_1] 37 (0, 0))) := ⟨by rw [hW_]; repeat (first | exact BK442.out | refine blk_far ?_ NB442_0.out _ | (with_reducible first | refine blk_drewN ?_ _ | refine blk_drew ?_ | refine blk_alloc ?_ _))⟩
       have n5_ : Aside0 (w120.heap[gb477]? = some (.cells #[.bool true, .int .i64 a1_7, .int .i64 a1_8] 41 (0, 0))) := ⟨by rw [hW_]; repeat (first | exact BK477.out | refine blk_far ?_ NB477_0.out _ | (with_reducible first | refine blk_drewN ?_ _ | refine blk_drew ?_ | refine blk_alloc ?_ _))⟩
       have n6_ : Aside0 (IsS65 w0 w120 g x1000_1 x1001_1 x1002_1 t483) := ⟨by rw [hW_]; repeat (first | (with_reducible first | exact HI0.out | apply IsS65.alloc | apply IsS65.drewN | apply IsS65.drew | apply IsS65.set_0 | apply IsS65.set_1 | apply IsS65.set_2 | apply IsS65.set_3 | refine IsS65.far ?_ NB0_438.out _ | refine IsS65.far ?_ NB0_439.out _ | refine IsS65.far ?_ NB0_440.out _ | refine IsS65.far ?_ NB0_441.out _ | refine IsS65.far ?_ NB0_442.out _ | refine IsS65.far ?_ NB0_477.out _) | exact HI0.out)⟩
       have n7_ : Aside0 (KeepBut w w120 g none) := ⟨by rw [hW_]; repeat (first | (with_reducible first | exact HK.out | apply KeepBut.set_ | apply keep_drewN | apply keep_drew | apply keep_alloc | refine keep_far ?_ GW438.out _ | refine keep_far ?_ GW439.out _ | refine keep_far ?_ GW440.out _ | refine keep_far ?_ GW441.out _ | refine keep_far ?_ GW442.out _ | refine keep_far ?_ GW477.out _) | exact HK.out)⟩
       have n8_ : Aside0 (Below w0.heap.size w0 w120) := ⟨by rw [hW_]; repeat (first | (with_reducible first | exact HB.out | apply below_alloc | apply pw_below_drewN | apply below_drew1 | refine below_set ?_ (IsS65.ge HI0.out) | refine below_set ?_ GE438.out | refine below_set ?_ GE439.out | refine below_set ?_ GE440.out | refine below_set ?_ GE441.out | refine below_set ?_ GE442.out | refine below_set ?_ GE477.out) | exact HB.out)⟩
       (try clear BK438)
       (try clear BK439)
       (try clear BK440)
       (try clear BK441)
       (try clear BK442)
       (try clear BK477)
       (try clear HI0)
       (try clear HK)
       (try clear HB)
       rw [← hW_]
       clear hW_
       have BK438 := n0_
       have BK439 := n1_
       have BK440 := n2_
       have BK441 := n3_
       have BK442 := n4_
       have BK477 := n5_
       have HI0 := n6_
       have HK := n7_
       have HB := n8_
       clear n0_ n1_ n2_ n3_ n4_ n5_ n6_ n7_ n8_
       have n0_ := Aside0.mk (blk_drew BK438.out)
       have n1_ := Aside0.mk (blk_drew BK439.out)
       have n2_ := Aside0.mk (blk_drew BK440.out)
       have n3_ := Aside0.mk (blk_drew BK441.out)
       have n4_ := Aside0.mk (blk_drew BK442.out)
       have n5_ := Aside0.mk (blk_drew BK477.out)
       have n6_ := Aside0.mk (IsS65.drew HI0.out)
       have n7_ := Aside0.mk (keep_drew HK.out)
       have n8_ := Aside0.mk (below_drew1 HB.out)
       clear BK438
       clear BK439
       clear BK440
       clear BK441
       clear BK442
       clear BK477
       clear HI0
       clear HK
       clear HB
       have BK438 := n0_
       have BK439 := n1_
       have BK440 := n2_
       have BK441 := n3_
       have BK442 := n4_
       have BK477 := n5_
       have HI0 := n6_
       have HK := n7_
       have HB := n8_
       clear n0_ n1_ n2_ n3_ n4_ n5_ n6_ n7_ n8_
       refine start_ (n := 14) (S := fun w' => w'.cell? ⟨g, 0, none⟩ = some (.int .i64 x1000_1) ∧ w'.cell? ⟨g, 1, none⟩ = some (.int .i64 x1001_1) ∧ w'.cell? ⟨g, 2, none⟩ = some (.int .i64 x1002_1) ∧ w'.cell? ⟨g, 3, none⟩ = some (.int .i64 t483) ∧ w'.cell? ⟨gb440, 0, none⟩ = some (.int .i64 a3_0) ∧ w'.cell? ⟨gb440, 1, none⟩ = some (.int .i64 a3_1) ∧ w'.cell? ⟨gb440, 2, none⟩ = some (.int .i64 a3_2)) (ds := []) (lb_ 14 0) (by kernel_rfl) rfl rfl ⟨(cellS65_0 HI0.out.1), (cellS65_1 HI0.out.1), (cellS65_2 HI0.out.1), (cellS65_3 HI0.out.1), (blk_cell BK440.out 0).trans rfl, (blk_cell BK440.out 1).trans rfl, (blk_cell BK440.out 2).trans rfl⟩ (fun hHeld => ?_); refine with_tabW control_Steer_Step.tab11 control_Steer_Step.bits11 (fun HT_ HW_ => ?_)
       generalize w120.drew = w121 at BK438 BK439 BK440 BK441 BK442 BK477 HI0 HK HB hHeld ⊢
       refine pure_ (i := 0) (N := some 46) (v := ?_) (a' := ?_) (lb_ 14 1) rfl rfl (any_of HT_.out (by kernel_rfl)) (fun _ _ _ h => h) (Or.inl ⟨by rfl, ?_⟩) ?_ ?_; rotate_left; (intro w'; go_simp; with_reducible rfl); rotate_left; (simp only [Act.put, List.setIfInBounds_toArray, List.set_cons_zero, List.set_cons_succ, i64_w, i32_w]; rfl)
       refine pure_ (i := 1) (N := some 47) (v := ?_) (a' := ?_) (lb_ 14 3) rfl rfl (any_of HT_.out (by kernel_rfl)) (fun _ _ _ h => h) (Or.inl ⟨by rfl, ?_⟩) ?_ ?_; rotate_left; (intro w'; go_simp; with_reducible rfl); rotate_left; (simp only [Act.put, List.setIfInBounds_toArray, List.set_cons_zero, List.set_cons_succ, i64_w, i32_w]; rfl)
       refine pure_ (i := 2) (N := some 48) (v := ?_) (a' := ?_) (lb_ 14 7) rfl rfl (any_of HT_.out (by kernel_rfl)) (fun _ _ _ h => h) (Or.inl ⟨by rfl, ?_⟩) ?_ ?_; rotate_left; (intro w'; go_simp; with_reducible rfl); rotate_left; (simp only [Act.put, List.setIfInBounds_toArray, List.set_cons_zero, List.set_cons_succ, i64_w, i32_w]; rfl)
       refine pure_ (i := 3) (N := some 49) (v := ?_) (a' := ?_) (lb_ 14 15) rfl rfl (any_of HT_.out (by kernel_rfl)) (fun _ _ _ h => h) (Or.inl ⟨by rfl, ?_⟩) ?_ ?_; rotate_left; (intro w'; go_simp; with_reducible rfl); rotate_left; (simp only [Act.put, List.setIfInBounds_toArray, List.set_cons_zero, List.set_cons_succ, i64_w, i32_w]; rfl)
       refine pure_ (i := 4) (N := some 50) (v := ?_) (a' := ?_) (lb_ 14 31) rfl rfl (any_of HT_.out (by kernel_rfl)) (fun _ _ _ h => h) (Or.inl ⟨by rfl, ?_⟩) ?_ ?_; rotate_left; (intro w'; go_simp; with_reducible rfl); rotate_left; (simp only [Act.put, List.setIfInBounds_toArray, List.set_cons_zero, List.set_cons_succ, i64_w, i32_w]; rfl)
       refine pure_ (i := 5) (N := some 51) (v := ?_) (a' := ?_) (lb_ 14 63) rfl rfl (any_of HT_.out (by kernel_rfl)) (fun _ _ _ h => h) (Or.inl ⟨by rfl, ?_⟩) ?_ ?_; rotate_left; (intro w'; go_simp; with_reducible rfl); rotate_left; (simp only [Act.put, List.setIfInBounds_toArray, List.set_cons_zero, List.set_cons_succ, i64_w, i32_w]; rfl)
       refine pure_ (i := 7) (N := some 53) (v := ?_) (a' := ?_) (lb_ 14 191) rfl rfl (any_of HT_.out (by kernel_rfl)) (fun _ _ _ h => h) (Or.inl ⟨by rfl, ?_⟩) ?_ ?_; rotate_left; (intro w'; go_simp; with_reducible rfl); rotate_left; (simp only [Act.put, List.setIfInBounds_toArray, List.set_cons_zero, List.set_cons_succ, i64_w, i32_w]; rfl)
       refine pure_ (i := 8) (N := some 54) (v := ?_) (a' := ?_) (lb_ 14 447) rfl rfl (any_of HT_.out (by kernel_rfl)) (fun _ _ _ h => h) (Or.inl ⟨by rfl, ?_⟩) ?_ ?_; rotate_left; (intro w'; go_simp; with_reducible rfl); rotate_left; (simp only [Act.put, List.setIfInBounds_toArray, List.set_cons_zero, List.set_cons_succ, i64_w, i32_w]; rfl)
       refine take_ (i := 6) (N := some 52) (v := ?_) (a' := ?_) (lb_ 14 511) rfl rfl (take_ofW HT_.out HW_.out (by kernel_rfl)) (fun _ _ _ h => h) (Or.inl ⟨by rfl, ?_⟩) hHeld ?_ ?_; rotate_left; (rintro w' ⟨s0, s1, s2, s3, s4, s5, s6⟩; go_simp; with_reducible rfl); rotate_left; (simp only [Act.put, List.setIfInBounds_toArray, List.set_cons_zero, List.set_cons_succ, i64_w, i32_w]; rfl)
       refine take_ (i := 9) (N := some 55) (v := ?_) (a' := ?_) (lb_ 14 1023) rfl rfl (take_ofW HT_.out HW_.out (by kernel_rfl)) (fun _ _ _ h => h) (Or.inl ⟨by rfl, ?_⟩) hHeld ?_ ?_; rotate_left; (rintro w' ⟨s0, s1, s2, s3, s4, s5, s6⟩; go_simp; with_reducible rfl); rotate_left; (simp only [Act.put, List.setIfInBounds_toArray, List.set_cons_zero, List.set_cons_succ, i64_w, i32_w]; rfl)
       refine one_ (i := 10) (N := some 56) (lb_ 14 2047) rfl rfl (one_of HT_.out (by kernel_rfl)) (by decide) (fun K hK => ?_)
       refine goes_ Try.func27 (by kernel_rfl) rfl #[.int .i64 t483, .int .i64 a3_2] (by rfl) rfl rfl (by (try simp only [List.map_toArray, List.map_cons, List.map_nil]); first | done | rfl | (simp only [List.length_drop, List.length_take]; rfl)) ?_
       with_reducible refine (fix_Sub.calls k1 t483 a3_2 t484 _ A105.out).mono ?_
       rintro e w' ⟨rfl, ⟨nd, rfl⟩⟩
       refine ⟨_, rfl, ?_⟩
       refine hK.out _ _ ⟨(cellS65_0 HI0.out.1), (cellS65_1 HI0.out.1), (cellS65_2 HI0.out.1), (cellS65_3 HI0.out.1), (blk_cell BK440.out 0).trans rfl, (blk_cell BK440.out 1).trans rfl, (blk_cell BK440.out 2).trans rfl⟩ (fun hHeld => ?_)
       clear hK K
       refine norm_ (a' := ?_) ?_ ?_
       rotate_left
       ·show Act.put _ (some 56) _ = _
        simp only [Act.put, List.setIfInBounds_toArray, List.set_cons_zero, List.set_cons_succ, i64_w, i32_w]
        rfl
       refine one_ (i := 11) (N := some 57) (lb_ 14 4095) rfl rfl (one_of HT_.out (by kernel_rfl)) (by decide) (fun K hK => ?_)
       refine goes_ Try.func33 (by kernel_rfl) rfl #[.int .i64 t484, .int .i64 (-64), .int .i64 64] (by rfl) rfl rfl (by (try simp only [List.map_toArray, List.map_cons, List.map_nil]); first | done | rfl | (simp only [List.length_drop, List.length_take]; rfl)) ?_
       with_reducible refine (fix_Clamp.calls t484 (-64) 64 t485 _ A106.out).mono ?_
       rintro e w' ⟨rfl, ⟨nd, rfl⟩⟩
       refine ⟨_, rfl, ?_⟩
       refine hK.out _ _ ⟨(cellS65_0 HI0.out.1), (cellS65_1 HI0.out.1), (cellS65_2 HI0.out.1), (cellS65_3 HI0.out.1), (blk_cell BK440.out 0).trans rfl, (blk_cell BK440.out 1).trans rfl, (blk_cell BK440.out 2).trans rfl⟩ (fun hHeld => ?_)
       clear hK K
       refine norm_ (a' := ?_) ?_ ?_
       rotate_left
       ·show Act.put _ (some 57) _ = _
        simp only [Act.put, List.setIfInBounds_toArray, List.set_cons_zero, List.set_cons_succ, i64_w, i32_w]
        rfl
       refine pure_ (i := 12) (N := some 58) (v := ?_) (a' := ?_) (lb_ 14 8191) rfl rfl (any_of HT_.out (by kernel_rfl)) (fun _ _ _ h => h) (Or.inl ⟨by rfl, ?_⟩) ?_ ?_; rotate_left; (intro w'; go_simp; with_reducible rfl); rotate_left; (simp only [Act.put, List.setIfInBounds_toArray, List.set_cons_zero, List.set_cons_succ, i64_w, i32_w]; rfl)
       refine one_ (i := 13) (N := none) (lb_ 14 16383) rfl rfl (one_of HT_.out (by kernel_rfl)) (by decide) (fun K hK => ?_)
       have hs122 : w121.cell? ⟨gb442, 2, none⟩ = some (.int .i64 x443002_1) := (blk_cell BK442.out 2).trans rfl
       have hfs122 := blk_frozen BK442.out 2
       have hns122_0 := NB438_442.out
       have hns122_1 := NB439_442.out
       have hns122_2 := NB440_442.out
       have hns122_3 := NB441_442.out
       have hns122_5 := NB477_442.out
       have hms122_0 := NB442_438.out
       have hms122_1 := NB442_439.out
       have hms122_2 := NB442_440.out
       have hms122_3 := NB442_441.out
       have hms122_5 := NB442_477.out
       refine skip_ (w1 := ?_) (by rfl) rfl ?_ ?_
       rotate_left
       ·go_simp
        rfl
       refine hK.out _ _ ⟨((cell_far (p := ⟨gb442, _, none⟩) NB0_442.out _).trans (hHeld.1)), ((cell_far (p := ⟨gb442, _, none⟩) NB0_442.out _).trans (hHeld.2.1)), ((cell_far (p := ⟨gb442, _, none⟩) NB0_442.out _).trans (hHeld.2.2.1)), ((cell_far (p := ⟨gb442, _, none⟩) NB0_442.out _).trans (hHeld.2.2.2.1)), ((cell_far (p := ⟨gb442, _, none⟩) NB440_442.out _).trans (hHeld.2.2.2.2.1)), ((cell_far (p := ⟨gb442, _, none⟩) NB440_442.out _).trans (hHeld.2.2.2.2.2.1)), ((cell_far (p := ⟨gb442, _, none⟩) NB440_442.out _).trans (hHeld.2.2.2.2.2.2))⟩ (fun hHeld => ?_)
       clear hK K
       refine done_ (done_of HT_.out (by kernel_rfl)) ?_
       try go_wp2
       go_roundg k1
       case measure => have := HK1.out; omega
       case rel => exact ⟨(3), (x1000_1), (x1001_1), (x1002_1), (t483), (x442000_1), (x442001_1), (x442002_1), (x443000_1), (x443001_1), (t485), (by first | rfl | (simp; done) | (simp [*]; done)), H', ⟨by have := HK1.out; omega⟩, ⟨by (with_reducible repeat (first | refine blk_drewN ?_ _ | refine blk_drew ?_ | refine blk_alloc ?_ _)); refine blk_far ?_ NB438_442.out _; (with_reducible repeat (first | refine blk_drewN ?_ _ | refine blk_drew ?_ | refine blk_alloc ?_ _)); exact BK438.out⟩, ⟨by (with_reducible repeat (first | refine blk_drewN ?_ _ | refine blk_drew ?_ | refine blk_alloc ?_ _)); refine blk_far ?_ NB439_442.out _; (with_reducible repeat (first | refine blk_drewN ?_ _ | refine blk_drew ?_ | refine blk_alloc ?_ _)); exact BK439.out⟩, ⟨by (with_reducible repeat (first | refine blk_drewN ?_ _ | refine blk_drew ?_ | refine blk_alloc ?_ _)); refine blk_far ?_ NB440_442.out _; (with_reducible repeat (first | refine blk_drewN ?_ _ | refine blk_drew ?_ | refine blk_alloc ?_ _)); exact BK440.out⟩, ⟨by (with_reducible repeat (first | refine blk_drewN ?_ _ | refine blk_drew ?_ | refine blk_alloc ?_ _)); refine blk_far ?_ NB441_442.out _; (with_reducible repeat (first | refine blk_drewN ?_ _ | refine blk_drew ?_ | refine blk_alloc ?_ _)); exact BK441.out⟩, ⟨by (with_reducible repeat (first | refine blk_drewN ?_ _ | refine blk_drew ?_ | refine blk_alloc ?_ _)); refine blk_put (cs := #[.int .i64 x443000_1, .int .i64 x443001_1, .int .i64 x443002_1]) ?_ 2 _ rfl; (with_reducible repeat (first | refine blk_drewN ?_ _ | refine blk_drew ?_ | refine blk_alloc ?_ _)); exact BK442.out⟩, ⟨by repeat (first | (with_reducible first | exact HI0.out | apply IsS65.alloc | apply IsS65.drewN | apply IsS65.drew | apply IsS65.set_0 | apply IsS65.set_1 | apply IsS65.set_2 | apply IsS65.set_3 | refine IsS65.far ?_ NB0_438.out _ | refine IsS65.far ?_ NB0_439.out _ | refine IsS65.far ?_ NB0_440.out _ | refine IsS65.far ?_ NB0_441.out _ | refine IsS65.far ?_ NB0_442.out _ | refine IsS65.far ?_ NB0_477.out _) | exact HI0.out)⟩, ⟨by repeat (first | (with_reducible first | exact HK.out | apply KeepBut.set_ | apply keep_drewN | apply keep_drew | apply keep_alloc | refine keep_far ?_ GW438.out _ | refine keep_far ?_ GW439.out _ | refine keep_far ?_ GW440.out _ | refine keep_far ?_ GW441.out _ | refine keep_far ?_ GW442.out _ | refine keep_far ?_ GW477.out _) | exact HK.out)⟩, ⟨by repeat (first | (with_reducible first | exact HB.out | apply below_alloc | apply pw_below_drewN | apply below_drew1 | refine below_set ?_ (IsS65.ge HI0.out) | refine below_set ?_ GE438.out | refine below_set ?_ GE439.out | refine below_set ?_ GE440.out | refine below_set ?_ GE441.out | refine below_set ?_ GE442.out | refine below_set ?_ GE477.out) | exact HB.out)⟩⟩
      ·replace c102 := Bool.eq_false_iff.mpr c102
       subst c102
       have H1 : ((control_Steer_drift.f x1000_1 x1001_1 x1002_1 x1003_1 false a1_7 a1_8 a2_2).bind fun bt486 => ((fix_Slew.f k1 x1003_1 bt486.1 x1000_1).bind fun t491 => ((fix_Sub.f k1 t491 a3_2).bind fun t492 => ((fix_Clamp.f t492 (-64) 64).bind fun t493 => (control_Steer_Step.l0 k1 3 x1000_1 x1001_1 x1002_1 t491 a2_0 a2_1 a2_2 a3_0 a3_1 a3_2 x443000_1 x443001_1 t493 a1_0 a1_1 a1_2 a1_3 a1_4 a1_5 false a1_7 a1_8))))) = some (r1, r2, r3, r4, r5, r6, r7) := by rw [if_neg (show ¬ (false = true) by decide)] at H; exact H
       clear H
       have H := H1
       clear H1
       replace H := Option.bind_eq_some_iff.mp H
       obtain ⟨⟨t486, t487, t488, t489, t490⟩, A1230, H⟩ := H
       replace H : ((fix_Slew.f k1 x1003_1 t486 x1000_1).bind fun t491 => ((fix_Sub.f k1 t491 a3_2).bind fun t492 => ((fix_Clamp.f t492 (-64) 64).bind fun t493 => (control_Steer_Step.l0 k1 3 x1000_1 x1001_1 x1002_1 t491 a2_0 a2_1 a2_2 a3_0 a3_1 a3_2 x443000_1 x443001_1 t493 a1_0 a1_1 a1_2 a1_3 a1_4 a1_5 false a1_7 a1_8)))) = some (r1, r2, r3, r4, r5, r6, r7) := H
       have A123 := Aside0.mk A1230
       clear A1230
       obtain ⟨E0_, E1_, E2_, E3_⟩ := control_Steer_drift.same A123.out
       subst E0_
       subst E1_
       subst E2_
       subst E3_
       replace H := Option.bind_eq_some_iff.mp H
       obtain ⟨t491, A1240, H⟩ := H
       replace H : ((fix_Sub.f k1 t491 a3_2).bind fun t492 => ((fix_Clamp.f t492 (-64) 64).bind fun t493 => (control_Steer_Step.l0 k1 3 x1000_1 x1001_1 x1002_1 t491 a2_0 a2_1 a2_2 a3_0 a3_1 a3_2 x443000_1 x443001_1 t493 a1_0 a1_1 a1_2 a1_3 a1_4 a1_5 false a1_7 a1_8))) = some (r1, r2, r3, r4, r5, r6, r7) := H
       have A124 := Aside0.mk A1240
       clear A1240
       replace H := Option.bind_eq_some_iff.mp H
       obtain ⟨t492, A1250, H⟩ := H
       replace H : ((fix_Clamp.f t492 (-64) 64).bind fun t493 => (control_Steer_Step.l0 k1 3 x1000_1 x1001_1 x1002_1 t491 a2_0 a2_1 a2_2 a3_0 a3_1 a3_2 x443000_1 x443001_1 t493 a1_0 a1_1 a1_2 a1_3 a1_4 a1_5 false a1_7 a1_8)) = some (r1, r2, r3, r4, r5, r6, r7) := H
       have A125 := Aside0.mk A1250
       clear A1250
       replace H := Option.bind_eq_some_iff.mp H
       obtain ⟨t493, A1260, H⟩ := H
       replace H : (control_Steer_Step.l0 k1 3 x1000_1 x1001_1 x1002_1 t491 a2_0 a2_1 a2_2 a3_0 a3_1 a3_2 x443000_1 x443001_1 t493 a1_0 a1_1 a1_2 a1_3 a1_4 a1_5 false a1_7 a1_8) = some (r1, r2, r3, r4, r5, r6, r7) := H
       have A126 := Aside0.mk A1260
       clear A1260
       have H' := Aside0.mk H
       clear H
       try go_wp2_with (first | ((with_reducible refine gate_dst (N := 11) rfl ?_); refine box_event ?hg (N := 11) ?hd (cs := #[.bool false, .int .i64 0, .int .i64 0]) (t := 41) ?hr ?_; (case hd => rfl); (case hg => rfl); (case hr => first | (go_simp; done) | (go_simp; rfl)); intro gb477 hg w127 hbox hb; have n0_ := Aside0.mk (blk_below BK438.out hb); have n1_ := Aside0.mk (blk_below BK439.out hb); have n2_ := Aside0.mk (blk_below BK440.out hb); have n3_ := Aside0.mk (blk_below BK441.out hb); have n4_ := Aside0.mk (blk_below BK442.out hb); have n5_ := Aside0.mk (IsS65.below HI0.out hb); have n6_ := Aside0.mk (KeepBut.trans HK.out (KeepBut.of_below hb g none) (.inl rfl)); have n7_ := Aside0.mk (below_step HB.out hb); have n8_ := Aside0.mk (hbox); have n9_ := Aside0.mk ((by rw [hg]; exact (keep_size (w := w) (g := g) (row := none) HK.out) : w.heap.size ≤ gb477)); have n10_ := Aside0.mk ((Nat.le_trans HW0.out (by rw [hg]; exact (keep_size (w := w) (g := g) (row := none) HK.out) : w.heap.size ≤ gb477) : w0.heap.size ≤ gb477)); have n11_ := Aside0.mk ((by rw [hg]; exact Nat.ne_of_lt (blk_lt BK438.out) : gb438 ≠ gb477)); have n12_ := Aside0.mk ((by rw [hg]; exact Nat.ne_of_gt (blk_lt BK438.out) : gb477 ≠ gb438)); have n13_ := Aside0.mk ((by rw [hg]; exact Nat.ne_of_lt (blk_lt BK439.out) : gb439 ≠ gb477)); have n14_ := Aside0.mk ((by rw [hg]; exact Nat.ne_of_gt (blk_lt BK439.out) : gb477 ≠ gb439)); have n15_ := Aside0.mk ((by rw [hg]; exact Nat.ne_of_lt (blk_lt BK440.out) : gb440 ≠ gb477)); have n16_ := Aside0.mk ((by rw [hg]; exact Nat.ne_of_gt (blk_lt BK440.out) : gb477 ≠ gb440)); have n17_ := Aside0.mk ((by rw [hg]; exact Nat.ne_of_lt (blk_lt BK441.out) : gb441 ≠ gb477)); have n18_ := Aside0.mk ((by rw [hg]; exact Nat.ne_of_gt (blk_lt BK441.out) : gb477 ≠ gb441)); have n19_ := Aside0.mk ((by rw [hg]; exact Nat.ne_of_lt (blk_lt BK442.out) : gb442 ≠ gb477)); have n20_ := Aside0.mk ((by rw [hg]; exact Nat.ne_of_gt (blk_lt BK442.out) : gb477 ≠ gb442)); have n21_ := Aside0.mk ((by rw [hg]; exact Nat.ne_of_lt (IsS65.lt HI0.out) : g ≠ gb477)); have n22_ := Aside0.mk ((by rw [hg]; exact Nat.ne_of_gt (IsS65.lt HI0.out) : gb477 ≠ g)); clear BK438; clear BK439; clear BK440; clear BK441; clear BK442; clear HI0; clear HK; clear HB; have BK438 := n0_; have BK439 := n1_; have BK440 := n2_; have BK441 := n3_; have BK442 := n4_; have HI0 := n5_; have HK := n6_; have HB := n7_; have BK477 := n8_; have GW477 := n9_; have GE477 := n10_; have NB438_477 := n11_; have NB477_438 := n12_; have NB439_477 := n13_; have NB477_439 := n14_; have NB440_477 := n15_; have NB477_440 := n16_; have NB441_477 := n17_; have NB477_441 := n18_; have NB442_477 := n19_; have NB477_442 := n20_; have NB0_477 := n21_; have NB477_0 := n22_; clear n0_ n1_ n2_ n3_ n4_ n5_ n6_ n7_ n8_ n9_ n10_ n11_ n12_ n13_ n14_ n15_ n16_ n17_ n18_ n19_ n20_ n21_ n22_; clear hb hbox hg; have hnb128 := NB477_438.out; have hnc128 := NB438_477.out; have hnb129 := NB477_439.out; have hnc129 := NB439_477.out; have hnb130 := NB477_440.out; have hnc130 := NB440_477.out; have hnb131 := NB477_441.out; have hnc131 := NB441_477.out; have hnb132 := NB477_442.out; have hnc132 := NB442_477.out; have hnb133 := NB477_0.out; have hnc133 := NB0_477.out; have hcz134_0 := blk_cells3 (w := w127) (g := gb477) BK477.out; have hfz134_0 := blk_frozen BK477.out))
       (repeat (rw [drewN_self w127]; generalize hq_ : World.drewN w127 _ = w127; have n0_ := Aside0.mk (blk_at hq_ BK438.out); have n1_ := Aside0.mk (blk_at hq_ BK439.out); have n2_ := Aside0.mk (blk_at hq_ BK440.out); have n3_ := Aside0.mk (blk_at hq_ BK441.out); have n4_ := Aside0.mk (blk_at hq_ BK442.out); have n5_ := Aside0.mk (blk_at hq_ BK477.out); have n6_ := Aside0.mk (IsS65.at_ hq_ HI0.out); have n7_ := Aside0.mk (keep_at hq_ HK.out); have n8_ := Aside0.mk (below_at hq_ HB.out); clear hq_ BK438 BK439 BK440 BK441 BK442 BK477 HI0 HK HB; have BK438 := n0_; have BK439 := n1_; have BK440 := n2_; have BK441 := n3_; have BK442 := n4_; have BK477 := n5_; have HI0 := n6_; have HK := n7_; have HB := n8_; clear n0_ n1_ n2_ n3_ n4_ n5_ n6_ n7_ n8_))
       obtain ⟨w135, hW_⟩ : ∃ W_, W_ = (((w127.setCell ⟨gb477, 0, none⟩ (.bool false)).setCell ⟨gb477, 1, none⟩ (.int .i64 a1_7)).setCell ⟨gb477, 2, none⟩ (.int .i64 a1_8)) := ⟨_, rfl⟩
       have n0_ : Aside0 (w135.heap[gb438]? = some (.cells #[.bool a1_0, .int .i64 a1_1, .int .i64 a1_2, .bool a1_3, .int .i64 a1_4, .int .i64 a1_5, .bool false, .int .i64 a1_7, .int .i64 a1_8] 42 (0, 0))) := ⟨by rw [hW_]; repeat (first | exact BK438.out | refine blk_far ?_ NB438_477.out _ | (with_reducible first | refine blk_drewN ?_ _ | refine blk_drew ?_ | refine blk_alloc ?_ _))⟩
       have n1_ : Aside0 (w135.heap[gb439]? = some (.cells #[.int .i64 a2_0, .int .i64 a2_1, .int .i64 a2_2] 37 (0, 0))) := ⟨by rw [hW_]; repeat (first | exact BK439.out | refine blk_far ?_ NB439_477.out _ | (with_reducible first | refine blk_drewN ?_ _ | refine blk_drew ?_ | refine blk_alloc ?_ _))⟩
       have n2_ : Aside0 (w135.heap[gb440]? = some (.cells #[.int .i64 a3_0, .int .i64 a3_1, .int .i64 a3_2] 37 (0, 0))) := ⟨by rw [hW_]; repeat (first | exact BK440.out | refine blk_far ?_ NB440_477.out _ | (with_reducible first | refine blk_drewN ?_ _ | refine blk_drew ?_ | refine blk_alloc ?_ _))⟩
       have n3_ : Aside0 (w135.heap[gb441]? = some (.cells #[.int .i64 x442000_1, .int .i64 x442001_1, .int .i64 x442002_1] 37 (0, 0))) := ⟨by rw [hW_]; repeat (first | exact BK441.out | refine blk_far ?_ NB441_477.out _ | (with_reducible first | refine blk_drewN ?_ _ | refine blk_drew ?_ | refine blk_alloc ?_ _))⟩
       have n4_ : Aside0 (w135.heap[gb442]? = some (.cells #[.int .i64 x443000_1, .int .i64 x443001_1, .int .i64 x443002_1] 37 (0, 0))) := ⟨by rw [hW_]; repeat (first | exact BK442.out | refine blk_far ?_ NB442_477.out _ | (with_reducible first | refine blk_drewN ?_ _ | refine blk_drew ?_ | refine blk_alloc ?_ _))⟩
       have n5_ : Aside0 (w135.heap[gb477]? = some (.cells #[.bool false, .int .i64 a1_7, .int .i64 a1_8] 41 (0, 0))) := ⟨by rw [hW_]; (with_reducible repeat (first | refine blk_drewN ?_ _ | refine blk_drew ?_ | refine blk_alloc ?_ _)); refine blk_put (cs := #[.bool false, .int .i64 a1_7, .int .i64 0]) ?_ 2 _ rfl; (with_reducible repeat (first | refine blk_drewN ?_ _ | refine blk_drew ?_ | refine blk_alloc ?_ _)); refine blk_put (cs := #[.bool false, .int .i64 0, .int .i64 0]) ?_ 1 _ rfl; (with_reducible repeat (first | refine blk_drewN ?_ _ | refine blk_drew ?_ | refine blk_alloc ?_ _)); refine blk_put (cs := #[.bool false, .int .i64 0, .int .i64 0]) ?_ 0 _ rfl; (with_reducible repeat (first | refine blk_drewN ?_ _ | refine blk_drew ?_ | refine blk_alloc ?_ _)); exact BK477.out⟩
       have n6_ : Aside0 (IsS65 w0 w135 g x1000_1 x1001_1 x1002_1 x1003_1) := ⟨by rw [hW_]; repeat (first | (with_reducible first | exact HI0.out | apply IsS65.alloc | apply IsS65.drewN | apply IsS65.drew | apply IsS65.set_0 | apply IsS65.set_1 | apply IsS65.set_2 | apply IsS65.set_3 | refine IsS65.far ?_ NB0_438.out _ | refine IsS65.far ?_ NB0_439.out _ | refine IsS65.far ?_ NB0_440.out _ | refine IsS65.far ?_ NB0_441.out _ | refine IsS65.far ?_ NB0_442.out _ | refine IsS65.far ?_ NB0_477.out _) | exact HI0.out)⟩
       have n7_ : Aside0 (KeepBut w w135 g none) := ⟨by rw [hW_]; repeat (first | (with_reducible first | exact HK.out | apply KeepBut.set_ | apply keep_drewN | apply keep_drew | apply keep_alloc | refine keep_far ?_ GW438.out _ | refine keep_far ?_ GW439.out _ | refine keep_far ?_ GW440.out _ | refine keep_far ?_ GW441.out _ | refine keep_far ?_ GW442.out _ | refine keep_far ?_ GW477.out _) | exact HK.out)⟩
       have n8_ : Aside0 (Below w0.heap.size w0 w135) := ⟨by rw [hW_]; repeat (first | (with_reducible first | exact HB.out | apply below_alloc | apply pw_below_drewN | apply below_drew1 | refine below_set ?_ (IsS65.ge HI0.out) | refine below_set ?_ GE438.out | refine below_set ?_ GE439.out | refine below_set ?_ GE440.out | refine below_set ?_ GE441.out | refine below_set ?_ GE442.out | refine below_set ?_ GE477.out) | exact HB.out)⟩
       (try clear BK438)
       (try clear BK439)
       (try clear BK440)
       (try clear BK441)
       (try clear BK442)
       (try clear BK477)
       (try clear HI0)
       (try clear HK)
       (try clear HB)
       rw [← hW_]
       clear hW_
       have BK438 := n0_
       have BK439 := n1_
       have BK440 := n2_
       have BK441 := n3_
       have BK442 := n4_
       have BK477 := n5_
       have HI0 := n6_
       have HK := n7_
       have HB := n8_
       clear n0_ n1_ n2_ n3_ n4_ n5_ n6_ n7_ n8_
       have n0_ := Aside0.mk (blk_drew BK438.out)
       have n1_ := Aside0.mk (blk_drew BK439.out)
       have n2_ := Aside0.mk (blk_drew BK440.out)
       have n3_ := Aside0.mk (blk_drew BK441.out)
       have n4_ := Aside0.mk (blk_drew BK442.out)
       have n5_ := Aside0.mk (blk_drew BK477.out)
       have n6_ := Aside0.mk (IsS65.drew HI0.out)
       have n7_ := Aside0.mk (keep_drew HK.out)
       have n8_ := Aside0.mk (below_drew1 HB.out)
       clear BK438
       clear BK439
       clear BK440
       clear BK441
       clear BK442
       clear BK477
       clear HI0
       clear HK
       clear HB
       have BK438 := n0_
       have BK439 := n1_
       have BK440 := n2_
       have BK441 := n3_
       have BK442 := n4_
       have BK477 := n5_
       have HI0 := n6_
       have HK := n7_
       have HB := n8_
       clear n0_ n1_ n2_ n3_ n4_ n5_ n6_ n7_ n8_
       refine start_ (n := 24) (S := fun w' => w'.cell? ⟨g, 0, none⟩ = some (.int .i64 x1000_1) ∧ w'.cell? ⟨g, 1, none⟩ = some (.int .i64 x1001_1) ∧ w'.cell? ⟨g, 2, none⟩ = some (.int .i64 x1002_1) ∧ w'.cell? ⟨g, 3, none⟩ = some (.int .i64 x1003_1) ∧ w'.cell? ⟨gb477, 0, none⟩ = some (.bool false) ∧ w'.cell? ⟨gb477, 1, none⟩ = some (.int .i64 a1_7) ∧ w'.cell? ⟨gb477, 2, none⟩ = some (.int .i64 a1_8) ∧ w'.cell? ⟨gb439, 0, none⟩ = some (.int .i64 a2_0) ∧ w'.cell? ⟨gb439, 1, none⟩ = some (.int .i64 a2_1) ∧ w'.cell? ⟨gb439, 2, none⟩ = some (.int .i64 a2_2)) (ds := [23]) (lb_ 24 0) (by kernel_rfl) rfl rfl ⟨(cellS65_0 HI0.out.1), (cellS65_1 HI0.out.1), (cellS65_2 HI0.out.1), (cellS65_3 HI0.out.1), (blk_cell BK477.out 0).trans rfl, (blk_cell BK477.out 1).trans rfl, (blk_cell BK477.out 2).trans rfl, (blk_cell BK439.out 0).trans rfl, (blk_cell BK439.out 1).trans rfl, (blk_cell BK439.out 2).trans rfl⟩ (fun hHeld => ?_); refine with_tabW control_Steer_Step.tab10 control_Steer_Step.bits10 (fun HT_ HW_ => ?_)
       generalize w135.drew = w136 at BK438 BK439 BK440 BK441 BK442 BK477 HI0 HK HB hHeld ⊢
       refine pure_ (i := 0) (N := some 23) (v := ?_) (a' := ?_) (lb_ 24 1) rfl rfl (any_of HT_.out (by kernel_rfl)) (fun _ _ _ h => h) (Or.inl ⟨by rfl, ?_⟩) ?_ ?_; rotate_left; (intro w'; go_simp; with_reducible rfl); rotate_left; (simp only [Act.put, List.setIfInBounds_toArray, List.set_cons_zero, List.set_cons_succ, i64_w, i32_w]; rfl)
       refine pure_ (i := 1) (N := some 24) (v := ?_) (a' := ?_) (lb_ 24 3) rfl rfl (any_of HT_.out (by kernel_rfl)) (fun _ _ _ h => h) (Or.inl ⟨by rfl, ?_⟩) ?_ ?_; rotate_left; (intro w'; go_simp; with_reducible rfl); rotate_left; (simp only [Act.put, List.setIfInBounds_toArray, List.set_cons_zero, List.set_cons_succ, i64_w, i32_w]; rfl)
       refine pure_ (i := 2) (N := some 25) (v := ?_) (a' := ?_) (lb_ 24 7) rfl rfl (any_of HT_.out (by kernel_rfl)) (fun _ _ _ h => h) (Or.inl ⟨by rfl, ?_⟩) ?_ ?_; rotate_left; (intro w'; go_simp; with_reducible rfl); rotate_left; (simp only [Act.put, List.setIfInBounds_toArray, List.set_cons_zero, List.set_cons_succ, i64_w, i32_w]; rfl)
       refine pure_ (i := 3) (N := some 26) (v := ?_) (a' := ?_) (lb_ 24 15) rfl rfl (any_of HT_.out (by kernel_rfl)) (fun _ _ _ h => h) (Or.inl ⟨by rfl, ?_⟩) ?_ ?_; rotate_left; (intro w'; go_simp; with_reducible rfl); rotate_left; (simp only [Act.put, List.setIfInBounds_toArray, List.set_cons_zero, List.set_cons_succ, i64_w, i32_w]; rfl)
       refine pure_ (i := 4) (N := some 27) (v := ?_) (a' := ?_) (lb_ 24 31) rfl rfl (any_of HT_.out (by kernel_rfl)) (fun _ _ _ h => h) (Or.inl ⟨by rfl, ?_⟩) ?_ ?_; rotate_left; (intro w'; go_simp; with_reducible rfl); rotate_left; (simp only [Act.put, List.setIfInBounds_toArray, List.set_cons_zero, List.set_cons_succ, i64_w, i32_w]; rfl)
       refine pure_ (i := 5) (N := some 28) (v := ?_) (a' := ?_) (lb_ 24 63) rfl rfl (any_of HT_.out (by kernel_rfl)) (fun _ _ _ h => h) (Or.inl ⟨by rfl, ?_⟩) ?_ ?_; rotate_left; (intro w'; go_simp; with_reducible rfl); rotate_left; (simp only [Act.put, List.setIfInBounds_toArray, List.set_cons_zero, List.set_cons_succ, i64_w, i32_w]; rfl)
       refine pure_ (i := 6) (N := some 29) (v := ?_) (a' := ?_) (lb_ 24 127) rfl rfl (any_of HT_.out (by kernel_rfl)) (fun _ _ _ h => h) (Or.inl ⟨by rfl, ?_⟩) ?_ ?_; rotate_left; (intro w'; go_simp; with_reducible rfl); rotate_left; (simp only [Act.put, List.setIfInBounds_toArray, List.set_cons_zero, List.set_cons_succ, i64_w, i32_w]; rfl)
       refine pure_ (i := 8) (N := some 31) (v := ?_) (a' := ?_) (lb_ 24 383) rfl rfl (any_of HT_.out (by kernel_rfl)) (fun _ _ _ h => h) (Or.inl ⟨by rfl, ?_⟩) ?_ ?_; rotate_left; (intro w'; go_simp; with_reducible rfl); rotate_left; (simp only [Act.put, List.setIfInBounds_toArray, List.set_cons_zero, List.set_cons_succ, i64_w, i32_w]; rfl)
       refine pure_ (i := 9) (N := some 32) (v := ?_) (a' := ?_) (lb_ 24 895) rfl rfl (any_of HT_.out (by kernel_rfl)) (fun _ _ _ h => h) (Or.inl ⟨by rfl, ?_⟩) ?_ ?_; rotate_left; (intro w'; go_simp; with_reducible rfl); rotate_left; (simp only [Act.put, List.setIfInBounds_toArray, List.set_cons_zero, List.set_cons_succ, i64_w, i32_w]; rfl)
       refine pure_ (i := 11) (N := some 34) (v := ?_) (a' := ?_) (lb_ 24 2943) rfl rfl (any_of HT_.out (by kernel_rfl)) (fun _ _ _ h => h) (Or.inl ⟨by rfl, ?_⟩) ?_ ?_; rotate_left; (intro w'; go_simp; with_reducible rfl); rotate_left; (simp only [Act.put, List.setIfInBounds_toArray, List.set_cons_zero, List.set_cons_succ, i64_w, i32_w]; rfl)
       refine pure_ (i := 12) (N := some 35) (v := ?_) (a' := ?_) (lb_ 24 7039) rfl rfl (any_of HT_.out (by kernel_rfl)) (fun _ _ _ h => h) (Or.inl ⟨by rfl, ?_⟩) ?_ ?_; rotate_left; (intro w'; go_simp; with_reducible rfl); rotate_left; (simp only [Act.put, List.setIfInBounds_toArray, List.set_cons_zero, List.set_cons_succ, i64_w, i32_w]; rfl)
       refine pure_ (i := 15) (N := some 38) (v := ?_) (a' := ?_) (lb_ 24 39807) rfl rfl (any_of HT_.out (by kernel_rfl)) (fun _ _ _ h => h) (Or.inl ⟨by rfl, ?_⟩) ?_ ?_; rotate_left; (intro w'; go_simp; with_reducible rfl); rotate_left; (simp only [Act.put, List.setIfInBounds_toArray, List.set_cons_zero, List.set_cons_succ, i64_w, i32_w]; rfl)
       refine pure_ (i := 16) (N := some 39) (v := ?_) (a' := ?_) (lb_ 24 105343) rfl rfl (any_of HT_.out (by kernel_rfl)) (fun _ _ _ h => h) (Or.inl ⟨by rfl, ?_⟩) ?_ ?_; rotate_left; (intro w'; go_simp; with_reducible rfl); rotate_left; (simp only [Act.put, List.setIfInBounds_toArray, List.set_cons_zero, List.set_cons_succ, i64_w, i32_w]; rfl)
       refine pure_ (i := 17) (N := some 40) (v := ?_) (a' := ?_) (lb_ 24 236415) rfl rfl (any_of HT_.out (by kernel_rfl)) (fun _ _ _ h => h) (Or.inl ⟨by rfl, ?_⟩) ?_ ?_; rotate_left; (intro w'; go_simp; with_reducible rfl); rotate_left; (simp only [Act.put, List.setIfInBounds_toArray, List.set_cons_zero, List.set_cons_succ, i64_w, i32_w]; rfl)
       refine pure_ (i := 20) (N := some 43) (v := ?_) (a' := ?_) (lb_ 24 1284991) rfl rfl (any_of HT_.out (by kernel_rfl)) (fun _ _ _ h => h) (Or.inl ⟨by rfl, ?_⟩) ?_ ?_; rotate_left; (intro w'; go_simp; with_reducible rfl); rotate_left; (simp only [Act.put, List.setIfInBounds_toArray, List.set_cons_zero, List.set_cons_succ, i64_w, i32_w]; rfl)
       refine pure_ (i := 21) (N := some 44) (v := ?_) (a' := ?_) (lb_ 24 3382143) rfl rfl (any_of HT_.out (by kernel_rfl)) (fun _ _ _ h => h) (Or.inl ⟨by rfl, ?_⟩) ?_ ?_; rotate_left; (intro w'; go_simp; with_reducible rfl); rotate_left; (simp only [Act.put, List.setIfInBounds_toArray, List.set_cons_zero, List.set_cons_succ, i64_w, i32_w]; rfl)
       refine take_ (i := 7) (N := some 30) (v := ?_) (a' := ?_) (lb_ 24 3382271) rfl rfl (take_ofW HT_.out HW_.out (by kernel_rfl)) (fun _ _ _ h => h) (Or.inl ⟨by rfl, ?_⟩) hHeld ?_ ?_; rotate_left; (rintro w' ⟨s0, s1, s2, s3, s4, s5, s6, s7, s8, s9⟩; go_simp; with_reducible rfl); rotate_left; (simp only [Act.put, List.setIfInBounds_toArray, List.set_cons_zero, List.set_cons_succ, i64_w, i32_w]; rfl)
       refine take_ (i := 10) (N := some 33) (v := ?_) (a' := ?_) (lb_ 24 3383295) rfl rfl (take_ofW HT_.out HW_.out (by kernel_rfl)) (fun _ _ _ h => h) (Or.inl ⟨by rfl, ?_⟩) hHeld ?_ ?_; rotate_left; (rintro w' ⟨s0, s1, s2, s3, s4, s5, s6, s7, s8, s9⟩; go_simp; with_reducible rfl); rotate_left; (simp only [Act.put, List.setIfInBounds_toArray, List.set_cons_zero, List.set_cons_succ, i64_w, i32_w]; rfl)
       refine take_ (i := 13) (N := some 36) (v := ?_) (a' := ?_) (lb_ 24 3391487) rfl rfl (take_ofW HT_.out HW_.out (by kernel_rfl)) (fun _ _ _ h => h) (Or.inl ⟨by rfl, ?_⟩) hHeld ?_ ?_; rotate_left; (rintro w' ⟨s0, s1, s2, s3, s4, s5, s6, s7, s8, s9⟩; go_simp; with_reducible rfl); rotate_left; (simp only [Act.put, List.setIfInBounds_toArray, List.set_cons_zero, List.set_cons_succ, i64_w, i32_w]; rfl)
       refine take_ (i := 18) (N := some 41) (v := ?_) (a' := ?_) (lb_ 24 3653631) rfl rfl (take_ofW HT_.out HW_.out (by kernel_rfl)) (fun _ _ _ h => h) (Or.inl ⟨by rfl, ?_⟩) hHeld ?_ ?_; rotate_left; (rintro w' ⟨s0, s1, s2, s3, s4, s5, s6, s7, s8, s9⟩; go_simp; with_reducible rfl); rotate_left; (simp only [Act.put, List.setIfInBounds_toArray, List.set_cons_zero, List.set_cons_succ, i64_w, i32_w]; rfl)
       refine one_ (i := 14) (N := some 37) (lb_ 24 3670015) rfl rfl (one_of HT_.out (by kernel_rfl)) (by decide) (fun K hK => ?_)
       refine goesv_ Try.func39 (by kernel_rfl) rfl #[.pointer (some ⟨g, 0, none⟩), .agg #[.bool false, .int .i64 a1_7, .int .i64 a1_8], .int .i64 a2_2] (by rfl) rfl rfl rfl (by (try simp only [List.map_toArray, List.map_cons, List.map_nil]); first | done | rfl | (simp only [List.length_drop, List.length_take]; rfl)) ?_
       with_reducible refine (control_Steer_drift.calls g x1000_1 x1001_1 x1002_1 x1003_1 false a1_7 a1_8 a2_2 t486 x1000_1 x1001_1 x1002_1 x1003_1 w0 _ ?side1 ?side2 A123.out).mono ?_
       (case side1 => repeat (first | (with_reducible first | exact HI0.out | apply IsS65.alloc | apply IsS65.drewN | apply IsS65.drew | apply IsS65.set_0 | apply IsS65.set_1 | apply IsS65.set_2 | apply IsS65.set_3 | refine IsS65.far ?_ NB0_438.out _ | refine IsS65.far ?_ NB0_439.out _ | refine IsS65.far ?_ NB0_440.out _ | refine IsS65.far ?_ NB0_441.out _ | refine IsS65.far ?_ NB0_442.out _ | refine IsS65.far ?_ NB0_477.out _) | exact HI0.out))
       (case side2 => repeat (first | (with_reducible first | exact HB.out | apply below_alloc | apply pw_below_drewN | apply below_drew1 | refine below_set ?_ (IsS65.ge HI0.out) | refine below_set ?_ GE438.out | refine below_set ?_ GE439.out | refine below_set ?_ GE440.out | refine below_set ?_ GE441.out | refine below_set ?_ GE442.out | refine below_set ?_ GE477.out) | exact HB.out))
       rintro e w137 ⟨rfl, hi, hb, hk⟩
       refine ⟨_, rfl, ?_⟩
       have n0_ := Aside0.mk (KeepBut.blk hk BK438.out NB438_0.out (by simp))
       have n1_ := Aside0.mk (KeepBut.blk hk BK439.out NB439_0.out (by simp))
       have n2_ := Aside0.mk (KeepBut.blk hk BK440.out NB440_0.out (by simp))
       have n3_ := Aside0.mk (KeepBut.blk hk BK441.out NB441_0.out (by simp))
       have n4_ := Aside0.mk (KeepBut.blk hk BK442.out NB442_0.out (by simp))
       have n5_ := Aside0.mk (KeepBut.blk hk BK477.out NB477_0.out (by simp))
       have n6_ := Aside0.mk (KeepBut.trans HK.out hk (.inl rfl))
       have n7_ := Aside0.mk (hb)
       have n8_ := Aside0.mk (hi)
       clear BK438
       clear BK439
       clear BK440
       clear BK441
       clear BK442
       clear BK477
       clear HK
       clear HB
       clear HI0
       have BK438 := n0_
       have BK439 := n1_
       have BK440 := n2_
       have BK441 := n3_
       have BK442 := n4_
       have BK477 := n5_
       have HK := n6_
       have HB := n7_
       have HI0 := n8_
       clear n0_ n1_ n2_ n3_ n4_ n5_ n6_ n7_ n8_
       (try clear hb)
       (try clear hb2)
       (try clear hk)
       (try clear hi)
       refine hK.out _ _ ⟨(cellS65_0 HI0.out.1), (cellS65_1 HI0.out.1), (cellS65_2 HI0.out.1), (cellS65_3 HI0.out.1), (blk_cell BK477.out 0).trans rfl, (blk_cell BK477.out 1).trans rfl, (blk_cell BK477.out 2).trans rfl, (blk_cell BK439.out 0).trans rfl, (blk_cell BK439.out 1).trans rfl, (blk_cell BK439.out 2).trans rfl⟩ (fun hHeld => ?_)
       clear hK K
       refine norm_ (a' := ?_) ?_ ?_
       rotate_left
       ·show Act.put _ (some 37) _ = _
        simp only [Act.put, List.setIfInBounds_toArray, List.set_cons_zero, List.set_cons_succ, i64_w, i32_w]
        rfl
       refine one_ (i := 19) (N := some 42) (lb_ 24 4194303) rfl rfl (one_of HT_.out (by kernel_rfl)) (by decide) (fun K hK => ?_)
       refine goes_ Try.func41 (by kernel_rfl) rfl #[.int .i64 x1003_1, .int .i64 t486, .int .i64 x1000_1] (by rfl) rfl rfl (by (try simp only [List.map_toArray, List.map_cons, List.map_nil]); first | done | rfl | (simp only [List.length_drop, List.length_take]; rfl)) ?_
       with_reducible refine (fix_Slew.calls k1 x1003_1 t486 x1000_1 t491 _ A124.out).mono ?_
       rintro e w138 ⟨rfl, hb⟩
       refine ⟨_, rfl, ?_⟩
       have n0_ := Aside0.mk (blk_below BK438.out hb)
       have n1_ := Aside0.mk (blk_below BK439.out hb)
       have n2_ := Aside0.mk (blk_below BK440.out hb)
       have n3_ := Aside0.mk (blk_below BK441.out hb)
       have n4_ := Aside0.mk (blk_below BK442.out hb)
       have n5_ := Aside0.mk (IsS65.below HI0.out hb)
       have n6_ := Aside0.mk (blk_below BK477.out hb)
       have n7_ := Aside0.mk (KeepBut.trans HK.out (KeepBut.of_below hb g none) (.inl rfl))
       have n8_ := Aside0.mk (below_step HB.out hb)
       clear BK438
       clear BK439
       clear BK440
       clear BK441
       clear BK442
       clear HI0
       clear BK477
       clear HK
       clear HB
       have BK438 := n0_
       have BK439 := n1_
       have BK440 := n2_
       have BK441 := n3_
       have BK442 := n4_
       have HI0 := n5_
       have BK477 := n6_
       have HK := n7_
       have HB := n8_
       clear n0_ n1_ n2_ n3_ n4_ n5_ n6_ n7_ n8_
       (try clear hb)
       (try clear hb2)
       (try clear hk)
       (try clear hi)
       refine hK.out _ _ ⟨(cellS65_0 HI0.out.1), (cellS65_1 HI0.out.1), (cellS65_2 HI0.out.1), (cellS65_3 HI0.out.1), (blk_cell BK477.out 0).trans rfl, (blk_cell BK477.out 1).trans rfl, (blk_cell BK477.out 2).trans rfl, (blk_cell BK439.out 0).trans rfl, (blk_cell BK439.out 1).trans rfl, (blk_cell BK439.out 2).trans rfl⟩ (fun hHeld => ?_)
       clear hK K
       refine norm_ (a' := ?_) ?_ ?_
       rotate_left
       ·show Act.put _ (some 42) _ = _
        simp only [Act.put, List.setIfInBounds_toArray, List.set_cons_zero, List.set_cons_succ, i64_w, i32_w]
        rfl
       refine pure_ (i := 22) (N := some 45) (v := ?_) (a' := ?_) (lb_ 24 8388607) rfl rfl (any_of HT_.out (by kernel_rfl)) (fun _ _ _ h => h) (Or.inl ⟨by rfl, ?_⟩) ?_ ?_; rotate_left; (intro w'; go_simp; with_reducible rfl); rotate_left; (simp only [Act.put, List.setIfInBounds_toArray, List.set_cons_zero, List.set_cons_succ, i64_w, i32_w]; rfl)
       refine last_ (i := 23) (N := none) (lb_ 24 16777215) rfl rfl (one_of HT_.out (by kernel_rfl)) (by decide) (fun K hK => ?_)
       have hs139 := cellS65_3 HI0.out.1
       have hfs139 := blk_frozen HI0.out.1 3
       have hns139_0 := NB438_0.out
       have hns139_1 := NB439_0.out
       have hns139_2 := NB440_0.out
       have hns139_3 := NB441_0.out
       have hns139_4 := NB442_0.out
       have hns139_5 := NB477_0.out
       have hms139_0 := NB0_438.out
       have hms139_1 := NB0_439.out
       have hms139_2 := NB0_440.out
       have hms139_3 := NB0_441.out
       have hms139_4 := NB0_442.out
       have hms139_5 := NB0_477.out
       refine skip_ (w1 := ?_) (by rfl) rfl ?_ ?_
       rotate_left
       ·go_simp
        rfl
       refine hK.out _ _ ?_
       clear hK K
       refine done_ (done_of HT_.out (by kernel_rfl)) ?_
       try go_wp2
       (repeat (rw [drewN_self w138]; generalize hq_ : World.drewN w138 _ = w138; have n0_ := Aside0.mk (blk_at hq_ BK438.out); have n1_ := Aside0.mk (blk_at hq_ BK439.out); have n2_ := Aside0.mk (blk_at hq_ BK440.out); have n3_ := Aside0.mk (blk_at hq_ BK441.out); have n4_ := Aside0.mk (blk_at hq_ BK442.out); have n5_ := Aside0.mk (blk_at hq_ BK477.out); have n6_ := Aside0.mk (IsS65.at_ hq_ HI0.out); have n7_ := Aside0.mk (keep_at hq_ HK.out); have n8_ := Aside0.mk (below_at hq_ HB.out); clear hq_ BK438 BK439 BK440 BK441 BK442 BK477 HI0 HK HB; have BK438 := n0_; have BK439 := n1_; have BK440 := n2_; have BK441 := n3_; have BK442 := n4_; have BK477 := n5_; have HI0 := n6_; have HK := n7_; have HB := n8_; clear n0_ n1_ n2_ n3_ n4_ n5_ n6_ n7_ n8_))
       obtain ⟨w140, hW_⟩ : ∃ W_, W_ = (w138.setCell ⟨g, 3, none⟩ (.int .i64 t491)) := ⟨_, rfl⟩
       have n0_ : Aside0 (w140.heap[gb438]? = some (.cells #[.bool a1_0, .int .i64 a1_1, .int .i64 a1_2, .bool a1_3, .int .i64 a1_4, .int .i64 a1_5, .bool false, .int .i64 a1_7, .int .i64 a1_8] 42 (0, 0))) := ⟨by rw [hW_]; repeat (first | exact BK438.out | refine blk_far ?_ NB438_0.out _ | (with_reducible first | refine blk_drewN ?_ _ | refine blk_drew ?_ | refine blk_alloc ?_ _))⟩
       have n1_ : Aside0 (w140.heap[gb439]? = some (.cells #[.int .i64 a2_0, .int .i64 a2_1, .int .i64 a2_2] 37 (0, 0))) := ⟨by rw [hW_]; repeat (first | exact BK439.out | refine blk_far ?_ NB439_0.out _ | (with_reducible first | refine blk_drewN ?_ _ | refine blk_drew ?_ | refine blk_alloc ?_ _))⟩
       have n2_ : Aside0 (w140.heap[gb440]? = some (.cells #[.int .i64 a3_0, .int .i64 a3_1, .int .i64 a3_2] 37 (0, 0))) := ⟨by rw [hW_]; repeat (first | exact BK440.out | refine blk_far ?_ NB440_0.out _ | (with_reducible first | refine blk_drewN ?_ _ | refine blk_drew ?_ | refine blk_alloc ?_ _))⟩
       have n3_ : Aside0 (w140.heap[gb441]? = some (.cells #[.int .i64 x442000_1, .int .i64 x442001_1, .int .i64 x442002_1] 37 (0, 0))) := ⟨by rw [hW_]; repeat (first | exact BK441.out | refine blk_far ?_ NB441_0.out _ | (with_reducible first | refine blk_drewN ?_ _ | refine blk_drew ?_ | refine blk_alloc ?_ _))⟩
       have n4_ : Aside0 (w140.heap[gb442]? = some (.cells #[.int .i64 x443000_1, .int .i64 x443001_1, .int .i64 x443002_1] 37 (0, 0))) := ⟨by rw [hW_]; repeat (first | exact BK442.out | refine blk_far ?_ NB442_0.out _ | (with_reducible first | refine blk_drewN ?_ _ | refine blk_drew ?_ | refine blk_alloc ?_ _))⟩
       have n5_ : Aside0 (w140.heap[gb477]? = some (.cells #[.bool false, .int .i64 a1_7, .int .i64 a1_8] 41 (0, 0))) := ⟨by rw [hW_]; repeat (first | exact BK477.out | refine blk_far ?_ NB477_0.out _ | (with_reducible first | refine blk_drewN ?_ _ | refine blk_drew ?_ | refine blk_alloc ?_ _))⟩
       have n6_ : Aside0 (IsS65 w0 w140 g x1000_1 x1001_1 x1002_1 t491) := ⟨by rw [hW_]; repeat (first | (with_reducible first | exact HI0.out | apply IsS65.alloc | apply IsS65.drewN | apply IsS65.drew | apply IsS65.set_0 | apply IsS65.set_1 | apply IsS65.set_2 | apply IsS65.set_3 | refine IsS65.far ?_ NB0_438.out _ | refine IsS65.far ?_ NB0_439.out _ | refine IsS65.far ?_ NB0_440.out _ | refine IsS65.far ?_ NB0_441.out _ | refine IsS65.far ?_ NB0_442.out _ | refine IsS65.far ?_ NB0_477.out _) | exact HI0.out)⟩
       have n7_ : Aside0 (KeepBut w w140 g none) := ⟨by rw [hW_]; repeat (first | (with_reducible first | exact HK.out | apply KeepBut.set_ | apply keep_drewN | apply keep_drew | apply keep_alloc | refine keep_far ?_ GW438.out _ | refine keep_far ?_ GW439.out _ | refine keep_far ?_ GW440.out _ | refine keep_far ?_ GW441.out _ | refine keep_far ?_ GW442.out _ | refine keep_far ?_ GW477.out _) | exact HK.out)⟩
       have n8_ : Aside0 (Below w0.heap.size w0 w140) := ⟨by rw [hW_]; repeat (first | (with_reducible first | exact HB.out | apply below_alloc | apply pw_below_drewN | apply below_drew1 | refine below_set ?_ (IsS65.ge HI0.out) | refine below_set ?_ GE438.out | refine below_set ?_ GE439.out | refine below_set ?_ GE440.out | refine below_set ?_ GE441.out | refine below_set ?_ GE442.out | refine below_set ?_ GE477.out) | exact HB.out)⟩
       (try clear BK438)
       (try clear BK439)
       (try clear BK440)
       (try clear BK441)
       (try clear BK442)
       (try clear BK477)
       (try clear HI0)
       (try clear HK)
       (try clear HB)
       rw [← hW_]
       clear hW_
       have BK438 := n0_
       have BK439 := n1_
       have BK440 := n2_
       have BK441 := n3_
       have BK442 := n4_
       have BK477 := n5_
       have HI0 := n6_
       have HK := n7_
       have HB := n8_
       clear n0_ n1_ n2_ n3_ n4_ n5_ n6_ n7_ n8_
       have n0_ := Aside0.mk (blk_drew BK438.out)
       have n1_ := Aside0.mk (blk_drew BK439.out)
       have n2_ := Aside0.mk (blk_drew BK440.out)
       have n3_ := Aside0.mk (blk_drew BK441.out)
       have n4_ := Aside0.mk (blk_drew BK442.out)
       have n5_ := Aside0.mk (blk_drew BK477.out)
       have n6_ := Aside0.mk (IsS65.drew HI0.out)
       have n7_ := Aside0.mk (keep_drew HK.out)
       have n8_ := Aside0.mk (below_drew1 HB.out)
       clear BK438
       clear BK439
       clear BK440
       clear BK441
       clear BK442
       clear BK477
       clear HI0
       clear HK
       clear HB
       have BK438 := n0_
       have BK439 := n1_
       have BK440 := n2_
       have BK441 := n3_
       have BK442 := n4_
       have BK477 := n5_
       have HI0 := n6_
       have HK := n7_
       have HB := n8_
       clear n0_ n1_ n2_ n3_ n4_ n5_ n6_ n7_ n8_
       refine start_ (n := 14) (S := fun w' => w'.cell? ⟨g, 0, none⟩ = some (.int .i64 x1000_1) ∧ w'.cell? ⟨g, 1, none⟩ = some (.int .i64 x1001_1) ∧ w'.cell? ⟨g, 2, none⟩ = some (.int .i64 x1002_1) ∧ w'.cell? ⟨g, 3, none⟩ = some (.int .i64 t491) ∧ w'.cell? ⟨gb440, 0, none⟩ = some (.int .i64 a3_0) ∧ w'.cell? ⟨gb440, 1, none⟩ = some (.int .i64 a3_1) ∧ w'.cell? ⟨gb440, 2, none⟩ = some (.int .i64 a3_2)) (ds := []) (lb_ 14 0) (by kernel_rfl) rfl rfl ⟨(cellS65_0 HI0.out.1), (cellS65_1 HI0.out.1), (cellS65_2 HI0.out.1), (cellS65_3 HI0.out.1), (blk_cell BK440.out 0).trans rfl, (blk_cell BK440.out 1).trans rfl, (blk_cell BK440.out 2).trans rfl⟩ (fun hHeld => ?_); refine with_tabW control_Steer_Step.tab11 control_Steer_Step.bits11 (fun HT_ HW_ => ?_)
       generalize w140.drew = w141 at BK438 BK439 BK440 BK441 BK442 BK477 HI0 HK HB hHeld ⊢
       refine pure_ (i := 0) (N := some 46) (v := ?_) (a' := ?_) (lb_ 14 1) rfl rfl (any_of HT_.out (by kernel_rfl)) (fun _ _ _ h => h) (Or.inl ⟨by rfl, ?_⟩) ?_ ?_; rotate_left; (intro w'; go_simp; with_reducible rfl); rotate_left; (simp only [Act.put, List.setIfInBounds_toArray, List.set_cons_zero, List.set_cons_succ, i64_w, i32_w]; rfl)
       refine pure_ (i := 1) (N := some 47) (v := ?_) (a' := ?_) (lb_ 14 3) rfl rfl (any_of HT_.out (by kernel_rfl)) (fun _ _ _ h => h) (Or.inl ⟨by rfl, ?_⟩) ?_ ?_; rotate_left; (intro w'; go_simp; with_reducible rfl); rotate_left; (simp only [Act.put, List.setIfInBounds_toArray, List.set_cons_zero, List.set_cons_succ, i64_w, i32_w]; rfl)
       refine pure_ (i := 2) (N := some 48) (v := ?_) (a' := ?_) (lb_ 14 7) rfl rfl (any_of HT_.out (by kernel_rfl)) (fun _ _ _ h => h) (Or.inl ⟨by rfl, ?_⟩) ?_ ?_; rotate_left; (intro w'; go_simp; with_reducible rfl); rotate_left; (simp only [Act.put, List.setIfInBounds_toArray, List.set_cons_zero, List.set_cons_succ, i64_w, i32_w]; rfl)
       refine pure_ (i := 3) (N := some 49) (v := ?_) (a' := ?_) (lb_ 14 15) rfl rfl (any_of HT_.out (by kernel_rfl)) (fun _ _ _ h => h) (Or.inl ⟨by rfl, ?_⟩) ?_ ?_; rotate_left; (intro w'; go_simp; with_reducible rfl); rotate_left; (simp only [Act.put, List.setIfInBounds_toArray, List.set_cons_zero, List.set_cons_succ, i64_w, i32_w]; rfl)
       refine pure_ (i := 4) (N := some 50) (v := ?_) (a' := ?_) (lb_ 14 31) rfl rfl (any_of HT_.out (by kernel_rfl)) (fun _ _ _ h => h) (Or.inl ⟨by rfl, ?_⟩) ?_ ?_; rotate_left; (intro w'; go_simp; with_reducible rfl); rotate_left; (simp only [Act.put, List.setIfInBounds_toArray, List.set_cons_zero, List.set_cons_succ, i64_w, i32_w]; rfl)
       refine pure_ (i := 5) (N := some 51) (v := ?_) (a' := ?_) (lb_ 14 63) rfl rfl (any_of HT_.out (by kernel_rfl)) (fun _ _ _ h => h) (Or.inl ⟨by rfl, ?_⟩) ?_ ?_; rotate_left; (intro w'; go_simp; with_reducible rfl); rotate_left; (simp only [Act.put, List.setIfInBounds_toArray, List.set_cons_zero, List.set_cons_succ, i64_w, i32_w]; rfl)
       refine pure_ (i := 7) (N := some 53) (v := ?_) (a' := ?_) (lb_ 14 191) rfl rfl (any_of HT_.out (by kernel_rfl)) (fun _ _ _ h => h) (Or.inl ⟨by rfl, ?_⟩) ?_ ?_; rotate_left; (intro w'; go_simp; with_reducible rfl); rotate_left; (simp only [Act.put, List.setIfInBounds_toArray, List.set_cons_zero, List.set_cons_succ, i64_w, i32_w]; rfl)
       refine pure_ (i := 8) (N := some 54) (v := ?_) (a' := ?_) (lb_ 14 447) rfl rfl (any_of HT_.out (by kernel_rfl)) (fun _ _ _ h => h) (Or.inl ⟨by rfl, ?_⟩) ?_ ?_; rotate_left; (intro w'; go_simp; with_reducible rfl); rotate_left; (simp only [Act.put, List.setIfInBounds_toArray, List.set_cons_zero, List.set_cons_succ, i64_w, i32_w]; rfl)
       refine take_ (i := 6) (N := some 52) (v := ?_) (a' := ?_) (lb_ 14 511) rfl rfl (take_ofW HT_.out HW_.out (by kernel_rfl)) (fun _ _ _ h => h) (Or.inl ⟨by rfl, ?_⟩) hHeld ?_ ?_; rotate_left; (rintro w' ⟨s0, s1, s2, s3, s4, s5, s6⟩; go_simp; with_reducible rfl); rotate_left; (simp only [Act.put, List.setIfInBounds_toArray, List.set_cons_zero, List.set_cons_succ, i64_w, i32_w]; rfl)
       refine take_ (i := 9) (N := some 55) (v := ?_) (a' := ?_) (lb_ 14 1023) rfl rfl (take_ofW HT_.out HW_.out (by kernel_rfl)) (fun _ _ _ h => h) (Or.inl ⟨by rfl, ?_⟩) hHeld ?_ ?_; rotate_left; (rintro w' ⟨s0, s1, s2, s3, s4, s5, s6⟩; go_simp; with_reducible rfl); rotate_left; (simp only [Act.put, List.setIfInBounds_toArray, List.set_cons_zero, List.set_cons_succ, i64_w, i32_w]; rfl)
       refine one_ (i := 10) (N := some 56) (lb_ 14 2047) rfl rfl (one_of HT_.out (by kernel_rfl)) (by decide) (fun K hK => ?_)
       refine goes_ Try.func27 (by kernel_rfl) rfl #[.int .i64 t491, .int .i64 a3_2] (by rfl) rfl rfl (by (try simp only [List.map_toArray, List.map_cons, List.map_nil]); first | done | rfl | (simp only [List.length_drop, List.length_take]; rfl)) ?_
       with_reducible refine (fix_Sub.calls k1 t491 a3_2 t492 _ A125.out).mono ?_
       rintro e w' ⟨rfl, ⟨nd, rfl⟩⟩
       refine ⟨_, rfl, ?_⟩
       refine hK.out _ _ ⟨(cellS65_0 HI0.out.1), (cellS65_1 HI0.out.1), (cellS65_2 HI0.out.1), (cellS65_3 HI0.out.1), (blk_cell BK440.out 0).trans rfl, (blk_cell BK440.out 1).trans rfl, (blk_cell BK440.out 2).trans rfl⟩ (fun hHeld => ?_)
       clear hK K
       refine norm_ (a' := ?_) ?_ ?_
       rotate_left
       ·show Act.put _ (some 56) _ = _
        simp only [Act.put, List.setIfInBounds_toArray, List.set_cons_zero, List.set_cons_succ, i64_w, i32_w]
        rfl
       refine one_ (i := 11) (N := some 57) (lb_ 14 4095) rfl rfl (one_of HT_.out (by kernel_rfl)) (by decide) (fun K hK => ?_)
       refine goes_ Try.func33 (by kernel_rfl) rfl #[.int .i64 t492, .int .i64 (-64), .int .i64 64] (by rfl) rfl rfl (by (try simp only [List.map_toArray, List.map_cons, List.map_nil]); first | done | rfl | (simp only [List.length_drop, List.length_take]; rfl)) ?_
       with_reducible refine (fix_Clamp.calls t492 (-64) 64 t493 _ A126.out).mono ?_
       rintro e w' ⟨rfl, ⟨nd, rfl⟩⟩
       refine ⟨_, rfl, ?_⟩
       refine hK.out _ _ ⟨(cellS65_0 HI0.out.1), (cellS65_1 HI0.out.1), (cellS65_2 HI0.out.1), (cellS65_3 HI0.out.1), (blk_cell BK440.out 0).trans rfl, (blk_cell BK440.out 1).trans rfl, (blk_cell BK440.out 2).trans rfl⟩ (fun hHeld => ?_)
       clear hK K
       refine norm_ (a' := ?_) ?_ ?_
       rotate_left
       ·show Act.put _ (some 57) _ = _
        simp only [Act.put, List.setIfInBounds_toArray, List.set_cons_zero, List.set_cons_succ, i64_w, i32_w]
        rfl
       refine pure_ (i := 12) (N := some 58) (v := ?_) (a' := ?_) (lb_ 14 8191) rfl rfl (any_of HT_.out (by kernel_rfl)) (fun _ _ _ h => h) (Or.inl ⟨by rfl, ?_⟩) ?_ ?_; rotate_left; (intro w'; go_simp; with_reducible rfl); rotate_left; (simp only [Act.put, List.setIfInBounds_toArray, List.set_cons_zero, List.set_cons_succ, i64_w, i32_w]; rfl)
       refine one_ (i := 13) (N := none) (lb_ 14 16383) rfl rfl (one_of HT_.out (by kernel_rfl)) (by decide) (fun K hK => ?_)
       have hs142 : w141.cell? ⟨gb442, 2, none⟩ = some (.int .i64 x443002_1) := (blk_cell BK442.out 2).trans rfl
       have hfs142 := blk_frozen BK442.out 2
       have hns142_0 := NB438_442.out
       have hns142_1 := NB439_442.out
       have hns142_2 := NB440_442.out
       have hns142_3 := NB441_442.out
       have hns142_5 := NB477_442.out
       have hms142_0 := NB442_438.out
       have hms142_1 := NB442_439.out
       have hms142_2 := NB442_440.out
       have hms142_3 := NB442_441.out
       have hms142_5 := NB442_477.out
       refine skip_ (w1 := ?_) (by rfl) rfl ?_ ?_
       rotate_left
       ·go_simp
        rfl
       refine hK.out _ _ ⟨((cell_far (p := ⟨gb442, _, none⟩) NB0_442.out _).trans (hHeld.1)), ((cell_far (p := ⟨gb442, _, none⟩) NB0_442.out _).trans (hHeld.2.1)), ((cell_far (p := ⟨gb442, _, none⟩) NB0_442.out _).trans (hHeld.2.2.1)), ((cell_far (p := ⟨gb442, _, none⟩) NB0_442.out _).trans (hHeld.2.2.2.1)), ((cell_far (p := ⟨gb442, _, none⟩) NB440_442.out _).trans (hHeld.2.2.2.2.1)), ((cell_far (p := ⟨gb442, _, none⟩) NB440_442.out _).trans (hHeld.2.2.2.2.2.1)), ((cell_far (p := ⟨gb442, _, none⟩) NB440_442.out _).trans (hHeld.2.2.2.2.2.2))⟩ (fun hHeld => ?_)
       clear hK K
       refine done_ (done_of HT_.out (by kernel_rfl)) ?_
       try go_wp2
       go_roundg k1
       case measure => have := HK1.out; omega
       case rel => exact ⟨(3), (x1000_1), (x1001_1), (x1002_1), (t491), (x442000_1), (x442001_1), (x442002_1), (x443000_1), (x443001_1), (t493), (by first | rfl | (simp; done) | (simp [*]; done)), H', ⟨by have := HK1.out; omega⟩, ⟨by (with_reducible repeat (first | refine blk_drewN ?_ _ | refine blk_drew ?_ | refine blk_alloc ?_ _)); refine blk_far ?_ NB438_442.out _; (with_reducible repeat (first | refine blk_drewN ?_ _ | refine blk_drew ?_ | refine blk_alloc ?_ _)); exact BK438.out⟩, ⟨by (with_reducible repeat (first | refine blk_drewN ?_ _ | refine blk_drew ?_ | refine blk_alloc ?_ _)); refine blk_far ?_ NB439_442.out _; (with_reducible repeat (first | refine blk_drewN ?_ _ | refine blk_drew ?_ | refine blk_alloc ?_ _)); exact BK439.out⟩, ⟨by (with_reducible repeat (first | refine blk_drewN ?_ _ | refine blk_drew ?_ | refine blk_alloc ?_ _)); refine blk_far ?_ NB440_442.out _; (with_reducible repeat (first | refine blk_drewN ?_ _ | refine blk_drew ?_ | refine blk_alloc ?_ _)); exact BK440.out⟩, ⟨by (with_reducible repeat (first | refine blk_drewN ?_ _ | refine blk_drew ?_ | refine blk_alloc ?_ _)); refine blk_far ?_ NB441_442.out _; (with_reducible repeat (first | refine blk_drewN ?_ _ | refine blk_drew ?_ | refine blk_alloc ?_ _)); exact BK441.out⟩, ⟨by (with_reducible repeat (first | refine blk_drewN ?_ _ | refine blk_drew ?_ | refine blk_alloc ?_ _)); refine blk_put (cs := #[.int .i64 x443000_1, .int .i64 x443001_1, .int .i64 x443002_1]) ?_ 2 _ rfl; (with_reducible repeat (first | refine blk_drewN ?_ _ | refine blk_drew ?_ | refine blk_alloc ?_ _)); exact BK442.out⟩, ⟨by repeat (first | (with_reducible first | exact HI0.out | apply IsS65.alloc | apply IsS65.drewN | apply IsS65.drew | apply IsS65.set_0 | apply IsS65.set_1 | apply IsS65.set_2 | apply IsS65.set_3 | refine IsS65.far ?_ NB0_438.out _ | refine IsS65.far ?_ NB0_439.out _ | refine IsS65.far ?_ NB0_440.out _ | refine IsS65.far ?_ NB0_441.out _ | refine IsS65.far ?_ NB0_442.out _ | refine IsS65.far ?_ NB0_477.out _) | exact HI0.out)⟩, ⟨by repeat (first | (with_reducible first | exact HK.out | apply KeepBut.set_ | apply keep_drewN | apply keep_drew | apply keep_alloc | refine keep_far ?_ GW438.out _ | refine keep_far ?_ GW439.out _ | refine keep_far ?_ GW440.out _ | refine keep_far ?_ GW441.out _ | refine keep_far ?_ GW442.out _ | refine keep_far ?_ GW477.out _) | exact HK.out)⟩, ⟨by repeat (first | (with_reducible first | exact HB.out | apply below_alloc | apply pw_below_drewN | apply below_drew1 | refine below_set ?_ (IsS65.ge HI0.out) | refine below_set ?_ GE438.out | refine below_set ?_ GE439.out | refine below_set ?_ GE440.out | refine below_set ?_ GE441.out | refine below_set ?_ GE442.out | refine below_set ?_ GE477.out) | exact HB.out)⟩⟩
     rw [if_neg c101] at H
     exact absurd H (by simp)
    ·rw [if_neg c16] at H
     have c16b0 : decide (x17_1 < 3) = false := decide_eq_false c16
     clear c16
     simp only [Option.some.injEq, Prod.mk.injEq] at H
     obtain ⟨rfl, rfl, rfl, rfl, rfl, rfl, rfl⟩ := H
     have hnb143 := NB442_438.out
     have hnc143 := NB438_442.out
     have hnb144 := NB442_439.out
     have hnc144 := NB439_442.out
     have hnb145 := NB442_440.out
     have hnc145 := NB440_442.out
     have hnb146 := NB442_441.out
     have hnc146 := NB441_442.out
     have hnb147 := NB442_0.out
     have hnc147 := NB0_442.out
     have hcz148_0 := blk_cells3 (w := wr) (g := gb442) BK442.out
     have hfz148_0 := blk_frozen BK442.out
     have hnb149 := NB441_438.out
     have hnc149 := NB438_441.out
     have hnb150 := NB441_439.out
     have hnc150 := NB439_441.out
     have hnb151 := NB441_440.out
     have hnc151 := NB440_441.out
     have hnb152 := NB441_0.out
     have hnc152 := NB0_441.out
     have hcz153_0 := blk_cells3 (w := wr) (g := gb441) BK441.out
     have hfz153_0 := blk_frozen BK441.out
     go_wp2
     refine bodyPost_ret (results_cell_row rfl _ _ gb441 37 #[.int .i64 x443000_1, .int .i64 x443001_1, .int .i64 x443002_1] (0, 0) _ rfl (by (with_reducible repeat (first | refine blk_drewN ?_ _ | refine blk_drew ?_ | refine blk_alloc ?_ _)); refine blk_put (cs := #[.int .i64 x443000_1, .int .i64 x443001_1, .int .i64 x442002_1]) ?_ 2 _ rfl; (with_reducible repeat (first | refine blk_drewN ?_ _ | refine blk_drew ?_ | refine blk_alloc ?_ _)); refine blk_put (cs := #[.int .i64 x443000_1, .int .i64 x442001_1, .int .i64 x442002_1]) ?_ 1 _ rfl; (with_reducible repeat (first | refine blk_drewN ?_ _ | refine blk_drew ?_ | refine blk_alloc ?_ _)); refine blk_put (cs := #[.int .i64 x442000_1, .int .i64 x442001_1, .int .i64 x442002_1]) ?_ 0 _ rfl; (with_reducible repeat (first | refine blk_drewN ?_ _ | refine blk_drew ?_ | refine blk_alloc ?_ _)); exact BK441.out) Try.underlying37 rfl (by kernel_rfl)) rfl ?_
     exact ⟨by first | rfl | (simp [errW_none, errW_some] <;> rfl) | (simp [*, errW_none, errW_some] <;> rfl), by repeat (first | (with_reducible first | exact HI0.out | apply IsS65.alloc | apply IsS65.drewN | apply IsS65.drew | apply IsS65.set_0 | apply IsS65.set_1 | apply IsS65.set_2 | apply IsS65.set_3 | refine IsS65.far ?_ NB0_438.out _ | refine IsS65.far ?_ NB0_439.out _ | refine IsS65.far ?_ NB0_440.out _ | refine IsS65.far ?_ NB0_441.out _ | refine IsS65.far ?_ NB0_442.out _) | exact HI0.out), by repeat (first | (with_reducible first | exact HB.out | apply below_alloc | apply pw_below_drewN | apply below_drew1 | refine below_set ?_ (IsS65.ge HI0.out) | refine below_set ?_ GE438.out | refine below_set ?_ GE439.out | refine below_set ?_ GE440.out | refine below_set ?_ GE441.out | refine below_set ?_ GE442.out) | exact HB.out), by repeat (first | (with_reducible first | exact HK.out | apply KeepBut.set_ | apply keep_drewN | apply keep_drew | apply keep_alloc | refine keep_far ?_ GW438.out _ | refine keep_far ?_ GW439.out _ | refine keep_far ?_ GW440.out _ | refine keep_far ?_ GW441.out _ | refine keep_far ?_ GW442.out _) | exact HK.out)⟩

end Go.Proofs.Ytbnliflfkljbfaa.PControlLaws
