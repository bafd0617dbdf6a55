-- WRITTEN BY wip/tools/aprint.py of this claim's repository over the kit's words: not typed by hand
import Derived.Test.YtbnliflfkljbfaaPControlNilx0
import Derived.Test.YtbnliflfkljbfaaPControlNilx2
import Derived.Test.YtbnliflfkljbfaaPControlNilx3
import Derived.Test.YtbnliflfkljbfaaPControlNilx4
namespace Go.Proofs.Ytbnliflfkljbfaa.PControlNil
open Go.RowKit Go.Proofs.YtbnliflfkljbfaaW.PrintWords Go.Proofs.YtbnliflfkljbfaaW.PrintLast Go.Proofs.YtbnliflfkljbfaaW.PrintMore
attribute [local go_sem] max2_int min2_int max_two min_two max_three min_three max_four min_four   -- for this text's walks alone
set_option linter.unusedVariables false
set_option linter.unusedSimpArgs false

/-! ### control_Steer_Step: function 20 -/
def control_Steer_Step.l0 : Nat → Int → Int → Int → Int → Int → Int → Int → Int → Int → Int → Int → Int → Int → Int → Bool → Int → Int → Bool → Int → Int → Bool → Int → Int → Option (Int × Int × Int × Int × Int × Int × Int)
  | 0, _, _, _, _, _, _, _, _, _, _, _, _, _, _, _, _, _, _, _, _, _, _, _ => none
  | k + 1, x17, x1000, x1001, x1002, x1003, x289000, x289001, x289002, x290000, x290001, x290002, x292000, x292001, x292002, x517000, x517001, x517002, x517003, x517004, x517005, x517006, x517007, x517008 => if x17 < 3 then (if x17 = 0 then (if x517000 = true then ((control_Steer_place.f k x1000 x1001 x1002 x1003 x517000 x517001 x517002 x289000).bind fun bt293 => ((fix_Slew.f k x1001 bt293.1 x1000).bind fun t298 => ((fix_Sub.f k t298 x290000).bind fun t299 => ((fix_Clamp.f t299 (-64) 64).bind fun t300 => (control_Steer_Step.l0 k 1 x1000 t298 x1002 x1003 x289000 x289001 x289002 x290000 x290001 x290002 t300 x292001 x292002 x517000 x517001 x517002 x517003 x517004 x517005 x517006 x517007 x517008))))) else ((control_Steer_drift.f x1000 x1001 x1002 x1003 x517000 x517001 x517002 x289000).bind fun bt301 => ((fix_Slew.f k x1001 bt301.1 x1000).bind fun t306 => ((fix_Sub.f k t306 x290000).bind fun t307 => ((fix_Clamp.f t307 (-64) 64).bind fun t308 => (control_Steer_Step.l0 k 1 x1000 t306 x1002 x1003 x289000 x289001 x289002 x290000 x290001 x290002 t308 x292001 x292002 x517000 x517001 x517002 x517003 x517004 x517005 x517006 x517007 x517008)))))) else (if x17 = 1 then (if x517003 = true then ((control_Steer_place.f k x1000 x1001 x1002 x1003 x517003 x517004 x517005 x289001).bind fun bt310 => ((fix_Slew.f k x1002 bt310.1 x1000).bind fun t315 => ((fix_Sub.f k t315 x290001).bind fun t316 => ((fix_Clamp.f t316 (-64) 64).bind fun t317 => (control_Steer_Step.l0 k 2 x1000 x1001 t315 x1003 x289000 x289001 x289002 x290000 x290001 x290002 x292000 t317 x292002 x517000 x517001 x517002 x517003 x517004 x517005 x517006 x517007 x517008))))) else ((control_Steer_drift.f x1000 x1001 x1002 x1003 x517003 x517004 x517005 x289001).bind fun bt318 => ((fix_Slew.f k x1002 bt318.1 x1000).bind fun t323 => ((fix_Sub.f k t323 x290001).bind fun t324 => ((fix_Clamp.f t324 (-64) 64).bind fun t325 => (control_Steer_Step.l0 k 2 x1000 x1001 t323 x1003 x289000 x289001 x289002 x290000 x290001 x290002 x292000 t325 x292002 x517000 x517001 x517002 x517003 x517004 x517005 x517006 x517007 x517008)))))) else (if x17 = 2 then (if x517006 = true then ((control_Steer_place.f k x1000 x1001 x1002 x1003 x517006 x517007 x517008 x289002).bind fun bt327 => ((fix_Slew.f k x1003 bt327.1 x1000).bind fun t332 => ((fix_Sub.f k t332 x290002).bind fun t333 => ((fix_Clamp.f t333 (-64) 64).bind fun t334 => (control_Steer_Step.l0 k 3 x1000 x1001 x1002 t332 x289000 x289001 x289002 x290000 x290001 x290002 x292000 x292001 t334 x517000 x517001 x517002 x517003 x517004 x517005 x517006 x517007 x517008))))) else ((control_Steer_drift.f x1000 x1001 x1002 x1003 x517006 x517007 x517008 x289002).bind fun bt335 => ((fix_Slew.f k x1003 bt335.1 x1000).bind fun t340 => ((fix_Sub.f k t340 x290002).bind fun t341 => ((fix_Clamp.f t341 (-64) 64).bind fun t342 => (control_Steer_Step.l0 k 3 x1000 x1001 x1002 t340 x289000 x289001 x289002 x290000 x290001 x290002 x292000 x292001 t342 x517000 x517001 x517002 x517003 x517004 x517005 x517006 x517007 x517008)))))) else (none)))) else (some (x292000, x292001, x292002, x1000, x1001, x1002, x1003))
def control_Steer_Step.f (k : Nat) (s0_0 : Int) (s0_1 : Int) (s0_2 : Int) (s0_3 : Int) (a1_0 : Bool) (a1_1 : Int) (a1_2 : Int) (a1_3 : Bool) (a1_4 : Int) (a1_5 : Int) (a1_6 : Bool) (a1_7 : Int) (a1_8 : Int) (a2_0 : Int) (a2_1 : Int) (a2_2 : Int) (a3_0 : Int) (a3_1 : Int) (a3_2 : Int) : Option (Int × Int × Int × Int × Int × Int × Int) := control_Steer_Step.l0 k 0 s0_0 s0_1 s0_2 s0_3 a2_0 a2_1 a2_2 a3_0 a3_1 a3_2 0 0 0 a1_0 a1_1 a1_2 a1_3 a1_4 a1_5 a1_6 a1_7 a1_8
theorem control_Steer_Step.mono_l : ∀ k, (∀ y0 y1 y2 y3 y4 y5 y6 y7 y8 y9 y10 y11 y12 y13 y14 y15 y16 y17 y18 y19 y20 y21 y22, LeO (control_Steer_Step.l0 k y0 y1 y2 y3 y4 y5 y6 y7 y8 y9 y10 y11 y12 y13 y14 y15 y16 y17 y18 y19 y20 y21 y22) (control_Steer_Step.l0 (k + 1) y0 y1 y2 y3 y4 y5 y6 y7 y8 y9 y10 y11 y12 y13 y14 y15 y16 y17 y18 y19 y20 y21 y22))
  | 0 => fun _ _ _ _ _ _ _ _ _ _ _ _ _ _ _ _ _ _ _ _ _ _ _ r h => by simp [control_Steer_Step.l0] at h
  | k + 1 => by
    have ih0 := control_Steer_Step.mono_l k
    · intro y0 y1 y2 y3 y4 y5 y6 y7 y8 y9 y10 y11 y12 y13 y14 y15 y16 y17 y18 y19 y20 y21 y22
      unfold control_Steer_Step.l0
      repeat' first
      | (with_reducible exact ih0 _ _ _ _ _ _ _ _ _ _ _ _ _ _ _ _ _ _ _ _ _ _ _)
      | (with_reducible exact control_Steer_place.mono _ _ _ _ _ _ _ _ _)
      | (with_reducible exact fix_Slew.mono _ _ _ _)
      | (with_reducible exact fix_Sub.mono _ _ _)
      | (with_reducible exact LeO.refl _)
      | (with_reducible exact LeO.none _)
      | (with_reducible refine LeO.ite ?_ ?_)
      | (with_reducible refine LeO.bind ?_ (fun _ => ?_))
      | exact ih0 _ _ _ _ _ _ _ _ _ _ _ _ _ _ _ _ _ _ _ _ _ _ _
      | exact control_Steer_place.mono _ _ _ _ _ _ _ _ _
      | exact fix_Slew.mono _ _ _ _
      | exact fix_Sub.mono _ _ _
      | exact LeO.none _
      | refine LeO.ite ?_ ?_
      | refine LeO.bind ?_ (fun _ => ?_)
theorem control_Steer_Step.mono : ∀ a0 a1 a2 a3 a4 a5 a6 a7 a8 a9 a10 a11 a12 a13 a14 a15 a16 a17 a18 k, LeO (control_Steer_Step.f k a0 a1 a2 a3 a4 a5 a6 a7 a8 a9 a10 a11 a12 a13 a14 a15 a16 a17 a18) (control_Steer_Step.f (k + 1) a0 a1 a2 a3 a4 a5 a6 a7 a8 a9 a10 a11 a12 a13 a14 a15 a16 a17 a18) := by
  intro a0 a1 a2 a3 a4 a5 a6 a7 a8 a9 a10 a11 a12 a13 a14 a15 a16 a17 a18 k
  have ih0 := control_Steer_Step.mono_l k
  unfold control_Steer_Step.f
  repeat' first
      | (with_reducible exact ih0 _ _ _ _ _ _ _ _ _ _ _ _ _ _ _ _ _ _ _ _ _ _ _)
      | (with_reducible exact control_Steer_place.mono _ _ _ _ _ _ _ _ _)
      | (with_reducible exact fix_Slew.mono _ _ _ _)
      | (with_reducible exact fix_Sub.mono _ _ _)
      | (with_reducible exact LeO.refl _)
      | (with_reducible exact LeO.none _)
      | (with_reducible refine LeO.ite ?_ ?_)
      | (with_reducible refine LeO.bind ?_ (fun _ => ?_))
      | exact ih0 _ _ _ _ _ _ _ _ _ _ _ _ _ _ _ _ _ _ _ _ _ _ _
      | exact control_Steer_place.mono _ _ _ _ _ _ _ _ _
      | exact fix_Slew.mono _ _ _ _
      | exact fix_Sub.mono _ _ _
      | exact LeO.none _
      | refine LeO.ite ?_ ?_
      | refine LeO.bind ?_ (fun _ => ?_)
def control_Steer_Step.T10 : Bool × List (List Nat × List Nat) := (true, [([], []), ([], []), ([], []), ([], []), ([2], [2]), ([4], [4]), ([5, 3], [3, 5]), ([6], [6]), ([], []), ([], []), ([], []), ([], []), ([11], [11]), ([12], [12]), ([8, 9, 10, 13], [8, 9, 10, 13]), ([], []), ([15], [15]), ([16], [16]), ([17], [17]), ([7, 14, 18, 14], [7, 14, 18]), ([0], [0]), ([20], [20]), ([21, 1, 0, 1, 2, 3, 4, 5, 6, 7, 8, 9, 10, 11, 12, 13, 14, 15, 16, 17, 18, 19], [1, 21]), ([22, 19, 19, 0, 1, 2, 3, 4, 5, 6, 7, 8, 9, 10, 11, 12, 13, 14, 15, 16, 17, 18, 19], [19, 22])])
def control_Steer_Step.B10 : List Nat := [0, 0, 0, 0, 4, 20, 60, 124, 0, 0, 0, 0, 2048, 6144, 16128, 0, 32768, 98304, 229376, 524284, 1, 1048577, 4194303, 8388607]
theorem control_Steer_Step.tab10 : rtab .any (opsOf Try.f20 10) = control_Steer_Step.T10 := by kernel_rfl
theorem control_Steer_Step.bits10 : waitsOk control_Steer_Step.T10.2 control_Steer_Step.B10 = true := by kernel_rfl
def control_Steer_Step.T11 : Bool × List (List Nat × List Nat) := (true, [([], []), ([], []), ([], []), ([1], [1]), ([3], [3]), ([4, 2], [2, 4]), ([5], [5]), ([], []), ([7], [7]), ([8], [8]), ([6, 9], [6, 9]), ([10, 10], [10]), ([0, 0, 1, 2, 3, 4, 5, 6, 7, 8, 9, 10, 11], [0]), ([12, 11, 11, 0, 1, 2, 3, 4, 5, 6, 7, 8, 9, 10, 11], [11, 12])])
def control_Steer_Step.B11 : List Nat := [0, 0, 0, 2, 10, 30, 62, 0, 128, 384, 1022, 2046, 4095, 8191]
theorem control_Steer_Step.tab11 : rtab .any (opsOf Try.f20 11) = control_Steer_Step.T11 := by kernel_rfl
theorem control_Steer_Step.bits11 : waitsOk control_Steer_Step.T11.2 control_Steer_Step.B11 = true := by kernel_rfl
set_option maxHeartbeats 8000000 in
set_option maxRecDepth 100000 in
theorem control_Steer_Step.calls (k : Nat) (g : Nat) (s0_0 : Int) (s0_1 : Int) (s0_2 : Int) (s0_3 : Int) (a1_0 : Bool) (a1_1 : Int) (a1_2 : Int) (a1_3 : Bool) (a1_4 : Int) (a1_5 : Int) (a1_6 : Bool) (a1_7 : Int) (a1_8 : Int) (a2_0 : Int) (a2_1 : Int) (a2_2 : Int) (a3_0 : Int) (a3_1 : Int) (a3_2 : Int) (r1 : Int) (r2 : Int) (r3 : Int) (r4 : Int) (r5 : Int) (r6 : Int) (r7 : Int) (w0 w : World) (hI : IsS65 w0 w g s0_0 s0_1 s0_2 s0_3) (hB : Below w0.heap.size w0 w) (h : control_Steer_Step.f k s0_0 s0_1 s0_2 s0_3 a1_0 a1_1 a1_2 a1_3 a1_4 a1_5 a1_6 a1_7 a1_8 a2_0 a2_1 a2_2 a3_0 a3_1 a3_2 = some (r1, r2, r3, r4, r5, r6, r7)) :
    Calls Try.prog 20 #[.pointer (some ⟨g, 0, none⟩), .agg #[.bool a1_0, .int .i64 a1_1, .int .i64 a1_2, .bool a1_3, .int .i64 a1_4, .int .i64 a1_5, .bool a1_6, .int .i64 a1_7, .int .i64 a1_8], .agg #[.int .i64 a2_0, .int .i64 a2_1, .int .i64 a2_2], .agg #[.int .i64 a3_0, .int .i64 a3_1, .int .i64 a3_2]] w fun e w' => e = .returned (.agg #[.int .i64 r1, .int .i64 r2, .int .i64 r3]) ∧ IsS65 w0 w' g r4 r5 r6 r7 ∧ Below w0.heap.size w0 w' ∧ KeepBut w w' g none := by
  have hu42 := Try.underlying42
  have hu37 := Try.underlying37
  have hu41 := Try.underlying41
  have hix42_0 : ∀ (x0_ x1_ x2_ x3_ x4_ x5_ x6_ x7_ x8_ : Value) (W : World), (Instr.index 42 (.agg #[x0_, x1_, x2_, x3_, x4_, x5_, x6_, x7_, x8_]) (.int .i64 0)).run Try.prog W = .ok (.agg #[x0_, x1_, x2_]) W := fun x0_ x1_ x2_ x3_ x4_ x5_ x6_ x7_ x8_ W => rfl
  have hix42_1 : ∀ (x0_ x1_ x2_ x3_ x4_ x5_ x6_ x7_ x8_ : Value) (W : World), (Instr.index 42 (.agg #[x0_, x1_, x2_, x3_, x4_, x5_, x6_, x7_, x8_]) (.int .i64 1)).run Try.prog W = .ok (.agg #[x3_, x4_, x5_]) W := fun x0_ x1_ x2_ x3_ x4_ x5_ x6_ x7_ x8_ W => rfl
  have hix42_2 : ∀ (x0_ x1_ x2_ x3_ x4_ x5_ x6_ x7_ x8_ : Value) (W : World), (Instr.index 42 (.agg #[x0_, x1_, x2_, x3_, x4_, x5_, x6_, x7_, x8_]) (.int .i64 2)).run Try.prog W = .ok (.agg #[x6_, x7_, x8_]) W := fun x0_ x1_ x2_ x3_ x4_ x5_ x6_ x7_ x8_ W => rfl
  have HI0 := Aside0.mk hI
  have HK := Aside0.mk (KeepBut.refl w g none)
  have HL := Aside0.mk hB.size
  clear hI
  have HW0 := Aside0.mk hB.size
  have HB := Aside0.mk hB
  clear hB
  have H : (control_Steer_Step.l0 k 0 s0_0 s0_1 s0_2 s0_3 a2_0 a2_1 a2_2 a3_0 a3_1 a3_2 0 0 0 a1_0 a1_1 a1_2 a1_3 a1_4 a1_5 a1_6 a1_7 a1_8) = some (r1, r2, r3, r4, r5, r6, r7) := h
  clear h
  have H' := Aside0.mk H
  clear H
  go_enter Try.func20, Try.ntmps20
  go_wp2_with (first | ((with_reducible refine gate_dst (N := 5) rfl ?_); refine box_event ?hg (N := 5) ?hd (cs := #[.bool a1_0, .int .i64 a1_1, .int .i64 a1_2, .bool a1_3, .int .i64 a1_4, .int .i64 a1_5, .bool a1_6, .int .i64 a1_7, .int .i64 a1_8]) (t := 42) ?hr ?_; (case hd => rfl); (case hg => rfl); (case hr => first | (go_simp; done) | (go_simp; rfl)); intro gb287 hg w5 hbox hb; have n0_ := Aside0.mk (IsS65.below HI0.out hb); have n1_ := Aside0.mk (KeepBut.trans HK.out (KeepBut.of_below hb g none) (.inl rfl)); have n2_ := Aside0.mk (below_step HB.out hb); have n3_ := Aside0.mk (hbox); have n4_ := Aside0.mk ((by rw [hg]; exact (keep_size (w := w) (g := g) (row := none) HK.out) : w.heap.size ≤ gb287)); have n5_ := Aside0.mk ((Nat.le_trans HW0.out (by rw [hg]; exact (keep_size (w := w) (g := g) (row := none) HK.out) : w.heap.size ≤ gb287) : w0.heap.size ≤ gb287)); have n6_ := Aside0.mk ((by rw [hg]; exact Nat.ne_of_lt (IsS65.lt HI0.out) : g ≠ gb287)); have n7_ := Aside0.mk ((by rw [hg]; exact Nat.ne_of_gt (IsS65.lt HI0.out) : gb287 ≠ g)); clear HI0; clear HK; clear HB; have HI0 := n0_; have HK := n1_; have HB := n2_; have BK287 := n3_; have GW287 := n4_; have GE287 := n5_; have NB0_287 := n6_; have NB287_0 := n7_; clear n0_ n1_ n2_ n3_ n4_ n5_ n6_ n7_; clear hb hbox hg) | ((with_reducible refine gate_dst (N := 6) rfl ?_); refine box_event ?hg (N := 6) ?hd (cs := #[.int .i64 a2_0, .int .i64 a2_1, .int .i64 a2_2]) (t := 37) ?hr ?_; (case hd => rfl); (case hg => rfl); (case hr => first | (go_simp; done) | (go_simp; rfl)); intro gb288 hg w6 hbox hb; have n0_ := Aside0.mk (IsS65.below HI0.out hb); have n1_ := Aside0.mk (blk_below BK287.out hb); have n2_ := Aside0.mk (KeepBut.trans HK.out (KeepBut.of_below hb g none) (.inl rfl)); have n3_ := Aside0.mk (below_step HB.out hb); have n4_ := Aside0.mk (hbox); have n5_ := Aside0.mk ((by rw [hg]; exact (keep_size (w := w) (g := g) (row := none) HK.out) : w.heap.size ≤ gb288)); have n6_ := Aside0.mk ((Nat.le_trans HW0.out (by rw [hg]; exact (keep_size (w := w) (g := g) (row := none) HK.out) : w.heap.size ≤ gb288) : w0.heap.size ≤ gb288)); have n7_ := Aside0.mk ((by rw [hg]; exact Nat.ne_of_lt (blk_lt BK287.out) : gb287 ≠ gb288)); have n8_ := Aside0.mk ((by rw [hg]; exact Nat.ne_of_gt (blk_lt BK287.out) : gb288 ≠ gb287)); have n9_ := Aside0.mk ((by rw [hg]; exact Nat.ne_of_lt (IsS65.lt HI0.out) : g ≠ gb288)); have n10_ := Aside0.mk ((by rw [hg]; exact Nat.ne_of_gt (IsS65.lt HI0.out) : gb288 ≠ g)); clear HI0; clear BK287; clear HK; clear HB; have HI0 := n0_; have BK287 := n1_; have HK := n2_; have HB := n3_; have BK288 := n4_; have GW288 := n5_; have GE288 := n6_; have NB287_288 := n7_; have NB288_287 := n8_; have NB0_288 := n9_; have NB288_0 := n10_; clear n0_ n1_ n2_ n3_ n4_ n5_ n6_ n7_ n8_ n9_ n10_; clear hb hbox hg) | ((with_reducible refine gate_dst (N := 7) rfl ?_); refine box_event ?hg (N := 7) ?hd (cs := #[.int .i64 a3_0, .int .i64 a3_1, .int .i64 a3_2]) (t := 37) ?hr ?_; (case hd => rfl); (case hg => rfl); (case hr => first | (go_simp; done) | (go_simp; rfl)); intro gb289 hg w7 hbox hb; have n0_ := Aside0.mk (IsS65.below HI0.out hb); have n1_ := Aside0.mk (blk_below BK287.out hb); have n2_ := Aside0.mk (blk_below BK288.out hb); have n3_ := Aside0.mk (KeepBut.trans HK.out (KeepBut.of_below hb g none) (.inl rfl)); have n4_ := Aside0.mk (below_step HB.out hb); have n5_ := Aside0.mk (hbox); have n6_ := Aside0.mk ((by rw [hg]; exact (keep_size (w := w) (g := g) (row := none) HK.out) : w.heap.size ≤ gb289)); have n7_ := Aside0.mk ((Nat.le_trans HW0.out (by rw [hg]; exact (keep_size (w := w) (g := g) (row := none) HK.out) : w.heap.size ≤ gb289) : w0.heap.size ≤ gb289)); have n8_ := Aside0.mk ((by rw [hg]; exact Nat.ne_of_lt (blk_lt BK287.out) : gb287 ≠ gb289)); have n9_ := Aside0.mk ((by rw [hg]; exact Nat.ne_of_gt (blk_lt BK287.out) : gb289 ≠ gb287)); have n10_ := Aside0.mk ((by rw [hg]; exact Nat.ne_of_lt (blk_lt BK288.out) : gb288 ≠ gb289)); have n11_ := Aside0.mk ((by rw [hg]; exact Nat.ne_of_gt (blk_lt BK288.out) : gb289 ≠ gb288)); have n12_ := Aside0.mk ((by rw [hg]; exact Nat.ne_of_lt (IsS65.lt HI0.out) : g ≠ gb289)); have n13_ := Aside0.mk ((by rw [hg]; exact Nat.ne_of_gt (IsS65.lt HI0.out) : gb289 ≠ g)); clear HI0; clear BK287; clear BK288; clear HK; clear HB; have HI0 := n0_; have BK287 := n1_; have BK288 := n2_; have HK := n3_; have HB := n4_; have BK289 := n5_; have GW289 := n6_; have GE289 := n7_; have NB287_289 := n8_; have NB289_287 := n9_; have NB288_289 := n10_; have NB289_288 := n11_; have NB0_289 := n12_; have NB289_0 := n13_; clear n0_ n1_ n2_ n3_ n4_ n5_ n6_ n7_ n8_ n9_ n10_ n11_ n12_ n13_; clear hb hbox hg) | ((with_reducible refine gate_dst (N := 8) rfl ?_); refine box_event ?hg (N := 8) ?hd (cs := #[.int .i64 0, .int .i64 0, .int .i64 0]) (t := 37) ?hr ?_; (case hd => rfl); (case hg => rfl); (case hr => first | (go_simp; done) | (go_simp; rfl)); intro gb290 hg w8 hbox hb; have n0_ := Aside0.mk (IsS65.below HI0.out hb); have n1_ := Aside0.mk (blk_below BK287.out hb); have n2_ := Aside0.mk (blk_below BK288.out hb); have n3_ := Aside0.mk (blk_below BK289.out hb); have n4_ := Aside0.mk (KeepBut.trans HK.out (KeepBut.of_below hb g none) (.inl rfl)); have n5_ := Aside0.mk (below_step HB.out hb); have n6_ := Aside0.mk (hbox); have n7_ := Aside0.mk ((by rw [hg]; exact (keep_size (w := w) (g := g) (row := none) HK.out) : w.heap.size ≤ gb290)); have n8_ := Aside0.mk ((Nat.le_trans HW0.out (by rw [hg]; exact (keep_size (w := w) (g := g) (row := none) HK.out) : w.heap.size ≤ gb290) : w0.heap.size ≤ gb290)); have n9_ := Aside0.mk ((by rw [hg]; exact Nat.ne_of_lt (blk_lt BK287.out) : gb287 ≠ gb290)); have n10_ := Aside0.mk ((by rw [hg]; exact Nat.ne_of_gt (blk_lt BK287.out) : gb290 ≠ gb287)); have n11_ := Aside0.mk ((by rw [hg]; exact Nat.ne_of_lt (blk_lt BK288.out) : gb288 ≠ gb290)); have n12_ := Aside0.mk ((by rw [hg]; exact Nat.ne_of_gt (blk_lt BK288.out) : gb290 ≠ gb288)); have n13_ := Aside0.mk ((by rw [hg]; exact Nat.ne_of_lt (blk_lt BK289.out) : gb289 ≠ gb290)); have n14_ := Aside0.mk ((by rw [hg]; exact Nat.ne_of_gt (blk_lt BK289.out) : gb290 ≠ gb289)); have n15_ := Aside0.mk ((by rw [hg]; exact Nat.ne_of_lt (IsS65.lt HI0.out) : g ≠ gb290)); have n16_ := Aside0.mk ((by rw [hg]; exact Nat.ne_of_gt (IsS65.lt HI0.out) : gb290 ≠ g)); clear HI0; clear BK287; clear BK288; clear BK289; clear HK; clear HB; have HI0 := n0_; have BK287 := n1_; have BK288 := n2_; have BK289 := n3_; have HK := n4_; have HB := n5_; have BK290 := n6_; have GW290 := n7_; have GE290 := n8_; have NB287_290 := n9_; have NB290_287 := n10_; have NB288_290 := n11_; have NB290_288 := n12_; have NB289_290 := n13_; have NB290_289 := n14_; have NB0_290 := n15_; have NB290_0 := n16_; clear n0_ n1_ n2_ n3_ n4_ n5_ n6_ n7_ n8_ n9_ n10_ n11_ n12_ n13_ n14_ n15_ n16_; clear hb hbox hg) | ((with_reducible refine gate_dst (N := 9) rfl ?_); refine box_event ?hg (N := 9) ?hd (cs := #[.int .i64 0, .int .i64 0, .int .i64 0]) (t := 37) ?hr ?_; (case hd => rfl); (case hg => rfl); (case hr => first | (go_simp; done) | (go_simp; rfl)); intro gb291 hg w9 hbox hb; have n0_ := Aside0.mk (IsS65.below HI0.out hb); have n1_ := Aside0.mk (blk_below BK287.out hb); have n2_ := Aside0.mk (blk_below BK288.out hb); have n3_ := Aside0.mk (blk_below BK289.out hb); have n4_ := Aside0.mk (blk_below BK290.out hb); have n5_ := Aside0.mk (KeepBut.trans HK.out (KeepBut.of_below hb g none) (.inl rfl)); have n6_ := Aside0.mk (below_step HB.out hb); have n7_ := Aside0.mk (hbox); have n8_ := Aside0.mk ((by rw [hg]; exact (keep_size (w := w) (g := g) (row := none) HK.out) : w.heap.size ≤ gb291)); have n9_ := Aside0.mk ((Nat.le_trans HW0.out (by rw [hg]; exact (keep_size (w := w) (g := g) (row := none) HK.out) : w.heap.size ≤ gb291) : w0.heap.size ≤ gb291)); have n10_ := Aside0.mk ((by rw [hg]; exact Nat.ne_of_lt (blk_lt BK287.out) : gb287 ≠ gb291)); have n11_ := Aside0.mk ((by rw [hg]; exact Nat.ne_of_gt (blk_lt BK287.out) : gb291 ≠ gb287)); have n12_ := Aside0.mk ((by rw [hg]; exact Nat.ne_of_lt (blk_lt BK288.out) : gb288 ≠ gb291)); have n13_ := Aside0.mk ((by rw [hg]; exact Nat.ne_of_gt (blk_lt BK288.out) : gb291 ≠ gb288)); have n14_ := Aside0.mk ((by rw [hg]; exact Nat.ne_of_lt (blk_lt BK289.out) : gb289 ≠ gb291)); have n15_ := Aside0.mk ((by rw [hg]; exact Nat.ne_of_gt (blk_lt BK289.out) : gb291 ≠ gb289)); have n16_ := Aside0.mk ((by rw [hg]; exact Nat.ne_of_lt (blk_lt BK290.out) : gb290 ≠ gb291)); have n17_ := Aside0.mk ((by rw [hg]; exact Nat.ne_of_gt (blk_lt BK290.out) : gb291 ≠ gb290)); have n18_ := Aside0.mk ((by rw [hg]; exact Nat.ne_of_lt (IsS65.lt HI0.out) : g ≠ gb291)); have n19_ := Aside0.mk ((by rw [hg]; exact Nat.ne_of_gt (IsS65.lt HI0.out) : gb291 ≠ g)); clear HI0; clear BK287; clear BK288; clear BK289; clear BK290; clear HK; clear HB; have HI0 := n0_; have BK287 := n1_; have BK288 := n2_; have BK289 := n3_; have BK290 := n4_; have HK := n5_; have HB := n6_; have BK291 := n7_; have GW291 := n8_; have GE291 := n9_; have NB287_291 := n10_; have NB291_287 := n11_; have NB288_291 := n12_; have NB291_288 := n13_; have NB289_291 := n14_; have NB291_289 := n15_; have NB290_291 := n16_; have NB291_290 := n17_; have NB0_291 := n18_; have NB291_0 := n19_; clear n0_ n1_ n2_ n3_ n4_ n5_ n6_ n7_ n8_ n9_ n10_ n11_ n12_ n13_ n14_ n15_ n16_ n17_ n18_ n19_; clear hb hbox hg; have hnb10 := NB287_288.out; have hnc10 := NB288_287.out; have hnb11 := NB287_289.out; have hnc11 := NB289_287.out; have hnb12 := NB287_290.out; have hnc12 := NB290_287.out; have hnb13 := NB287_291.out; have hnc13 := NB291_287.out; have hnb14 := NB287_0.out; have hnc14 := NB0_287.out; have hcz15_0 := blk_cells9 (w := w9) (g := gb287) BK287.out; have hfz15_0 := blk_frozen BK287.out))
  go_loopg [17] k (fun kq v17 w' => ∃ (x17_1 : Int) (x1000_1 : Int) (x1001_1 : Int) (x1002_1 : Int) (x1003_1 : Int) (x291000_1 : Int) (x291001_1 : Int) (x291002_1 : Int) (x292000_1 : Int) (x292001_1 : Int) (x292002_1 : Int), v17 = .int .i64 x17_1 ∧ Aside0 (control_Steer_Step.l0 kq x17_1 x1000_1 x1001_1 x1002_1 x1003_1 a2_0 a2_1 a2_2 a3_0 a3_1 a3_2 x292000_1 x292001_1 x292002_1 a1_0 a1_1 a1_2 a1_3 a1_4 a1_5 a1_6 a1_7 a1_8 = some (r1, r2, r3, r4, r5, r6, r7)) ∧ Aside0 (kq ≤ k) ∧ Aside0 (w'.heap[gb287]? = some (.cells #[.bool a1_0, .int .i64 a1_1, .int .i64 a1_2, .bool a1_3, .int .i64 a1_4, .int .i64 a1_5, .bool a1_6, .int .i64 a1_7, .int .i64 a1_8] 42 (0, 0))) ∧ Aside0 (w'.heap[gb288]? = some (.cells #[.int .i64 a2_0, .int .i64 a2_1, .int .i64 a2_2] 37 (0, 0))) ∧ Aside0 (w'.heap[gb289]? = some (.cells #[.int .i64 a3_0, .int .i64 a3_1, .int .i64 a3_2] 37 (0, 0))) ∧ Aside0 (w'.heap[gb290]? = some (.cells #[.int .i64 x291000_1, .int .i64 x291001_1, .int .i64 x291002_1] 37 (0, 0))) ∧ Aside0 (w'.heap[gb291]? = some (.cells #[.int .i64 x292000_1, .int .i64 x292001_1, .int .i64 x292002_1] 37 (0, 0))) ∧ Aside0 (IsS65 w0 w' g x1000_1 x1001_1 x1002_1 x1003_1) ∧ Aside0 (KeepBut w w' g none) ∧ Aside0 (Below w0.heap.size w0 w'))
  case atStart => exact ⟨(0), (s0_0), (s0_1), (s0_2), (s0_3), (0), (0), (0), (0), (0), (0), (by first | rfl | (simp; done) | (simp [*]; done)), H', ⟨Nat.le_refl _⟩, ⟨by (with_reducible repeat (first | refine blk_drewN ?_ _ | refine blk_drew ?_ | refine blk_alloc ?_ _)); exact BK287.out⟩, ⟨by (with_reducible repeat (first | refine blk_drewN ?_ _ | refine blk_drew ?_ | refine blk_alloc ?_ _)); exact BK288.out⟩, ⟨by (with_reducible repeat (first | refine blk_drewN ?_ _ | refine blk_drew ?_ | refine blk_alloc ?_ _)); exact BK289.out⟩, ⟨by (with_reducible repeat (first | refine blk_drewN ?_ _ | refine blk_drew ?_ | refine blk_alloc ?_ _)); exact BK290.out⟩, ⟨by (with_reducible repeat (first | refine blk_drewN ?_ _ | refine blk_drew ?_ | refine blk_alloc ?_ _)); exact BK291.out⟩, ⟨by repeat (first | (with_reducible first | exact HI0.out | apply IsS65.alloc | apply IsS65.drewN | apply IsS65.drew | apply IsS65.set_0 | apply IsS65.set_1 | apply IsS65.set_2 | apply IsS65.set_3 | apply IsS65.farb NB0_287.out | apply IsS65.farb NB0_288.out | apply IsS65.farb NB0_289.out | apply IsS65.farb NB0_290.out | apply IsS65.farb NB0_291.out) | exact HI0.out)⟩, ⟨by repeat (first | (with_reducible first | exact HK.out | apply KeepBut.set_ | apply keep_drewN | apply keep_drew | apply keep_alloc | refine keep_far ?_ GW287.out _ | refine keep_far ?_ GW288.out _ | refine keep_far ?_ GW289.out _ | refine keep_far ?_ GW290.out _ | refine keep_far ?_ GW291.out _) | exact HK.out)⟩, ⟨by repeat (first | (with_reducible first | exact HB.out | apply below_alloc | apply pw_below_drewN | apply below_drew1 | refine below_set ?_ (IsS65.ge HI0.out) | refine below_set ?_ GE287.out | refine below_set ?_ GE288.out | refine below_set ?_ GE289.out | refine below_set ?_ GE290.out | refine below_set ?_ GE291.out) | exact HB.out)⟩⟩
  case round =>
   clear H'
   try clear c1
   try clear c2
   try clear p2
   try clear c10
   try clear c11
   try clear c12
   try clear c13
   try clear c14
   try clear hcz15_0
   try clear hfz15_0
   obtain ⟨x17_1, x1000_1, x1001_1, x1002_1, x1003_1, x291000_1, x291001_1, x291002_1, x292000_1, x292001_1, x292002_1, rfl, HA, HK1, BK287, BK288, BK289, BK290, BK291, HI0, HK, HB⟩ := hrel
   cases gk with
   | zero => exact absurd HA.out (by simp [control_Steer_Step.l0])
   | succ k1 =>
    have H := HA.out
    clear HA
    simp only [control_Steer_Step.l0] at H
    by_cases c16 : x17_1 < 3
    ·rw [if_pos c16] at H
     have c16b0 : decide (x17_1 < 3) = true := decide_eq_true c16
     clear c16
     by_cases c17 : x17_1 = 0
     ·subst c17
      have H1 : (if a1_0 = true then ((control_Steer_place.f k1 x1000_1 x1001_1 x1002_1 x1003_1 a1_0 a1_1 a1_2 a2_0).bind fun bt293 => ((fix_Slew.f k1 x1001_1 bt293.1 x1000_1).bind fun t298 => ((fix_Sub.f k1 t298 a3_0).bind fun t299 => ((fix_Clamp.f t299 (-64) 64).bind fun t300 => (control_Steer_Step.l0 k1 1 x1000_1 t298 x1002_1 x1003_1 a2_0 a2_1 a2_2 a3_0 a3_1 a3_2 t300 x292001_1 x292002_1 a1_0 a1_1 a1_2 a1_3 a1_4 a1_5 a1_6 a1_7 a1_8))))) else ((control_Steer_drift.f x1000_1 x1001_1 x1002_1 x1003_1 a1_0 a1_1 a1_2 a2_0).bind fun bt301 => ((fix_Slew.f k1 x1001_1 bt301.1 x1000_1).bind fun t306 => ((fix_Sub.f k1 t306 a3_0).bind fun t307 => ((fix_Clamp.f t307 (-64) 64).bind fun t308 => (control_Steer_Step.l0 k1 1 x1000_1 t306 x1002_1 x1003_1 a2_0 a2_1 a2_2 a3_0 a3_1 a3_2 t308 x292001_1 x292002_1 a1_0 a1_1 a1_2 a1_3 a1_4 a1_5 a1_6 a1_7 a1_8)))))) = some (r1, r2, r3, r4, r5, r6, r7) := by rw [if_pos rfl] at H; exact H
      clear H
      have H := H1
      clear H1
      by_cases c18 : a1_0 = true
      ·subst c18
       have H1 : ((control_Steer_place.f k1 x1000_1 x1001_1 x1002_1 x1003_1 true a1_1 a1_2 a2_0).bind fun bt293 => ((fix_Slew.f k1 x1001_1 bt293.1 x1000_1).bind fun t298 => ((fix_Sub.f k1 t298 a3_0).bind fun t299 => ((fix_Clamp.f t299 (-64) 64).bind fun t300 => (control_Steer_Step.l0 k1 1 x1000_1 t298 x1002_1 x1003_1 a2_0 a2_1 a2_2 a3_0 a3_1 a3_2 t300 x292001_1 x292002_1 true a1_1 a1_2 a1_3 a1_4 a1_5 a1_6 a1_7 a1_8))))) = some (r1, r2, r3, r4, r5, r6, r7) := by rw [if_pos rfl] at H; exact H
       clear H
       have H := H1
       clear H1
       replace H := Option.bind_eq_some_iff.mp H
       obtain ⟨⟨t293, t294, t295, t296, t297⟩, A190, H⟩ := H
       replace H : ((fix_Slew.f k1 x1001_1 t293 x1000_1).bind fun t298 => ((fix_Sub.f k1 t298 a3_0).bind fun t299 => ((fix_Clamp.f t299 (-64) 64).bind fun t300 => (control_Steer_Step.l0 k1 1 x1000_1 t298 x1002_1 x1003_1 a2_0 a2_1 a2_2 a3_0 a3_1 a3_2 t300 x292001_1 x292002_1 true a1_1 a1_2 a1_3 a1_4 a1_5 a1_6 a1_7 a1_8)))) = some (r1, r2, r3, r4, r5, r6, r7) := H
       have A19 := Aside0.mk A190
       clear A190
       obtain ⟨E0_, E1_, E2_, E3_⟩ := control_Steer_place.same A19.out
       subst E0_
       subst E1_
       subst E2_
       subst E3_
       replace H := Option.bind_eq_some_iff.mp H
       obtain ⟨t298, A200, H⟩ := H
       replace H : ((fix_Sub.f k1 t298 a3_0).bind fun t299 => ((fix_Clamp.f t299 (-64) 64).bind fun t300 => (control_Steer_Step.l0 k1 1 x1000_1 t298 x1002_1 x1003_1 a2_0 a2_1 a2_2 a3_0 a3_1 a3_2 t300 x292001_1 x292002_1 true a1_1 a1_2 a1_3 a1_4 a1_5 a1_6 a1_7 a1_8))) = some (r1, r2, r3, r4, r5, r6, r7) := H
       have A20 := Aside0.mk A200
       clear A200
       replace H := Option.bind_eq_some_iff.mp H
       obtain ⟨t299, A210, H⟩ := H
       replace H : ((fix_Clamp.f t299 (-64) 64).bind fun t300 => (control_Steer_Step.l0 k1 1 x1000_1 t298 x1002_1 x1003_1 a2_0 a2_1 a2_2 a3_0 a3_1 a3_2 t300 x292001_1 x292002_1 true a1_1 a1_2 a1_3 a1_4 a1_5 a1_6 a1_7 a1_8)) = some (r1, r2, r3, r4, r5, r6, r7) := H
       have A21 := Aside0.mk A210
       clear A210
       replace H := Option.bind_eq_some_iff.mp H
       obtain ⟨t300, A220, H⟩ := H
       replace H : (control_Steer_Step.l0 k1 1 x1000_1 t298 x1002_1 x1003_1 a2_0 a2_1 a2_2 a3_0 a3_1 a3_2 t300 x292001_1 x292002_1 true a1_1 a1_2 a1_3 a1_4 a1_5 a1_6 a1_7 a1_8) = some (r1, r2, r3, r4, r5, r6, r7) := H
       have A22 := Aside0.mk A220
       clear A220
       have H' := Aside0.mk H
       clear H
       try go_wp2_with (first | ((with_reducible refine gate_dst (N := 11) rfl ?_); refine box_event ?hg (N := 11) ?hd (cs := #[.bool false, .int .i64 0, .int .i64 0]) (t := 41) ?hr ?_; (case hd => rfl); (case hg => rfl); (case hr => first | (go_simp; done) | (go_simp; rfl)); intro gb292 hg w23 hbox hb; have n0_ := Aside0.mk (blk_below BK287.out hb); have n1_ := Aside0.mk (blk_below BK288.out hb); have n2_ := Aside0.mk (blk_below BK289.out hb); have n3_ := Aside0.mk (blk_below BK290.out hb); have n4_ := Aside0.mk (blk_below BK291.out hb); have n5_ := Aside0.mk (IsS65.below HI0.out hb); have n6_ := Aside0.mk (KeepBut.trans HK.out (KeepBut.of_below hb g none) (.inl rfl)); have n7_ := Aside0.mk (below_step HB.out hb); have n8_ := Aside0.mk (hbox); have n9_ := Aside0.mk ((by rw [hg]; exact (keep_size (w := w) (g := g) (row := none) HK.out) : w.heap.size ≤ gb292)); have n10_ := Aside0.mk ((Nat.le_trans HW0.out (by rw [hg]; exact (keep_size (w := w) (g := g) (row := none) HK.out) : w.heap.size ≤ gb292) : w0.heap.size ≤ gb292)); have n11_ := Aside0.mk ((by rw [hg]; exact Nat.ne_of_lt (blk_lt BK287.out) : gb287 ≠ gb292)); have n12_ := Aside0.mk ((by rw [hg]; exact Nat.ne_of_gt (blk_lt BK287.out) : gb292 ≠ gb287)); have n13_ := Aside0.mk ((by rw [hg]; exact Nat.ne_of_lt (blk_lt BK288.out) : gb288 ≠ gb292)); have n14_ := Aside0.mk ((by rw [hg]; exact Nat.ne_of_gt (blk_lt BK288.out) : gb292 ≠ gb288)); have n15_ := Aside0.mk ((by rw [hg]; exact Nat.ne_of_lt (blk_lt BK289.out) : gb289 ≠ gb292)); have n16_ := Aside0.mk ((by rw [hg]; exact Nat.ne_of_gt (blk_lt BK289.out) : gb292 ≠ gb289)); have n17_ := Aside0.mk ((by rw [hg]; exact Nat.ne_of_lt (blk_lt BK290.out) : gb290 ≠ gb292)); have n18_ := Aside0.mk ((by rw [hg]; exact Nat.ne_of_gt (blk_lt BK290.out) : gb292 ≠ gb290)); have n19_ := Aside0.mk ((by rw [hg]; exact Nat.ne_of_lt (blk_lt BK291.out) : gb291 ≠ gb292)); have n20_ := Aside0.mk ((by rw [hg]; exact Nat.ne_of_gt (blk_lt BK291.out) : gb292 ≠ gb291)); have n21_ := Aside0.mk ((by rw [hg]; exact Nat.ne_of_lt (IsS65.lt HI0.out) : g ≠ gb292)); have n22_ := Aside0.mk ((by rw [hg]; exact Nat.ne_of_gt (IsS65.lt HI0.out) : gb292 ≠ g)); clear BK287; clear BK288; clear BK289; clear BK290; clear BK291; clear HI0; clear HK; clear HB; have BK287 := n0_; have BK288 := n1_; have BK289 := n2_; have BK290 := n3_; have BK291 := n4_; have HI0 := n5_; have HK := n6_; have HB := n7_; have BK292 := n8_; have GW292 := n9_; have GE292 := n10_; have NB287_292 := n11_; have NB292_287 := n12_; have NB288_292 := n13_; have NB292_288 := n14_; have NB289_292 := n15_; have NB292_289 := n16_; have NB290_292 := n17_; have NB292_290 := n18_; have NB291_292 := n19_; have NB292_291 := n20_; have NB0_292 := n21_; have NB292_0 := n22_; clear n0_ n1_ n2_ n3_ n4_ n5_ n6_ n7_ n8_ n9_ n10_ n11_ n12_ n13_ n14_ n15_ n16_ n17_ n18_ n19_ n20_ n21_ n22_; clear hb hbox hg; have hnb24 := NB292_287.out; have hnc24 := NB287_292.out; have hnb25 := NB292_288.out; have hnc25 := NB288_292.out; have hnb26 := NB292_289.out; have hnc26 := NB289_292.out; have hnb27 := NB292_290.out; have hnc27 := NB290_292.out; have hnb28 := NB292_291.out; have hnc28 := NB291_292.out; have hnb29 := NB292_0.out; have hnc29 := NB0_292.out; have hcz30_0 := blk_cells3 (w := w23) (g := gb292) BK292.out; have hfz30_0 := blk_frozen BK292.out))
       (repeat (rw [drewN_self w23]; generalize hq_ : World.drewN w23 _ = w23; have n0_ := Aside0.mk (blk_at hq_ BK287.out); have n1_ := Aside0.mk (blk_at hq_ BK288.out); have n2_ := Aside0.mk (blk_at hq_ BK289.out); have n3_ := Aside0.mk (blk_at hq_ BK290.out); have n4_ := Aside0.mk (blk_at hq_ BK291.out); have n5_ := Aside0.mk (blk_at hq_ BK292.out); have n6_ := Aside0.mk (IsS65.at_ hq_ HI0.out); have n7_ := Aside0.mk (keep_at hq_ HK.out); have n8_ := Aside0.mk (below_at hq_ HB.out); clear hq_ BK287 BK288 BK289 BK290 BK291 BK292 HI0 HK HB; have BK287 := n0_; have BK288 := n1_; have BK289 := n2_; have BK290 := n3_; have BK291 := n4_; have BK292 := n5_; have HI0 := n6_; have HK := n7_; have HB := n8_; clear n0_ n1_ n2_ n3_ n4_ n5_ n6_ n7_ n8_))
       obtain ⟨w31, hW_⟩ : ∃ W_, W_ = (((w23.setCell ⟨gb292, 0, none⟩ (.bool true)).setCell ⟨gb292, 1, none⟩ (.int .i64 a1_1)).setCell ⟨gb292, 2, none⟩ (.int .i64 a1_2)) := ⟨_, rfl⟩
       have n0_ : Aside0 (w31.heap[gb287]? = some (.cells #[.bool true, .int .i64 a1_1, .int .i64 a1_2, .bool a1_3, .int .i64 a1_4, .int .i64 a1_5, .bool a1_6, .int .i64 a1_7, .int .i64 a1_8] 42 (0, 0))) := ⟨by rw [hW_]; repeat (first | exact BK287.out | refine blk_far ?_ NB287_292.out _ | (with_reducible first | refine blk_drewN ?_ _ | refine blk_drew ?_ | refine blk_alloc ?_ _))⟩
       have n1_ : Aside0 (w31.heap[gb288]? = some (.cells #[.int .i64 a2_0, .int .i64 a2_1, .int .i64 a2_2] 37 (0, 0))) := ⟨by rw [hW_]; repeat (first | exact BK288.out | refine blk_far ?_ NB288_292.out _ | (with_reducible first | refine blk_drewN ?_ _ | refine blk_drew ?_ | refine blk_alloc ?_ _))⟩
       have n2_ : Aside0 (w31.heap[gb289]? = some (.cells #[.int .i64 a3_0, .int .i64 a3_1, .int .i64 a3_2] 37 (0, 0))) := ⟨by rw [hW_]; repeat (first | exact BK289.out | refine blk_far ?_ NB289_292.out _ | (with_reducible first | refine blk_drewN ?_ _ | refine blk_drew ?_ | refine blk_alloc ?_ _))⟩
       have n3_ : Aside0 (w31.heap[gb290]? = some (.cells #[.int .i64 x291000_1, .int .i64 x291001_1, .int .i64 x291002_1] 37 (0, 0))) := ⟨by rw [hW_]; repeat (first | exact BK290.out | refine blk_far ?_ NB290_292.out _ | (with_reducible first | refine blk_drewN ?_ _ | refine blk_drew ?_ | refine blk_alloc ?_ _))⟩
       have n4_ : Aside0 (w31.heap[gb291]? = some (.cells #[.int .i64 x292000_1, .int .i64 x292001_1, .int .i64 x292002_1] 37 (0, 0))) := ⟨by rw [hW_]; repeat (first | exact BK291.out | refine blk_far ?_ NB291_292.out _ | (with_reducible first | refine blk_drewN ?_ _ | refine blk_drew ?_ | refine blk_alloc ?_ _))⟩
       have n5_ : Aside0 (w31.heap[gb292]? = some (.cells #[.bool true, .int .i64 a1_1, .int .i64 a1_2] 41 (0, 0))) := ⟨by rw [hW_]; (with_reducible repeat (first | refine blk_drewN ?_ _ | refine blk_drew ?_ | refine blk_alloc ?_ _)); refine blk_put (cs := #[.bool true, .int .i64 a1_1, .int .i64 0]) ?_ 2 _ rfl; (with_reducible repeat (first | refine blk_drewN ?_ _ | refine blk_drew ?_ | refine blk_alloc ?_ _)); refine blk_put (cs := #[.bool true, .int .i64 0, .int .i64 0]) ?_ 1 _ rfl; (with_reducible repeat (first | refine blk_drewN ?_ _ | refine blk_drew ?_ | refine blk_alloc ?_ _)); refine blk_put (cs := #[.bool false, .int .i64 0, .int .i64 0]) ?_ 0 _ rfl; (with_reducible repeat (first | refine blk_drewN ?_ _ | refine blk_drew ?_ | refine blk_alloc ?_ _)); exact BK292.out⟩
       have n6_ : Aside0 (IsS65 w0 w31 g x1000_1 x1001_1 x1002_1 x1003_1) := ⟨by rw [hW_]; repeat (first | (with_reducible first | exact HI0.out | apply IsS65.alloc | apply IsS65.drewN | apply IsS65.drew | apply IsS65.set_0 | apply IsS65.set_1 | apply IsS65.set_2 | apply IsS65.set_3 | apply IsS65.farb NB0_287.out | apply IsS65.farb NB0_288.out | apply IsS65.farb NB0_289.out | apply IsS65.farb NB0_290.out | apply IsS65.farb NB0_291.out | apply IsS65.farb NB0_292.out) | exact HI0.out)⟩
       have n7_ : Aside0 (KeepBut w w31 g none) := ⟨by rw [hW_]; repeat (first | (with_reducible first | exact HK.out | apply KeepBut.set_ | apply keep_drewN | apply keep_drew | apply keep_alloc | refine keep_far ?_ GW287.out _ | refine keep_far ?_ GW288.out _ | refine keep_far ?_ GW289.out _ | refine keep_far ?_ GW290.out _ | refine keep_far ?_ GW291.out _ | refine keep_far ?_ GW292.out _) | exact HK.out)⟩
       have n8_ : Aside0 (Below w0.heap.size w0 w31) := ⟨by rw [hW_]; repeat (first | (with_reducible first | exact HB.out | apply below_alloc | apply pw_below_drewN | apply below_drew1 | refine below_set ?_ (IsS65.ge HI0.out) | refine below_set ?_ GE287.out | refine below_set ?_ GE288.out | refine below_set ?_ GE289.out | refine below_set ?_ GE290.out | refine below_set ?_ GE291.out | refine below_set ?_ GE292.out) | exact HB.out)⟩
       (try clear BK287)
       (try clear BK288)
       (try clear BK289)
       (try clear BK290)
       (try clear BK291)
       (try clear BK292)
       (try clear HI0)
       (try clear HK)
       (try clear HB)
       rw [← hW_]
       clear hW_
       have BK287 := n0_
       have BK288 := n1_
       have BK289 := n2_
       have BK290 := n3_
       have BK291 := n4_
       have BK292 := n5_
       have HI0 := n6_
       have HK := n7_
       have HB := n8_
       clear n0_ n1_ n2_ n3_ n4_ n5_ n6_ n7_ n8_
       have n0_ := Aside0.mk (blk_drew BK287.out)
       have n1_ := Aside0.mk (blk_drew BK288.out)
       have n2_ := Aside0.mk (blk_drew BK289.out)
       have n3_ := Aside0.mk (blk_drew BK290.out)
       have n4_ := Aside0.mk (blk_drew BK291.out)
       have n5_ := Aside0.mk (blk_drew BK292.out)
       have n6_ := Aside0.mk (IsS65.drew HI0.out)
       have n7_ := Aside0.mk (keep_drew HK.out)
       have n8_ := Aside0.mk (below_drew1 HB.out)
       clear BK287
       clear BK288
       clear BK289
       clear BK290
       clear BK291
       clear BK292
       clear HI0
       clear HK
       clear HB
       have BK287 := n0_
       have BK288 := n1_
       have BK289 := n2_
       have BK290 := n3_
       have BK291 := n4_
       have BK292 := n5_
       have HI0 := n6_
       have HK := n7_
       have HB := n8_
       clear n0_ n1_ n2_ n3_ n4_ n5_ n6_ n7_ n8_
       refine start_ (n := 24) (S := fun w' => w'.cell? ⟨g, 0, none⟩ = some (.int .i64 x1000_1) ∧ w'.cell? ⟨g, 1, none⟩ = some (.int .i64 x1001_1) ∧ w'.cell? ⟨g, 2, none⟩ = some (.int .i64 x1002_1) ∧ w'.cell? ⟨g, 3, none⟩ = some (.int .i64 x1003_1) ∧ w'.cell? ⟨gb292, 0, none⟩ = some (.bool true) ∧ w'.cell? ⟨gb292, 1, none⟩ = some (.int .i64 a1_1) ∧ w'.cell? ⟨gb292, 2, none⟩ = some (.int .i64 a1_2) ∧ w'.cell? ⟨gb288, 0, none⟩ = some (.int .i64 a2_0) ∧ w'.cell? ⟨gb288, 1, none⟩ = some (.int .i64 a2_1) ∧ w'.cell? ⟨gb288, 2, none⟩ = some (.int .i64 a2_2)) (ds := [23]) (lb_ 24 0) (by kernel_rfl) rfl rfl ⟨(cellS65_0 HI0.out.1), (cellS65_1 HI0.out.1), (cellS65_2 HI0.out.1), (cellS65_3 HI0.out.1), (blk_cell BK292.out 0).trans rfl, (blk_cell BK292.out 1).trans rfl, (blk_cell BK292.out 2).trans rfl, (blk_cell BK288.out 0).trans rfl, (blk_cell BK288.out 1).trans rfl, (blk_cell BK288.out 2).trans rfl⟩ (fun hHeld => ?_); refine with_tabW control_Steer_Step.tab10 control_Steer_Step.bits10 (fun HT_ HW_ => ?_)
       generalize w31.drew = w32 at BK287 BK288 BK289 BK290 BK291 BK292 HI0 HK HB hHeld ⊢
       refine pure_ (i := 0) (N := some 23) (v := ?_) (a' := ?_) (lb_ 24 1) rfl rfl (any_of HT_.out (by kernel_rfl)) (fun _ _ _ h => h) (Or.inl ⟨by rfl, ?_⟩) ?_ ?_; rotate_left; (intro w'; go_simp; with_reducible rfl); rotate_left; (simp only [Act.put, List.setIfInBounds_toArray, List.set_cons_zero, List.set_cons_succ, i64_w, i32_w]; rfl)
       refine pure_ (i := 1) (N := some 24) (v := ?_) (a' := ?_) (lb_ 24 3) rfl rfl (any_of HT_.out (by kernel_rfl)) (fun _ _ _ h => h) (Or.inl ⟨by rfl, ?_⟩) ?_ ?_; rotate_left; (intro w'; go_simp; with_reducible rfl); rotate_left; (simp only [Act.put, List.setIfInBounds_toArray, List.set_cons_zero, List.set_cons_succ, i64_w, i32_w]; rfl)
       refine pure_ (i := 2) (N := some 25) (v := ?_) (a' := ?_) (lb_ 24 7) rfl rfl (any_of HT_.out (by kernel_rfl)) (fun _ _ _ h => h) (Or.inl ⟨by rfl, ?_⟩) ?_ ?_; rotate_left; (intro w'; go_simp; with_reducible rfl); rotate_left; (simp only [Act.put, List.setIfInBounds_toArray, List.set_cons_zero, List.set_cons_succ, i64_w, i32_w]; rfl)
       refine pure_ (i := 3) (N := some 26) (v := ?_) (a' := ?_) (lb_ 24 15) rfl rfl (any_of HT_.out (by kernel_rfl)) (fun _ _ _ h => h) (Or.inl ⟨by rfl, ?_⟩) ?_ ?_; rotate_left; (intro w'; go_simp; with_reducible rfl); rotate_left; (simp only [Act.put, List.setIfInBounds_toArray, List.set_cons_zero, List.set_cons_succ, i64_w, i32_w]; rfl)
       refine pure_ (i := 4) (N := some 27) (v := ?_) (a' := ?_) (lb_ 24 31) rfl rfl (any_of HT_.out (by kernel_rfl)) (fun _ _ _ h => h) (Or.inl ⟨by rfl, ?_⟩) ?_ ?_; rotate_left; (intro w'; go_simp; with_reducible rfl); rotate_left; (simp only [Act.put, List.setIfInBounds_toArray, List.set_cons_zero, List.set_cons_succ, i64_w, i32_w]; rfl)
       refine pure_ (i := 5) (N := some 28) (v := ?_) (a' := ?_) (lb_ 24 63) rfl rfl (any_of HT_.out (by kernel_rfl)) (fun _ _ _ h => h) (Or.inl ⟨by rfl, ?_⟩) ?_ ?_; rotate_left; (intro w'; go_simp; with_reducible rfl); rotate_left; (simp only [Act.put, List.setIfInBounds_toArray, List.set_cons_zero, List.set_cons_succ, i64_w, i32_w]; rfl)
       refine pure_ (i := 6) (N := some 29) (v := ?_) (a' := ?_) (lb_ 24 127) rfl rfl (any_of HT_.out (by kernel_rfl)) (fun _ _ _ h => h) (Or.inl ⟨by rfl, ?_⟩) ?_ ?_; rotate_left; (intro w'; go_simp; with_reducible rfl); rotate_left; (simp only [Act.put, List.setIfInBounds_toArray, List.set_cons_zero, List.set_cons_succ, i64_w, i32_w]; rfl)
       refine pure_ (i := 8) (N := some 31) (v := ?_) (a' := ?_) (lb_ 24 383) rfl rfl (any_of HT_.out (by kernel_rfl)) (fun _ _ _ h => h) (Or.inl ⟨by rfl, ?_⟩) ?_ ?_; rotate_left; (intro w'; go_simp; with_reducible rfl); rotate_left; (simp only [Act.put, List.setIfInBounds_toArray, List.set_cons_zero, List.set_cons_succ, i64_w, i32_w]; rfl)
       refine pure_ (i := 9) (N := some 32) (v := ?_) (a' := ?_) (lb_ 24 895) rfl rfl (any_of HT_.out (by kernel_rfl)) (fun _ _ _ h => h) (Or.inl ⟨by rfl, ?_⟩) ?_ ?_; rotate_left; (intro w'; go_simp; with_reducible rfl); rotate_left; (simp only [Act.put, List.setIfInBounds_toArray, List.set_cons_zero, List.set_cons_succ, i64_w, i32_w]; rfl)
       refine pure_ (i := 11) (N := some 34) (v := ?_) (a' := ?_) (lb_ 24 2943) rfl rfl (any_of HT_.out (by kernel_rfl)) (fun _ _ _ h => h) (Or.inl ⟨by rfl, ?_⟩) ?_ ?_; rotate_left; (intro w'; go_simp; with_reducible rfl); rotate_left; (simp only [Act.put, List.setIfInBounds_toArray, List.set_cons_zero, List.set_cons_succ, i64_w, i32_w]; rfl)
       refine pure_ (i := 12) (N := some 35) (v := ?_) (a' := ?_) (lb_ 24 7039) rfl rfl (any_of HT_.out (by kernel_rfl)) (fun _ _ _ h => h) (Or.inl ⟨by rfl, ?_⟩) ?_ ?_; rotate_left; (intro w'; go_simp; with_reducible rfl); rotate_left; (simp only [Act.put, List.setIfInBounds_toArray, List.set_cons_zero, List.set_cons_succ, i64_w, i32_w]; rfl)
       refine pure_ (i := 15) (N := some 38) (v := ?_) (a' := ?_) (lb_ 24 39807) rfl rfl (any_of HT_.out (by kernel_rfl)) (fun _ _ _ h => h) (Or.inl ⟨by rfl, ?_⟩) ?_ ?_; rotate_left; (intro w'; go_simp; with_reducible rfl); rotate_left; (simp only [Act.put, List.setIfInBounds_toArray, List.set_cons_zero, List.set_cons_succ, i64_w, i32_w]; rfl)
       refine pure_ (i := 16) (N := some 39) (v := ?_) (a' := ?_) (lb_ 24 105343) rfl rfl (any_of HT_.out (by kernel_rfl)) (fun _ _ _ h => h) (Or.inl ⟨by rfl, ?_⟩) ?_ ?_; rotate_left; (intro w'; go_simp; with_reducible rfl); rotate_left; (simp only [Act.put, List.setIfInBounds_toArray, List.set_cons_zero, List.set_cons_succ, i64_w, i32_w]; rfl)
       refine pure_ (i := 17) (N := some 40) (v := ?_) (a' := ?_) (lb_ 24 236415) rfl rfl (any_of HT_.out (by kernel_rfl)) (fun _ _ _ h => h) (Or.inl ⟨by rfl, ?_⟩) ?_ ?_; rotate_left; (intro w'; go_simp; with_reducible rfl); rotate_left; (simp only [Act.put, List.setIfInBounds_toArray, List.set_cons_zero, List.set_cons_succ, i64_w, i32_w]; rfl)
       refine pure_ (i := 20) (N := some 43) (v := ?_) (a' := ?_) (lb_ 24 1284991) rfl rfl (any_of HT_.out (by kernel_rfl)) (fun _ _ _ h => h) (Or.inl ⟨by rfl, ?_⟩) ?_ ?_; rotate_left; (intro w'; go_simp; with_reducible rfl); rotate_left; (simp only [Act.put, List.setIfInBounds_toArray, List.set_cons_zero, List.set_cons_succ, i64_w, i32_w]; rfl)
       refine pure_ (i := 21) (N := some 44) (v := ?_) (a' := ?_) (lb_ 24 3382143) rfl rfl (any_of HT_.out (by kernel_rfl)) (fun _ _ _ h => h) (Or.inl ⟨by rfl, ?_⟩) ?_ ?_; rotate_left; (intro w'; go_simp; with_reducible rfl); rotate_left; (simp only [Act.put, List.setIfInBounds_toArray, List.set_cons_zero, List.set_cons_succ, i64_w, i32_w]; rfl)
       refine take_ (i := 7) (N := some 30) (v := ?_) (a' := ?_) (lb_ 24 3382271) rfl rfl (take_ofW HT_.out HW_.out (by kernel_rfl)) (fun _ _ _ h => h) (Or.inl ⟨by rfl, ?_⟩) hHeld ?_ ?_; rotate_left; (rintro w' ⟨s0, s1, s2, s3, s4, s5, s6, s7, s8, s9⟩; go_simp; with_reducible rfl); rotate_left; (simp only [Act.put, List.setIfInBounds_toArray, List.set_cons_zero, List.set_cons_succ, i64_w, i32_w]; rfl)
       refine take_ (i := 10) (N := some 33) (v := ?_) (a' := ?_) (lb_ 24 3383295) rfl rfl (take_ofW HT_.out HW_.out (by kernel_rfl)) (fun _ _ _ h => h) (Or.inl ⟨by rfl, ?_⟩) hHeld ?_ ?_; rotate_left; (rintro w' ⟨s0, s1, s2, s3, s4, s5, s6, s7, s8, s9⟩; go_simp; with_reducible rfl); rotate_left; (simp only [Act.put, List.setIfInBounds_toArray, List.set_cons_zero, List.set_cons_succ, i64_w, i32_w]; rfl)
       refine take_ (i := 13) (N := some 36) (v := ?_) (a' := ?_) (lb_ 24 3391487) rfl rfl (take_ofW HT_.out HW_.out (by kernel_rfl)) (fun _ _ _ h => h) (Or.inl ⟨by rfl, ?_⟩) hHeld ?_ ?_; rotate_left; (rintro w' ⟨s0, s1, s2, s3, s4, s5, s6, s7, s8, s9⟩; go_simp; with_reducible rfl); rotate_left; (simp only [Act.put, List.setIfInBounds_toArray, List.set_cons_zero, List.set_cons_succ, i64_w, i32_w]; rfl)
       refine take_ (i := 18) (N := some 41) (v := ?_) (a' := ?_) (lb_ 24 3653631) rfl rfl (take_ofW HT_.out HW_.out (by kernel_rfl)) (fun _ _ _ h => h) (Or.inl ⟨by rfl, ?_⟩) hHeld ?_ ?_; rotate_left; (rintro w' ⟨s0, s1, s2, s3, s4, s5, s6, s7, s8, s9⟩; go_simp; with_reducible rfl); rotate_left; (simp only [Act.put, List.setIfInBounds_toArray, List.set_cons_zero, List.set_cons_succ, i64_w, i32_w]; rfl)
       refine one_ (i := 14) (N := some 37) (lb_ 24 3670015) rfl rfl (one_of HT_.out (by kernel_rfl)) (by decide) (fun K hK => ?_)
       refine goesv_ Try.func40 (by kernel_rfl) rfl #[.pointer (some ⟨g, 0, none⟩), .agg #[.bool true, .int .i64 a1_1, .int .i64 a1_2], .int .i64 a2_0] (by rfl) rfl rfl rfl (by (try simp only [List.map_toArray, List.map_cons, List.map_nil]); first | done | rfl | (simp only [List.length_drop, List.length_take]; rfl)) ?_
       with_reducible refine (control_Steer_place.calls k1 g x1000_1 x1001_1 x1002_1 x1003_1 true a1_1 a1_2 a2_0 t293 x1000_1 x1001_1 x1002_1 x1003_1 w0 _ ?side1 ?side2 A19.out).mono ?_
       (case side1 => repeat (first | (with_reducible first | exact HI0.out | apply IsS65.alloc | apply IsS65.drewN | apply IsS65.drew | apply IsS65.set_0 | apply IsS65.set_1 | apply IsS65.set_2 | apply IsS65.set_3 | apply IsS65.farb NB0_287.out | apply IsS65.farb NB0_288.out | apply IsS65.farb NB0_289.out | apply IsS65.farb NB0_290.out | apply IsS65.farb NB0_291.out | apply IsS65.farb NB0_292.out) | exact HI0.out))
       (case side2 => repeat (first | (with_reducible first | exact HB.out | apply below_alloc | apply pw_below_drewN | apply below_drew1 | refine below_set ?_ (IsS65.ge HI0.out) | refine below_set ?_ GE287.out | refine below_set ?_ GE288.out | refine below_set ?_ GE289.out | refine below_set ?_ GE290.out | refine below_set ?_ GE291.out | refine below_set ?_ GE292.out) | exact HB.out))
       rintro e w33 ⟨rfl, hi, hb, hk⟩
       refine ⟨_, rfl, ?_⟩
       have n0_ := Aside0.mk (KeepBut.blk hk BK287.out NB287_0.out (by simp))
       have n1_ := Aside0.mk (KeepBut.blk hk BK288.out NB288_0.out (by simp))
       have n2_ := Aside0.mk (KeepBut.blk hk BK289.out NB289_0.out (by simp))
       have n3_ := Aside0.mk (KeepBut.blk hk BK290.out NB290_0.out (by simp))
       have n4_ := Aside0.mk (KeepBut.blk hk BK291.out NB291_0.out (by simp))
       have n5_ := Aside0.mk (KeepBut.blk hk BK292.out NB292_0.out (by simp))
       have n6_ := Aside0.mk (KeepBut.trans HK.out hk (.inl rfl))
       have n7_ := Aside0.mk (hb)
       have n8_ := Aside0.mk (hi)
       clear BK287
       clear BK288
       clear BK289
       clear BK290
       clear BK291
       clear BK292
       clear HK
       clear HB
       clear HI0
       have BK287 := n0_
       have BK288 := n1_
       have BK289 := n2_
       have BK290 := n3_
       have BK291 := n4_
       have BK292 := n5_
       have HK := n6_
       have HB := n7_
       have HI0 := n8_
       clear n0_ n1_ n2_ n3_ n4_ n5_ n6_ n7_ n8_
       (try clear hb)
       (try clear hb2)
       (try clear hk)
       (try clear hi)
       refine hK.out _ _ ⟨(cellS65_0 HI0.out.1), (cellS65_1 HI0.out.1), (cellS65_2 HI0.out.1), (cellS65_3 HI0.out.1), (blk_cell BK292.out 0).trans rfl, (blk_cell BK292.out 1).trans rfl, (blk_cell BK292.out 2).trans rfl, (blk_cell BK288.out 0).trans rfl, (blk_cell BK288.out 1).trans rfl, (blk_cell BK288.out 2).trans rfl⟩ (fun hHeld => ?_)
       clear hK K
       refine norm_ (a' := ?_) ?_ ?_
       rotate_left
       ·show Act.put _ (some 37) _ = _
        simp only [Act.put, List.setIfInBounds_toArray, List.set_cons_zero, List.set_cons_succ, i64_w, i32_w]
        rfl
       refine one_ (i := 19) (N := some 42) (lb_ 24 4194303) rfl rfl (one_of HT_.out (by kernel_rfl)) (by decide) (fun K hK => ?_)
       refine goes_ Try.func41 (by kernel_rfl) rfl #[.int .i64 x1001_1, .int .i64 t293, .int .i64 x1000_1] (by rfl) rfl rfl (by (try simp only [List.map_toArray, List.map_cons, List.map_nil]); first | done | rfl | (simp only [List.length_drop, List.length_take]; rfl)) ?_
       with_reducible refine (fix_Slew.calls k1 x1001_1 t293 x1000_1 t298 _ A20.out).mono ?_
       rintro e w34 ⟨rfl, hb⟩
       refine ⟨_, rfl, ?_⟩
       have n0_ := Aside0.mk (blk_below BK287.out hb)
       have n1_ := Aside0.mk (blk_below BK288.out hb)
       have n2_ := Aside0.mk (blk_below BK289.out hb)
       have n3_ := Aside0.mk (blk_below BK290.out hb)
       have n4_ := Aside0.mk (blk_below BK291.out hb)
       have n5_ := Aside0.mk (IsS65.below HI0.out hb)
       have n6_ := Aside0.mk (blk_below BK292.out hb)
       have n7_ := Aside0.mk (KeepBut.trans HK.out (KeepBut.of_below hb g none) (.inl rfl))
       have n8_ := Aside0.mk (below_step HB.out hb)
       clear BK287
       clear BK288
       clear BK289
       clear BK290
       clear BK291
       clear HI0
       clear BK292
       clear HK
       clear HB
       have BK287 := n0_
       have BK288 := n1_
       have BK289 := n2_
       have BK290 := n3_
       have BK291 := n4_
       have HI0 := n5_
       have BK292 := n6_
       have HK := n7_
       have HB := n8_
       clear n0_ n1_ n2_ n3_ n4_ n5_ n6_ n7_ n8_
       (try clear hb)
       (try clear hb2)
       (try clear hk)
       (try clear hi)
       refine hK.out _ _ ⟨(cellS65_0 HI0.out.1), (cellS65_1 HI0.out.1), (cellS65_2 HI0.out.1), (cellS65_3 HI0.out.1), (blk_cell BK292.out 0).trans rfl, (blk_cell BK292.out 1).trans rfl, (blk_cell BK292.out 2).trans rfl, (blk_cell BK288.out 0).trans rfl, (blk_cell BK288.out 1).trans rfl, (blk_cell BK288.out 2).trans rfl⟩ (fun hHeld => ?_)
       clear hK K
       refine norm_ (a' := ?_) ?_ ?_
       rotate_left
       ·show Act.put _ (some 42) _ = _
        simp only [Act.put, List.setIfInBounds_toArray, List.set_cons_zero, List.set_cons_succ, i64_w, i32_w]
        rfl
       refine pure_ (i := 22) (N := some 45) (v := ?_) (a' := ?_) (lb_ 24 8388607) rfl rfl (any_of HT_.out (by kernel_rfl)) (fun _ _ _ h => h) (Or.inl ⟨by rfl, ?_⟩) ?_ ?_; rotate_left; (intro w'; go_simp; with_reducible rfl); rotate_left; (simp only [Act.put, List.setIfInBounds_toArray, List.set_cons_zero, List.set_cons_succ, i64_w, i32_w]; rfl)
       refine last_ (i := 23) (N := none) (lb_ 24 16777215) rfl rfl (one_of HT_.out (by kernel_rfl)) (by decide) (fun K hK => ?_)
       have hs35 := cellS65_1 HI0.out.1
       have hfs35 := blk_frozen HI0.out.1 1
       have hns35_0 := NB287_0.out
       have hns35_1 := NB288_0.out
       have hns35_2 := NB289_0.out
       have hns35_3 := NB290_0.out
       have hns35_4 := NB291_0.out
       have hns35_5 := NB292_0.out
       have hms35_0 := NB0_287.out
       have hms35_1 := NB0_288.out
       have hms35_2 := NB0_289.out
       have hms35_3 := NB0_290.out
       have hms35_4 := NB0_291.out
       have hms35_5 := NB0_292.out
       refine skip_ (w1 := ?_) (by rfl) rfl ?_ ?_
       rotate_left
       ·go_simp
        rfl
       refine hK.out _ _ ?_
       clear hK K
       refine done_ (done_of HT_.out (by kernel_rfl)) ?_
       try go_wp2
       (repeat (rw [drewN_self w34]; generalize hq_ : World.drewN w34 _ = w34; have n0_ := Aside0.mk (blk_at hq_ BK287.out); have n1_ := Aside0.mk (blk_at hq_ BK288.out); have n2_ := Aside0.mk (blk_at hq_ BK289.out); have n3_ := Aside0.mk (blk_at hq_ BK290.out); have n4_ := Aside0.mk (blk_at hq_ BK291.out); have n5_ := Aside0.mk (blk_at hq_ BK292.out); have n6_ := Aside0.mk (IsS65.at_ hq_ HI0.out); have n7_ := Aside0.mk (keep_at hq_ HK.out); have n8_ := Aside0.mk (below_at hq_ HB.out); clear hq_ BK287 BK288 BK289 BK290 BK291 BK292 HI0 HK HB; have BK287 := n0_; have BK288 := n1_; have BK289 := n2_; have BK290 := n3_; have BK291 := n4_; have BK292 := n5_; have HI0 := n6_; have HK := n7_; have HB := n8_; clear n0_ n1_ n2_ n3_ n4_ n5_ n6_ n7_ n8_))
       obtain ⟨w36, hW_⟩ : ∃ W_, W_ = (w34.setCell ⟨g, 1, none⟩ (.int .i64 t298)) := ⟨_, rfl⟩
       have n0_ : Aside0 (w36.heap[gb287]? = some (.cells #[.bool true, .int .i64 a1_1, .int .i64 a1_2, .bool a1_3, .int .i64 a1_4, .int .i64 a1_5, .bool a1_6, .int .i64 a1_7, .int .i64 a1_8] 42 (0, 0))) := ⟨by rw [hW_]; repeat (first | exact BK287.out | refine blk_far ?_ NB287_0.out _ | (with_reducible first | refine blk_drewN ?_ _ | refine blk_drew ?_ | refine blk_alloc ?_ _))⟩
       have n1_ : Aside0 (w36.heap[gb288]? = some (.cells #[.int .i64 a2_0, .int .i64 a2_1, .int .i64 a2_2] 37 (0, 0))) := ⟨by rw [hW_]; repeat (first | exact BK288.out | refine blk_far ?_ NB288_0.out _ | (with_reducible first | refine blk_drewN ?_ _ | refine blk_drew ?_ | refine blk_alloc ?_ _))⟩
       have n2_ : Aside0 (w36.heap[gb289]? = some (.cells #[.int .i64 a3_0, .int .i64 a3_1, .int .i64 a3_2] 37 (0, 0))) := ⟨by rw [hW_]; repeat (first | exact BK289.out | refine blk_far ?_ NB289_0.out _ | (with_reducible first | refine blk_drewN ?_ _ | refine blk_drew ?_ | refine blk_alloc ?_ _))⟩
       have n3_ : Aside0 (w36.heap[gb290]? = some (.cells #[.int .i64 x291000_1, .int .i64 x291001_1, .int .i64 x291002_1] 37 (0, 0))) := ⟨by rw [hW_]; repeat (first | exact BK290.out | refine blk_far ?_ NB290_0.out _ | (with_reducible first | refine blk_drewN ?_ _ | refine blk_drew ?_ | refine blk_alloc ?_ _))⟩
       have n4_ : Aside0 (w36.heap[gb291]? = some (.cells #[.int .i64 x292000_1, .int .i64 x292001_1, .int .i64 x292002_1] 37 (0, 0))) := ⟨by rw [hW_]; repeat (first | exact BK291.out | refine blk_far ?_ NB291_0.out _ | (with_reducible first | refine blk_drewN ?_ _ | refine blk_drew ?_ | refine blk_alloc ?_ _))⟩
       have n5_ : Aside0 (w36.heap[gb292]? = some (.cells #[.bool true, .int .i64 a1_1, .int .i64 a1_2] 41 (0, 0))) := ⟨by rw [hW_]; repeat (first | exact BK292.out | refine blk_far ?_ NB292_0.out _ | (with_reducible first | refine blk_drewN ?_ _ | refine blk_drew ?_ | refine blk_alloc ?_ _))⟩
       have n6_ : Aside0 (IsS65 w0 w36 g x1000_1 t298 x1002_1 x1003_1) := ⟨by rw [hW_]; repeat (first | (with_reducible first | exact HI0.out | apply IsS65.alloc | apply IsS65.drewN | apply IsS65.drew | apply IsS65.set_0 | apply IsS65.set_1 | apply IsS65.set_2 | apply IsS65.set_3 | apply IsS65.farb NB0_287.out | apply IsS65.farb NB0_288.out | apply IsS65.farb NB0_289.out | apply IsS65.farb NB0_290.out | apply IsS65.farb NB0_291.out | apply IsS65.farb NB0_292.out) | exact HI0.out)⟩
       have n7_ : Aside0 (KeepBut w w36 g none) := ⟨by rw [hW_]; repeat (first | (with_reducible first | exact HK.out | apply KeepBut.set_ | apply keep_drewN | apply keep_drew | apply keep_alloc | refine keep_far ?_ GW287.out _ | refine keep_far ?_ GW288.out _ | refine keep_far ?_ GW289.out _ | refine keep_far ?_ GW290.out _ | refine keep_far ?_ GW291.out _ | refine keep_far ?_ GW292.out _) | exact HK.out)⟩
       have n8_ : Aside0 (Below w0.heap.size w0 w36) := ⟨by rw [hW_]; repeat (first | (with_reducible first | exact HB.out | apply below_alloc | apply pw_below_drewN | apply below_drew1 | refine below_set ?_ (IsS65.ge HI0.out) | refine below_set ?_ GE287.out | refine below_set ?_ GE288.out | refine below_set ?_ GE289.out | refine below_set ?_ GE290.out | refine below_set ?_ GE291.out | refine below_set ?_ GE292.out) | exact HB.out)⟩
       (try clear BK287)
       (try clear BK288)
       (try clear BK289)
       (try clear BK290)
       (try clear BK291)
       (try clear BK292)
       (try clear HI0)
       (try clear HK)
       (try clear HB)
       rw [← hW_]
       clear hW_
       have BK287 := n0_
       have BK288 := n1_
       have BK289 := n2_
       have BK290 := n3_
       have BK291 := n4_
       have BK292 := n5_
       have HI0 := n6_
       have HK := n7_
       have HB := n8_
       clear n0_ n1_ n2_ n3_ n4_ n5_ n6_ n7_ n8_
       have n0_ := Aside0.mk (blk_drew BK287.out)
       have n1_ := Aside0.mk (blk_drew BK288.out)
       have n2_ := Aside0.mk (blk_drew BK289.out)
       have n3_ := Aside0.mk (blk_drew BK290.out)
       have n4_ := Aside0.mk (blk_drew BK291.out)
       have n5_ := Aside0.mk (blk_drew BK292.out)
       have n6_ := Aside0.mk (IsS65.drew HI0.out)
       have n7_ := Aside0.mk (keep_drew HK.out)
       have n8_ := Aside0.mk (below_drew1 HB.out)
       clear BK287
       clear BK288
       clear BK289
       clear BK290
       clear BK291
       clear BK292
       clear HI0
       clear HK
       clear HB
       have BK287 := n0_
       have BK288 := n1_
       have BK289 := n2_
       have BK290 := n3_
       have BK291 := n4_
       have BK292 := n5_
       have HI0 := n6_
       have HK := n7_
       have HB := n8_
       clear n0_ n1_ n2_ n3_ n4_ n5_ n6_ n7_ n8_
       refine start_ (n := 14) (S := fun w' => w'.cell? ⟨g, 0, none⟩ = some (.int .i64 x1000_1) ∧ w'.cell? ⟨g, 1, none⟩ = some (.int .i64 t298) ∧ w'.cell? ⟨g, 2, none⟩ = some (.int .i64 x1002_1) ∧ w'.cell? ⟨g, 3, none⟩ = some (.int .i64 x1003_1) ∧ w'.cell? ⟨gb289, 0, none⟩ = some (.int .i64 a3_0) ∧ w'.cell? ⟨gb289, 1, none⟩ = some (.int .i64 a3_1) ∧ w'.cell? ⟨gb289, 2, none⟩ = some (.int .i64 a3_2)) (ds := []) (lb_ 14 0) (by kernel_rfl) rfl rfl ⟨(cellS65_0 HI0.out.1), (cellS65_1 HI0.out.1), (cellS65_2 HI0.out.1), (cellS65_3 HI0.out.1), (blk_cell BK289.out 0).trans rfl, (blk_cell BK289.out 1).trans rfl, (blk_cell BK289.out 2).trans rfl⟩ (fun hHeld => ?_); refine with_tabW control_Steer_Step.tab11 control_Steer_Step.bits11 (fun HT_ HW_ => ?_)
       generalize w36.drew = w37 at BK287 BK288 BK289 BK290 BK291 BK292 HI0 HK HB hHeld ⊢
       refine pure_ (i := 0) (N := some 46) (v := ?_) (a' := ?_) (lb_ 14 1) rfl rfl (any_of HT_.out (by kernel_rfl)) (fun _ _ _ h => h) (Or.inl ⟨by rfl, ?_⟩) ?_ ?_; rotate_left; (intro w'; go_simp; with_reducible rfl); rotate_left; (simp only [Act.put, List.setIfInBounds_toArray, List.set_cons_zero, List.set_cons_succ, i64_w, i32_w]; rfl)
       refine pure_ (i := 1) (N := some 47) (v := ?_) (a' := ?_) (lb_ 14 3) rfl rfl (any_of HT_.out (by kernel_rfl)) (fun _ _ _ h => h) (Or.inl ⟨by rfl, ?_⟩) ?_ ?_; rotate_left; (intro w'; go_simp; with_reducible rfl); rotate_left; (simp only [Act.put, List.setIfInBounds_toArray, List.set_cons_zero, List.set_cons_succ, i64_w, i32_w]; rfl)
       refine pure_ (i := 2) (N := some 48) (v := ?_) (a' := ?_) (lb_ 14 7) rfl rfl (any_of HT_.out (by kernel_rfl)) (fun _ _ _ h => h) (Or.inl ⟨by rfl, ?_⟩) ?_ ?_; rotate_left; (intro w'; go_simp; with_reducible rfl); rotate_left; (simp only [Act.put, List.setIfInBounds_toArray, List.set_cons_zero, List.set_cons_succ, i64_w, i32_w]; rfl)
       refine pure_ (i := 3) (N := some 49) (v := ?_) (a' := ?_) (lb_ 14 15) rfl rfl (any_of HT_.out (by kernel_rfl)) (fun _ _ _ h => h) (Or.inl ⟨by rfl, ?_⟩) ?_ ?_; rotate_left; (intro w'; go_simp; with_reducible rfl); rotate_left; (simp only [Act.put, List.setIfInBounds_toArray, List.set_cons_zero, List.set_cons_succ, i64_w, i32_w]; rfl)
       refine pure_ (i := 4) (N := some 50) (v := ?_) (a' := ?_) (lb_ 14 31) rfl rfl (any_of HT_.out (by kernel_rfl)) (fun _ _ _ h => h) (Or.inl ⟨by rfl, ?_⟩) ?_ ?_; rotate_left; (intro w'; go_simp; with_reducible rfl); rotate_left; (simp only [Act.put, List.setIfInBounds_toArray, List.set_cons_zero, List.set_cons_succ, i64_w, i32_w]; rfl)
       refine pure_ (i := 5) (N := some 51) (v := ?_) (a' := ?_) (lb_ 14 63) rfl rfl (any_of HT_.out (by kernel_rfl)) (fun _ _ _ h => h) (Or.inl ⟨by rfl, ?_⟩) ?_ ?_; rotate_left; (intro w'; go_simp; with_reducible rfl); rotate_left; (simp only [Act.put, List.setIfInBounds_toArray, List.set_cons_zero, List.set_cons_succ, i64_w, i32_w]; rfl)
       refine pure_ (i := 7) (N := some 53) (v := ?_) (a' := ?_) (lb_ 14 191) rfl rfl (any_of HT_.out (by kernel_rfl)) (fun _ _ _ h => h) (Or.inl ⟨by rfl, ?_⟩) ?_ ?_; rotate_left; (intro w'; go_simp; with_reducible rfl); rotate_left; (simp only [Act.put, List.setIfInBounds_toArray, List.set_cons_zero, List.set_cons_succ, i64_w, i32_w]; rfl)
       refine pure_ (i := 8) (N := some 54) (v := ?_) (a' := ?_) (lb_ 14 447) rfl rfl (any_of HT_.out (by kernel_rfl)) (fun _ _ _ h => h) (Or.inl ⟨by rfl, ?_⟩) ?_ ?_; rotate_left; (intro w'; go_simp; with_reducible rfl); rotate_left; (simp only [Act.put, List.setIfInBounds_toArray, List.set_cons_zero, List.set_cons_succ, i64_w, i32_w]; rfl)
       refine take_ (i := 6) (N := some 52) (v := ?_) (a' := ?_) (lb_ 14 511) rfl rfl (take_ofW HT_.out HW_.out (by kernel_rfl)) (fun _ _ _ h => h) (Or.inl ⟨by rfl, ?_⟩) hHeld ?_ ?_; rotate_left; (rintro w' ⟨s0, s1, s2, s3, s4, s5, s6⟩; go_simp; with_reducible rfl); rotate_left; (simp only [Act.put, List.setIfInBounds_toArray, List.set_cons_zero, List.set_cons_succ, i64_w, i32_w]; rfl)
       refine take_ (i := 9) (N := some 55) (v := ?_) (a' := ?_) (lb_ 14 1023) rfl rfl (take_ofW HT_.out HW_.out (by kernel_rfl)) (fun _ _ _ h => h) (Or.inl ⟨by rfl, ?_⟩) hHeld ?_ ?_; rotate_left; (rintro w' ⟨s0, s1, s2, s3, s4, s5, s6⟩; go_simp; with_reducible rfl); rotate_left; (simp only [Act.put, List.setIfInBounds_toArray, List.set_cons_zero, List.set_cons_succ, i64_w, i32_w]; rfl)
       refine one_ (i := 10) (N := some 56) (lb_ 14 2047) rfl rfl (one_of HT_.out (by kernel_rfl)) (by decide) (fun K hK => ?_)
       refine goes_ Try.func27 (by kernel_rfl) rfl #[.int .i64 t298, .int .i64 a3_0] (by rfl) rfl rfl (by (try simp only [List.map_toArray, List.map_cons, List.map_nil]); first | done | rfl | (simp only [List.length_drop, List.length_take]; rfl)) ?_
       with_reducible refine (fix_Sub.calls k1 t298 a3_0 t299 _ A21.out).mono ?_
       rintro e w' ⟨rfl, ⟨nd, rfl⟩⟩
       refine ⟨_, rfl, ?_⟩
       refine hK.out _ _ ⟨(cellS65_0 HI0.out.1), (cellS65_1 HI0.out.1), (cellS65_2 HI0.out.1), (cellS65_3 HI0.out.1), (blk_cell BK289.out 0).trans rfl, (blk_cell BK289.out 1).trans rfl, (blk_cell BK289.out 2).trans rfl⟩ (fun hHeld => ?_)
       clear hK K
       refine norm_ (a' := ?_) ?_ ?_
       rotate_left
       ·show Act.put _ (some 56) _ = _
        simp only [Act.put, List.setIfInBounds_toArray, List.set_cons_zero, List.set_cons_succ, i64_w, i32_w]
        rfl
       refine one_ (i := 11) (N := some 57) (lb_ 14 4095) rfl rfl (one_of HT_.out (by kernel_rfl)) (by decide) (fun K hK => ?_)
       refine goes_ Try.func33 (by kernel_rfl) rfl #[.int .i64 t299, .int .i64 (-64), .int .i64 64] (by rfl) rfl rfl (by (try simp only [List.map_toArray, List.map_cons, List.map_nil]); first | done | rfl | (simp only [List.length_drop, List.length_take]; rfl)) ?_
       with_reducible refine (fix_Clamp.calls t299 (-64) 64 t300 _ A22.out).mono ?_
       rintro e w' ⟨rfl, ⟨nd, rfl⟩⟩
       refine ⟨_, rfl, ?_⟩
       refine hK.out _ _ ⟨(cellS65_0 HI0.out.1), (cellS65_1 HI0.out.1), (cellS65_2 HI0.out.1), (cellS65_3 HI0.out.1), (blk_cell BK289.out 0).trans rfl, (blk_cell BK289.out 1).trans rfl, (blk_cell BK289.out 2).trans rfl⟩ (fun hHeld => ?_)
       clear hK K
       refine norm_ (a' := ?_) ?_ ?_
       rotate_left
       ·show Act.put _ (some 57) _ = _
        simp only [Act.put, List.setIfInBounds_toArray, List.set_cons_zero, List.set_cons_succ, i64_w, i32_w]
        rfl
       refine pure_ (i := 12) (N := some 58) (v := ?_) (a' := ?_) (lb_ 14 8191) rfl rfl (any_of HT_.out (by kernel_rfl)) (fun _ _ _ h => h) (Or.inl ⟨by rfl, ?_⟩) ?_ ?_; rotate_left; (intro w'; go_simp; with_reducible rfl); rotate_left; (simp only [Act.put, List.setIfInBounds_toArray, List.set_cons_zero, List.set_cons_succ, i64_w, i32_w]; rfl)
       refine one_ (i := 13) (N := none) (lb_ 14 16383) rfl rfl (one_of HT_.out (by kernel_rfl)) (by decide) (fun K hK => ?_)
       have hs38 : w37.cell? ⟨gb291, 0, none⟩ = some (.int .i64 x292000_1) := (blk_cell BK291.out 0).trans rfl
       have hfs38 := blk_frozen BK291.out 0
       have hns38_0 := NB287_291.out
       have hns38_1 := NB288_291.out
       have hns38_2 := NB289_291.out
       have hns38_3 := NB290_291.out
       have hns38_5 := NB292_291.out
       have hms38_0 := NB291_287.out
       have hms38_1 := NB291_288.out
       have hms38_2 := NB291_289.out
       have hms38_3 := NB291_290.out
       have hms38_5 := NB291_292.out
       refine skip_ (w1 := ?_) (by rfl) rfl ?_ ?_
       rotate_left
       ·go_simp
        rfl
       refine hK.out _ _ ⟨((cell_far (p := ⟨gb291, _, none⟩) NB0_291.out _).trans (hHeld.1)), ((cell_far (p := ⟨gb291, _, none⟩) NB0_291.out _).trans (hHeld.2.1)), ((cell_far (p := ⟨gb291, _, none⟩) NB0_291.out _).trans (hHeld.2.2.1)), ((cell_far (p := ⟨gb291, _, none⟩) NB0_291.out _).trans (hHeld.2.2.2.1)), ((cell_far (p := ⟨gb291, _, none⟩) NB289_291.out _).trans (hHeld.2.2.2.2.1)), ((cell_far (p := ⟨gb291, _, none⟩) NB289_291.out _).trans (hHeld.2.2.2.2.2.1)), ((cell_far (p := ⟨gb291, _, none⟩) NB289_291.out _).trans (hHeld.2.2.2.2.2.2))⟩ (fun hHeld => ?_)
       clear hK K
       refine done_ (done_of HT_.out (by kernel_rfl)) ?_
       try go_wp2
       go_roundg k1
       case measure => have := HK1.out; omega
       case rel => exact ⟨(1), (x1000_1), (t298), (x1002_1), (x1003_1), (x291000_1), (x291001_1), (x291002_1), (t300), (x292001_1), (x292002_1), (by first | rfl | (simp; done) | (simp [*]; done)), H', ⟨by have := HK1.out; omega⟩, ⟨by (with_reducible repeat (first | refine blk_drewN ?_ _ | refine blk_drew ?_ | refine blk_alloc ?_ _)); refine blk_far ?_ NB287_291.out _; (with_reducible repeat (first | refine blk_drewN ?_ _ | refine blk_drew ?_ | refine blk_alloc ?_ _)); exact BK287.out⟩, ⟨by (with_reducible repeat (first | refine blk_drewN ?_ _ | refine blk_drew ?_ | refine blk_alloc ?_ _)); refine blk_far ?_ NB288_291.out _; (with_reducible repeat (first | refine blk_drewN ?_ _ | refine blk_drew ?_ | refine blk_alloc ?_ _)); exact BK288.out⟩, ⟨by (with_reducible repeat (first | refine blk_drewN ?_ _ | refine blk_drew ?_ | refine blk_alloc ?_ _)); refine blk_far ?_ NB289_291.out _; (with_reducible repeat (first | refine blk_drewN ?_ _ | refine blk_drew ?_ | refine blk_alloc ?_ _)); exact BK289.out⟩, ⟨by (with_reducible repeat (first | refine blk_drewN ?_ _ | refine blk_drew ?_ | refine blk_alloc ?_ _)); refine blk_far ?_ NB290_291.out _; (with_reducible repeat (first | refine blk_drewN ?_ _ | refine blk_drew ?_ | refine blk_alloc ?_ _)); exact BK290.out⟩, ⟨by (with_reducible repeat (first | refine blk_drewN ?_ _ | refine blk_drew ?_ | refine blk_alloc ?_ _)); refine blk_put (cs := #[.int .i64 x292000_1, .int .i64 x292001_1, .int .i64 x292002_1]) ?_ 0 _ rfl; (with_reducible repeat (first | refine blk_drewN ?_ _ | refine blk_drew ?_ | refine blk_alloc ?_ _)); exact BK291.out⟩, ⟨by repeat (first | (with_reducible first | exact HI0.out | apply IsS65.alloc | apply IsS65.drewN | apply IsS65.drew | apply IsS65.set_0 | apply IsS65.set_1 | apply IsS65.set_2 | apply IsS65.set_3 | apply IsS65.farb NB0_287.out | apply IsS65.farb NB0_288.out | apply IsS65.farb NB0_289.out | apply IsS65.farb NB0_290.out | apply IsS65.farb NB0_291.out | apply IsS65.farb NB0_292.out) | exact HI0.out)⟩, ⟨by repeat (first | (with_reducible first | exact HK.out | apply KeepBut.set_ | apply keep_drewN | apply keep_drew | apply keep_alloc | refine keep_far ?_ GW287.out _ | refine keep_far ?_ GW288.out _ | refine keep_far ?_ GW289.out _ | refine keep_far ?_ GW290.out _ | refine keep_far ?_ GW291.out _ | refine keep_far ?_ GW292.out _) | exact HK.out)⟩, ⟨by repeat (first | (with_reducible first | exact HB.out | apply below_alloc | apply pw_below_drewN | apply below_drew1 | refine below_set ?_ (IsS65.ge HI0.out) | refine below_set ?_ GE287.out | refine below_set ?_ GE288.out | refine below_set ?_ GE289.out | refine below_set ?_ GE290.out | refine below_set ?_ GE291.out | refine below_set ?_ GE292.out) | exact HB.out)⟩⟩
      ·replace c18 := Bool.eq_false_iff.mpr c18
       subst c18
       have H1 : ((control_Steer_drift.f x1000_1 x1001_1 x1002_1 x1003_1 false a1_1 a1_2 a2_0).bind fun bt301 => ((fix_Slew.f k1 x1001_1 bt301.1 x1000_1).bind fun t306 => ((fix_Sub.f k1 t306 a3_0).bind fun t307 => ((fix_Clamp.f t307 (-64) 64).bind fun t308 => (control_Steer_Step.l0 k1 1 x1000_1 t306 x1002_1 x1003_1 a2_0 a2_1 a2_2 a3_0 a3_1 a3_2 t308 x292001_1 x292002_1 false a1_1 a1_2 a1_3 a1_4 a1_5 a1_6 a1_7 a1_8))))) = some (r1, r2, r3, r4, r5, r6, r7) := by rw [if_neg (show ¬ (false = true) by decide)] at H; exact H
       clear H
       have H := H1
       clear H1
       replace H := Option.bind_eq_some_iff.mp H
       obtain ⟨⟨t301, t302, t303, t304, t305⟩, A390, H⟩ := H
       replace H : ((fix_Slew.f k1 x1001_1 t301 x1000_1).bind fun t306 => ((fix_Sub.f k1 t306 a3_0).bind fun t307 => ((fix_Clamp.f t307 (-64) 64).bind fun t308 => (control_Steer_Step.l0 k1 1 x1000_1 t306 x1002_1 x1003_1 a2_0 a2_1 a2_2 a3_0 a3_1 a3_2 t308 x292001_1 x292002_1 false a1_1 a1_2 a1_3 a1_4 a1_5 a1_6 a1_7 a1_8)))) = some (r1, r2, r3, r4, r5, r6, r7) := H
       have A39 := Aside0.mk A390
       clear A390
       obtain ⟨E0_, E1_, E2_, E3_⟩ := control_Steer_drift.same A39.out
       subst E0_
       subst E1_
       subst E2_
       subst E3_
       replace H := Option.bind_eq_some_iff.mp H
       obtain ⟨t306, A400, H⟩ := H
       replace H : ((fix_Sub.f k1 t306 a3_0).bind fun t307 => ((fix_Clamp.f t307 (-64) 64).bind fun t308 => (control_Steer_Step.l0 k1 1 x1000_1 t306 x1002_1 x1003_1 a2_0 a2_1 a2_2 a3_0 a3_1 a3_2 t308 x292001_1 x292002_1 false a1_1 a1_2 a1_3 a1_4 a1_5 a1_6 a1_7 a1_8))) = some (r1, r2, r3, r4, r5, r6, r7) := H
       have A40 := Aside0.mk A400
       clear A400
       replace H := Option.bind_eq_some_iff.mp H
       obtain ⟨t307, A410, H⟩ := H
       replace H : ((fix_Clamp.f t307 (-64) 64).bind fun t308 => (control_Steer_Step.l0 k1 1 x1000_1 t306 x1002_1 x1003_1 a2_0 a2_1 a2_2 a3_0 a3_1 a3_2 t308 x292001_1 x292002_1 false a1_1 a1_2 a1_3 a1_4 a1_5 a1_6 a1_7 a1_8)) = some (r1, r2, r3, r4, r5, r6, r7) := H
       have A41 := Aside0.mk A410
       clear A410
       replace H := Option.bind_eq_some_iff.mp H
       obtain ⟨t308, A420, H⟩ := H
       replace H : (control_Steer_Step.l0 k1 1 x1000_1 t306 x1002_1 x1003_1 a2_0 a2_1 a2_2 a3_0 a3_1 a3_2 t308 x292001_1 x292002_1 false a1_1 a1_2 a1_3 a1_4 a1_5 a1_6 a1_7 a1_8) = some (r1, r2, r3, r4, r5, r6, r7) := H
       have A42 := Aside0.mk A420
       clear A420
       have H' := Aside0.mk H
       clear H
       try go_wp2_with (first | ((with_reducible refine gate_dst (N := 11) rfl ?_); refine box_event ?hg (N := 11) ?hd (cs := #[.bool false, .int .i64 0, .int .i64 0]) (t := 41) ?hr ?_; (case hd => rfl); (case hg => rfl); (case hr => first | (go_simp; done) | (go_simp; rfl)); intro gb292 hg w43 hbox hb; have n0_ := Aside0.mk (blk_below BK287.out hb); have n1_ := Aside0.mk (blk_below BK288.out hb); have n2_ := Aside0.mk (blk_below BK289.out hb); have n3_ := Aside0.mk (blk_below BK290.out hb); have n4_ := Aside0.mk (blk_below BK291.out hb); have n5_ := Aside0.mk (IsS65.below HI0.out hb); have n6_ := Aside0.mk (KeepBut.trans HK.out (KeepBut.of_below hb g none) (.inl rfl)); have n7_ := Aside0.mk (below_step HB.out hb); have n8_ := Aside0.mk (hbox); have n9_ := Aside0.mk ((by rw [hg]; exact (keep_size (w := w) (g := g) (row := none) HK.out) : w.heap.size ≤ gb292)); have n10_ := Aside0.mk ((Nat.le_trans HW0.out (by rw [hg]; exact (keep_size (w := w) (g := g) (row := none) HK.out) : w.heap.size ≤ gb292) : w0.heap.size ≤ gb292)); have n11_ := Aside0.mk ((by rw [hg]; exact Nat.ne_of_lt (blk_lt BK287.out) : gb287 ≠ gb292)); have n12_ := Aside0.mk ((by rw [hg]; exact Nat.ne_of_gt (blk_lt BK287.out) : gb292 ≠ gb287)); have n13_ := Aside0.mk ((by rw [hg]; exact Nat.ne_of_lt (blk_lt BK288.out) : gb288 ≠ gb292)); have n14_ := Aside0.mk ((by rw [hg]; exact Nat.ne_of_gt (blk_lt BK288.out) : gb292 ≠ gb288)); have n15_ := Aside0.mk ((by rw [hg]; exact Nat.ne_of_lt (blk_lt BK289.out) : gb289 ≠ gb292)); have n16_ := Aside0.mk ((by rw [hg]; exact Nat.ne_of_gt (blk_lt BK289.out) : gb292 ≠ gb289)); have n17_ := Aside0.mk ((by rw [hg]; exact Nat.ne_of_lt (blk_lt BK290.out) : gb290 ≠ gb292)); have n18_ := Aside0.mk ((by rw [hg]; exact Nat.ne_of_gt (blk_lt BK290.out) : gb292 ≠ gb290)); have n19_ := Aside0.mk ((by rw [hg]; exact Nat.ne_of_lt (blk_lt BK291.out) : gb291 ≠ gb292)); have n20_ := Aside0.mk ((by rw [hg]; exact Nat.ne_of_gt (blk_lt BK291.out) : gb292 ≠ gb291)); have n21_ := Aside0.mk ((by rw [hg]; exact Nat.ne_of_lt (IsS65.lt HI0.out) : g ≠ gb292)); have n22_ := Aside0.mk ((by rw [hg]; exact Nat.ne_of_gt (IsS65.lt HI0.out) : gb292 ≠ g)); clear BK287; clear BK288; clear BK289; clear BK290; clear BK291; clear HI0; clear HK; clear HB; have BK287 := n0_; have BK288 := n1_; have BK289 := n2_; have BK290 := n3_; have BK291 := n4_; have HI0 := n5_; have HK := n6_; have HB := n7_; have BK292 := n8_; have GW292 := n9_; have GE292 := n10_; have NB287_292 := n11_; have NB292_287 := n12_; have NB288_292 := n13_; have NB292_288 := n14_; have NB289_292 := n15_; have NB292_289 := n16_; have NB290_292 := n17_; have NB292_290 := n18_; have NB291_292 := n19_; have NB292_291 := n20_; have NB0_292 := n21_; have NB292_0 := n22_; clear n0_ n1_ n2_ n3_ n4_ n5_ n6_ n7_ n8_ n9_ n10_ n11_ n12_ n13_ n14_ n15_ n16_ n17_ n18_ n19_ n20_ n21_ n22_; clear hb hbox hg; have hnb44 := NB292_287.out; have hnc44 := NB287_292.out; have hnb45 := NB292_288.out; have hnc45 := NB288_292.out; have hnb46 := NB292_289.out; have hnc46 := NB289_292.out; have hnb47 := NB292_290.out; have hnc47 := NB290_292.out; have hnb48 := NB292_291.out; have hnc48 := NB291_292.out; have hnb49 := NB292_0.out; have hnc49 := NB0_292.out; have hcz50_0 := blk_cells3 (w := w43) (g := gb292) BK292.out; have hfz50_0 := blk_frozen BK292.out))
       (repeat (rw [drewN_self w43]; generalize hq_ : World.drewN w43 _ = w43; have n0_ := Aside0.mk (blk_at hq_ BK287.out); have n1_ := Aside0.mk (blk_at hq_ BK288.out); have n2_ := Aside0.mk (blk_at hq_ BK289.out); have n3_ := Aside0.mk (blk_at hq_ BK290.out); have n4_ := Aside0.mk (blk_at hq_ BK291.out); have n5_ := Aside0.mk (blk_at hq_ BK292.out); have n6_ := Aside0.mk (IsS65.at_ hq_ HI0.out); have n7_ := Aside0.mk (keep_at hq_ HK.out); have n8_ := Aside0.mk (below_at hq_ HB.out); clear hq_ BK287 BK288 BK289 BK290 BK291 BK292 HI0 HK HB; have BK287 := n0_; have BK288 := n1_; have BK289 := n2_; have BK290 := n3_; have BK291 := n4_; have BK292 := n5_; have HI0 := n6_; have HK := n7_; have HB := n8_; clear n0_ n1_ n2_ n3_ n4_ n5_ n6_ n7_ n8_))
       obtain ⟨w51, hW_⟩ : ∃ W_, W_ = (((w43.setCell ⟨gb292, 0, none⟩ (.bool false)).setCell ⟨gb292, 1, none⟩ (.int .i64 a1_1)).setCell ⟨gb292, 2, none⟩ (.int .i64 a1_2)) := ⟨_, rfl⟩
       have n0_ : Aside0 (w51.heap[gb287]? = some (.cells #[.bool false, .int .i64 a1_1, .int .i64 a1_2, .bool a1_3, .int .i64 a1_4, .int .i64 a1_5, .bool a1_6, .int .i64 a1_7, .int .i64 a1_8] 42 (0, 0))) := ⟨by rw [hW_]; repeat (first | exact BK287.out | refine blk_far ?_ NB287_292.out _ | (with_reducible first | refine blk_drewN ?_ _ | refine blk_drew ?_ | refine blk_alloc ?_ _))⟩
       have n1_ : Aside0 (w51.heap[gb288]? = some (.cells #[.int .i64 a2_0, .int .i64 a2_1, .int .i64 a2_2] 37 (0, 0))) := ⟨by rw [hW_]; repeat (first | exact BK288.out | refine blk_far ?_ NB288_292.out _ | (with_reducible first | refine blk_drewN ?_ _ | refine blk_drew ?_ | refine blk_alloc ?_ _))⟩
       have n2_ : Aside0 (w51.heap[gb289]? = some (.cells #[.int .i64 a3_0, .int .i64 a3_1, .int .i64 a3_2] 37 (0, 0))) := ⟨by rw [hW_]; repeat (first | exact BK289.out | refine blk_far ?_ NB289_292.out _ | (with_reducible first | refine blk_drewN ?_ _ | refine blk_drew ?_ | refine blk_alloc ?_ _))⟩
       have n3_ : Aside0 (w51.heap[gb290]? = some (.cells #[.int .i64 x291000_1, .int .i64 x291001_1, .int .i64 x291002_1] 37 (0, 0))) := ⟨by rw [hW_]; repeat (first | exact BK290.out | refine blk_far ?_ NB290_292.out _ | (with_reducible first | refine blk_drewN ?_ _ | refine blk_drew ?_ | refine blk_alloc ?_ _))⟩
       have n4_ : Aside0 (w51.heap[gb291]? = some (.cells #[.int .i64 x292000_1, .int .i64 x292001_1, .int .i64 x292002_1] 37 (0, 0))) := ⟨by rw [hW_]; repeat (first | exact BK291.out | refine blk_far ?_ NB291_292.out _ | (with_reducible first | refine blk_drewN ?_ _ | refine blk_drew ?_ | refine blk_alloc ?_ _))⟩
       have n5_ : Aside0 (w51.heap[gb292]? = some (.cells #[.bool false, .int .i64 a1_1, .int .i64 a1_2] 41 (0, 0))) := ⟨by rw [hW_]; (with_reducible repeat (first | refine blk_drewN ?_ _ | refine blk_drew ?_ | refine blk_alloc ?_ _)); refine blk_put (cs := #[.bool false, .int .i64 a1_1, .int .i64 0]) ?_ 2 _ rfl; (with_reducible repeat (first | refine blk_drewN ?_ _ | refine blk_drew ?_ | refine blk_alloc ?_ _)); refine blk_put (cs := #[.bool false, .int .i64 0, .int .i64 0]) ?_ 1 _ rfl; (with_reducible repeat (first | refine blk_drewN ?_ _ | refine blk_drew ?_ | refine blk_alloc ?_ _)); refine blk_put (cs := #[.bool false, .int .i64 0, .int .i64 0]) ?_ 0 _ rfl; (with_reducible repeat (first | refine blk_drewN ?_ _ | refine blk_drew ?_ | refine blk_alloc ?_ _)); exact BK292.out⟩
       have n6_ : Aside0 (IsS65 w0 w51 g x1000_1 x1001_1 x1002_1 x1003_1) := ⟨by rw [hW_]; repeat (first | (with_reducible first | exact HI0.out | apply IsS65.alloc | apply IsS65.drewN | apply IsS65.drew | apply IsS65.set_0 | apply IsS65.set_1 | apply IsS65.set_2 | apply IsS65.set_3 | apply IsS65.farb NB0_287.out | apply IsS65.farb NB0_288.out | apply IsS65.farb NB0_289.out | apply IsS65.farb NB0_290.out | apply IsS65.farb NB0_291.out | apply IsS65.farb NB0_292.out) | exact HI0.out)⟩
       have n7_ : Aside0 (KeepBut w w51 g none) := ⟨by rw [hW_]; repeat (first | (with_reducible first | exact HK.out | apply KeepBut.set_ | apply keep_drewN | apply keep_drew | apply keep_alloc | refine keep_far ?_ GW287.out _ | refine keep_far ?_ GW288.out _ | refine keep_far ?_ GW289.out _ | refine keep_far ?_ GW290.out _ | refine keep_far ?_ GW291.out _ | refine keep_far ?_ GW292.out _) | exact HK.out)⟩
       have n8_ : Aside0 (Below w0.heap.size w0 w51) := ⟨by rw [hW_]; repeat (first | (with_reducible first | exact HB.out | apply below_alloc | apply pw_below_drewN | apply below_drew1 | refine below_set ?_ (IsS65.ge HI0.out) | refine below_set ?_ GE287.out | refine below_set ?_ GE288.out | refine below_set ?_ GE289.out | refine below_set ?_ GE290.out | refine below_set ?_ GE291.out | refine below_set ?_ GE292.out) | exact HB.out)⟩
       (try clear BK287)
       (try clear BK288)
       (try clear BK289)
       (try clear BK290)
       (try clear BK291)
       (try clear BK292)
       (try clear HI0)
       (try clear HK)
       (try clear HB)
       rw [← hW_]
       clear hW_
       have BK287 := n0_
       have BK288 := n1_
       have BK289 := n2_
       have BK290 := n3_
       have BK291 := n4_
       have BK292 := n5_
       have HI0 := n6_
       have HK := n7_
       have HB := n8_
       clear n0_ n1_ n2_ n3_ n4_ n5_ n6_ n7_ n8_
       have n0_ := Aside0.mk (blk_drew BK287.out)
       have n1_ := Aside0.mk (blk_drew BK288.out)
       have n2_ := Aside0.mk (blk_drew BK289.out)
       have n3_ := Aside0.mk (blk_drew BK290.out)
       have n4_ := Aside0.mk (blk_drew BK291.out)
       have n5_ := Aside0.mk (blk_drew BK292.out)
       have n6_ := Aside0.mk (IsS65.drew HI0.out)
       have n7_ := Aside0.mk (keep_drew HK.out)
       have n8_ := Aside0.mk (below_drew1 HB.out)
       clear BK287
       clear BK288
       clear BK289
       clear BK290
       clear BK291
       clear BK292
       clear HI0
       clear HK
       clear HB
       have BK287 := n0_
       have BK288 := n1_
       have BK289 := n2_
       have BK290 := n3_
       have BK291 := n4_
       have BK292 := n5_
       have HI0 := n6_
       have HK := n7_
       have HB := n8_
       clear n0_ n1_ n2_ n3_ n4_ n5_ n6_ n7_ n8_
       refine start_ (n := 24) (S := fun w' => w'.cell? ⟨g, 0, none⟩ = some (.int .i64 x1000_1) ∧ w'.cell? ⟨g, 1, none⟩ = some (.int .i64 x1001_1) ∧ w'.cell? ⟨g, 2, none⟩ = some (.int .i64 x1002_1) ∧ w'.cell? ⟨g, 3, none⟩ = some (.int .i64 x1003_1) ∧ w'.cell? ⟨gb292, 0, none⟩ = some (.bool false) ∧ w'.cell? ⟨gb292, 1, none⟩ = some (.int .i64 a1_1) ∧ w'.cell? ⟨gb292, 2, none⟩ = some (.int .i64 a1_2) ∧ w'.cell? ⟨gb288, 0, none⟩ = some (.int .i64 a2_0) ∧ w'.cell? ⟨gb288, 1, none⟩ = some (.int .i64 a2_1) ∧ w'.cell? ⟨gb288, 2, none⟩ = some (.int .i64 a2_2)) (ds := [23]) (lb_ 24 0) (by kernel_rfl) rfl rfl ⟨(cellS65_0 HI0.out.1), (cellS65_1 HI0.out.1), (cellS65_2 HI0.out.1), (cellS65_3 HI0.out.1), (blk_cell BK292.out 0).trans rfl, (blk_cell BK292.out 1).trans rfl, (blk_cell BK292.out 2).trans rfl, (blk_cell BK288.out 0).trans rfl, (blk_cell BK288.out 1).trans rfl, (blk_cell BK288.out 2).trans rfl⟩ (fun hHeld => ?_); refine with_tabW control_Steer_Step.tab10 control_Steer_Step.bits10 (fun HT_ HW_ => ?_)
       generalize w51.drew = w52 at BK287 BK288 BK289 BK290 BK291 BK292 HI0 HK HB hHeld ⊢
       refine pure_ (i := 0) (N := some 23) (v := ?_) (a' := ?_) (lb_ 24 1) rfl rfl (any_of HT_.out (by kernel_rfl)) (fun _ _ _ h => h) (Or.inl ⟨by rfl, ?_⟩) ?_ ?_; rotate_left; (intro w'; go_simp; with_reducible rfl); rotate_left; (simp only [Act.put, List.setIfInBounds_toArray, List.set_cons_zero, List.set_cons_succ, i64_w, i32_w]; rfl)
       refine pure_ (i := 1) (N := some 24) (v := ?_) (a' := ?_) (lb_ 24 3) rfl rfl (any_of HT_.out (by kernel_rfl)) (fun _ _ _ h => h) (Or.inl ⟨by rfl, ?_⟩) ?_ ?_; rotate_left; (intro w'; go_simp; with_reducible rfl); rotate_left; (simp only [Act.put, List.setIfInBounds_toArray, List.set_cons_zero, List.set_cons_succ, i64_w, i32_w]; rfl)
       refine pure_ (i := 2) (N := some 25) (v := ?_) (a' := ?_) (lb_ 24 7) rfl rfl (any_of HT_.out (by kernel_rfl)) (fun _ _ _ h => h) (Or.inl ⟨by rfl, ?_⟩) ?_ ?_; rotate_left; (intro w'; go_simp; with_reducible rfl); rotate_left; (simp only [Act.put, List.setIfInBounds_toArray, List.set_cons_zero, List.set_cons_succ, i64_w, i32_w]; rfl)
       refine pure_ (i := 3) (N := some 26) (v := ?_) (a' := ?_) (lb_ 24 15) rfl rfl (any_of HT_.out (by kernel_rfl)) (fun _ _ _ h => h) (Or.inl ⟨by rfl, ?_⟩) ?_ ?_; rotate_left; (intro w'; go_simp; with_reducible rfl); rotate_left; (simp only [Act.put, List.setIfInBounds_toArray, List.set_cons_zero, List.set_cons_succ, i64_w, i32_w]; rfl)
       refine pure_ (i := 4) (N := some 27) (v := ?_) (a' := ?_) (lb_ 24 31) rfl rfl (any_of HT_.out (by kernel_rfl)) (fun _ _ _ h => h) (Or.inl ⟨by rfl, ?_⟩) ?_ ?_; rotate_left; (intro w'; go_simp; with_reducible rfl); rotate_left; (simp only [Act.put, List.setIfInBounds_toArray, List.set_cons_zero, List.set_cons_succ, i64_w, i32_w]; rfl)
       refine pure_ (i := 5) (N := some 28) (v := ?_) (a' := ?_) (lb_ 24 63) rfl rfl (any_of HT_.out (by kernel_rfl)) (fun _ _ _ h => h) (Or.inl ⟨by rfl, ?_⟩) ?_ ?_; rotate_left; (intro w'; go_simp; with_reducible rfl); rotate_left; (simp only [Act.put, List.setIfInBounds_toArray, List.set_cons_zero, List.set_cons_succ, i64_w, i32_w]; rfl)
       refine pure_ (i := 6) (N := some 29) (v := ?_) (a' := ?_) (lb_ 24 127) rfl rfl (any_of HT_.out (by kernel_rfl)) (fun _ _ _ h => h) (Or.inl ⟨by rfl, ?_⟩) ?_ ?_; rotate_left; (intro w'; go_simp; with_reducible rfl); rotate_left; (simp only [Act.put, List.setIfInBounds_toArray, List.set_cons_zero, List.set_cons_succ, i64_w, i32_w]; rfl)
       refine pure_ (i := 8) (N := some 31) (v := ?_) (a' := ?_) (lb_ 24 383) rfl rfl (any_of HT_.out (by kernel_rfl)) (fun _ _ _ h => h) (Or.inl ⟨by rfl, ?_⟩) ?_ ?_; rotate_left; (intro w'; go_simp; with_reducible rfl); rotate_left; (simp only [Act.put, List.setIfInBounds_toArray, List.set_cons_zero, List.set_cons_succ, i64_w, i32_w]; rfl)
       refine pure_ (i := 9) (N := some 32) (v := ?_) (a' := ?_) (lb_ 24 895) rfl rfl (any_of HT_.out (by kernel_rfl)) (fun _ _ _ h => h) (Or.inl ⟨by rfl, ?_⟩) ?_ ?_; rotate_left; (intro w'; go_simp; with_reducible rfl); rotate_left; (simp only [Act.put, List.setIfInBounds_toArray, List.set_cons_zero, List.set_cons_succ, i64_w, i32_w]; rfl)
       refine pure_ (i := 11) (N := some 34) (v := ?_) (a' := ?_) (lb_ 24 2943) rfl rfl (any_of HT_.out (by kernel_rfl)) (fun _ _ _ h => h) (Or.inl ⟨by rfl, ?_⟩) ?_ ?_; rotate_left; (intro w'; go_simp; with_reducible rfl); rotate_left; (simp only [Act.put, List.setIfInBounds_toArray, List.set_cons_zero, List.set_cons_succ, i64_w, i32_w]; rfl)
       refine pure_ (i := 12) (N := some 35) (v := ?_) (a' := ?_) (lb_ 24 7039) rfl rfl (any_of HT_.out (by kernel_rfl)) (fun _ _ _ h => h) (Or.inl ⟨by rfl, ?_⟩) ?_ ?_; rotate_left; (intro w'; go_simp; with_reducible rfl); rotate_left; (simp only [Act.put, List.setIfInBounds_toArray, List.set_cons_zero, List.set_cons_succ, i64_w, i32_w]; rfl)
       refine pure_ (i := 15) (N := some 38) (v := ?_) (a' := ?_) (lb_ 24 39807) rfl rfl (any_of HT_.out (by kernel_rfl)) (fun _ _ _ h => h) (Or.inl ⟨by rfl, ?_⟩) ?_ ?_; rotate_left; (intro w'; go_simp; with_reducible rfl); rotate_left; (simp only [Act.put, List.setIfInBounds_toArray, List.set_cons_zero, List.set_cons_succ, i64_w, i32_w]; rfl)
       refine pure_ (i := 16) (N := some 39) (v := ?_) (a' := ?_) (lb_ 24 105343) rfl rfl (any_of HT_.out (by kernel_rfl)) (fun _ _ _ h => h) (Or.inl ⟨by rfl, ?_⟩) ?_ ?_; rotate_left; (intro w'; go_simp; with_reducible rfl); rotate_left; (simp only [Act.put, List.setIfInBounds_toArray, List.set_cons_zero, List.set_cons_succ, i64_w, i32_w]; rfl)
       refine pure_ (i := 17) (N := some 40) (v := ?_) (a' := ?_) (lb_ 24 236415) rfl rfl (any_of HT_.out (by kernel_rfl)) (fun _ _ _ h => h) (Or.inl ⟨by rfl, ?_⟩) ?_ ?_; rotate_left; (intro w'; go_simp; with_reducible rfl); rotate_left; (simp only [Act.put, List.setIfInBounds_toArray, List.set_cons_zero, List.set_cons_succ, i64_w, i32_w]; rfl)
       refine pure_ (i := 20) (N := some 43) (v := ?_) (a' := ?_) (lb_ 24 1284991) rfl rfl (any_of HT_.out (by kernel_rfl)) (fun _ _ _ h => h) (Or.inl ⟨by rfl, ?_⟩) ?_ ?_; rotate_left; (intro w'; go_simp; with_reducible rfl); rotate_left; (simp only [Act.put, List.setIfInBounds_toArray, List.set_cons_zero, List.set_cons_succ, i64_w, i32_w]; rfl)
       refine pure_ (i := 21) (N := some 44) (v := ?_) (a' := ?_) (lb_ 24 3382143) rfl rfl (any_of HT_.out (by kernel_rfl)) (fun _ _ _ h => h) (Or.inl ⟨by rfl, ?_⟩) ?_ ?_; rotate_left; (intro w'; go_simp; with_reducible rfl); rotate_left; (simp only [Act.put, List.setIfInBounds_toArray, List.set_cons_zero, List.set_cons_succ, i64_w, i32_w]; rfl)
       refine take_ (i := 7) (N := some 30) (v := ?_) (a' := ?_) (lb_ 24 3382271) rfl rfl (take_ofW HT_.out HW_.out (by kernel_rfl)) (fun _ _ _ h => h) (Or.inl ⟨by rfl, ?_⟩) hHeld ?_ ?_; rotate_left; (rintro w' ⟨s0, s1, s2, s3, s4, s5, s6, s7, s8, s9⟩; go_simp; with_reducible rfl); rotate_left; (simp only [Act.put, List.setIfInBounds_toArray, List.set_cons_zero, List.set_cons_succ, i64_w, i32_w]; rfl)
       refine take_ (i := 10) (N := some 33) (v := ?_) (a' := ?_) (lb_ 24 3383295) rfl rfl (take_ofW HT_.out HW_.out (by kernel_rfl)) (fun _ _ _ h => h) (Or.inl ⟨by rfl, ?_⟩) hHeld ?_ ?_; rotate_left; (rintro w' ⟨s0, s1, s2, s3, s4, s5, s6, s7, s8, s9⟩; go_simp; with_reducible rfl); rotate_left; (simp only [Act.put, List.setIfInBounds_toArray, List.set_cons_zero, List.set_cons_succ, i64_w, i32_w]; rfl)
       refine take_ (i := 13) (N := some 36) (v := ?_) (a' := ?_) (lb_ 24 3391487) rfl rfl (take_ofW HT_.out HW_.out (by kernel_rfl)) (fun _ _ _ h => h) (Or.inl ⟨by rfl, ?_⟩) hHeld ?_ ?_; rotate_left; (rintro w' ⟨s0, s1, s2, s3, s4, s5, s6, s7, s8, s9⟩; go_simp; with_reducible rfl); rotate_left; (simp only [Act.put, List.setIfInBounds_toArray, List.set_cons_zero, List.set_cons_succ, i64_w, i32_w]; rfl)
       refine take_ (i := 18) (N := some 41) (v := ?_) (a' := ?_) (lb_ 24 3653631) rfl rfl (take_ofW HT_.out HW_.out (by kernel_rfl)) (fun _ _ _ h => h) (Or.inl ⟨by rfl, ?_⟩) hHeld ?_ ?_; rotate_left; (rintro w' ⟨s0, s1, s2, s3, s4, s5, s6, s7, s8, s9⟩; go_simp; with_reducible rfl); rotate_left; (simp only [Act.put, List.setIfInBounds_toArray, List.set_cons_zero, List.set_cons_succ, i64_w, i32_w]; rfl)
       refine one_ (i := 14) (N := some 37) (lb_ 24 3670015) rfl rfl (one_of HT_.out (by kernel_rfl)) (by decide) (fun K hK => ?_)
       refine goesv_ Try.func39 (by kernel_rfl) rfl #[.pointer (some ⟨g, 0, none⟩), .agg #[.bool false, .int .i64 a1_1, .int .i64 a1_2], .int .i64 a2_0] (by rfl) rfl rfl rfl (by (try simp only [List.map_toArray, List.map_cons, List.map_nil]); first | done | rfl | (simp only [List.length_drop, List.length_take]; rfl)) ?_
       with_reducible refine (control_Steer_drift.calls g x1000_1 x1001_1 x1002_1 x1003_1 false a1_1 a1_2 a2_0 t301 x1000_1 x1001_1 x1002_1 x1003_1 w0 _ ?side1 ?side2 A39.out).mono ?_
       (case side1 => repeat (first | (with_reducible first | exact HI0.out | apply IsS65.alloc | apply IsS65.drewN | apply IsS65.drew | apply IsS65.set_0 | apply IsS65.set_1 | apply IsS65.set_2 | apply IsS65.set_3 | apply IsS65.farb NB0_287.out | apply IsS65.farb NB0_288.out | apply IsS65.farb NB0_289.out | apply IsS65.farb NB0_290.out | apply IsS65.farb NB0_291.out | apply IsS65.farb NB0_292.out) | exact HI0.out))
       (case side2 => repeat (first | (with_reducible first | exact HB.out | apply below_alloc | apply pw_below_drewN | apply below_drew1 | refine below_set ?_ (IsS65.ge HI0.out) | refine below_set ?_ GE287.out | refine below_set ?_ GE288.out | refine below_set ?_ GE289.out | refine below_set ?_ GE290.out | refine below_set ?_ GE291.out | refine below_set ?_ GE292.out) | exact HB.out))
       rintro e w53 ⟨rfl, hi, hb, hk⟩
       refine ⟨_, rfl, ?_⟩
       have n0_ := Aside0.mk (KeepBut.blk hk BK287.out NB287_0.out (by simp))
       have n1_ := Aside0.mk (KeepBut.blk hk BK288.out NB288_0.out (by simp))
       have n2_ := Aside0.mk (KeepBut.blk hk BK289.out NB289_0.out (by simp))
       have n3_ := Aside0.mk (KeepBut.blk hk BK290.out NB290_0.out (by simp))
       have n4_ := Aside0.mk (KeepBut.blk hk BK291.out NB291_0.out (by simp))
       have n5_ := Aside0.mk (KeepBut.blk hk BK292.out NB292_0.out (by simp))
       have n6_ := Aside0.mk (KeepBut.trans HK.out hk (.inl rfl))
       have n7_ := Aside0.mk (hb)
       have n8_ := Aside0.mk (hi)
       clear BK287
       clear BK288
       clear BK289
       clear BK290
       clear BK291
       clear BK292
       clear HK
       clear HB
       clear HI0
       have BK287 := n0_
       have BK288 := n1_
       have BK289 := n2_
       have BK290 := n3_
       have BK291 := n4_
       have BK292 := n5_
       have HK := n6_
       have HB := n7_
       have HI0 := n8_
       clear n0_ n1_ n2_ n3_ n4_ n5_ n6_ n7_ n8_
       (try clear hb)
       (try clear hb2)
       (try clear hk)
       (try clear hi)
       refine hK.out _ _ ⟨(cellS65_0 HI0.out.1), (cellS65_1 HI0.out.1), (cellS65_2 HI0.out.1), (cellS65_3 HI0.out.1), (blk_cell BK292.out 0).trans rfl, (blk_cell BK292.out 1).trans rfl, (blk_cell BK292.out 2).trans rfl, (blk_cell BK288.out 0).trans rfl, (blk_cell BK288.out 1).trans rfl, (blk_cell BK288.out 2).trans rfl⟩ (fun hHeld => ?_)
       clear hK K
       refine norm_ (a' := ?_) ?_ ?_
       rotate_left
       ·show Act.put _ (some 37) _ = _
        simp only [Act.put, List.setIfInBounds_toArray, List.set_cons_zero, List.set_cons_succ, i64_w, i32_w]
        rfl
       refine one_ (i := 19) (N := some 42) (lb_ 24 4194303) rfl rfl (one_of HT_.out (by kernel_rfl)) (by decide) (fun K hK => ?_)
       refine goes_ Try.func41 (by kernel_rfl) rfl #[.int .i64 x1001_1, .int .i64 t301, .int .i64 x1000_1] (by rfl) rfl rfl (by (try simp only [List.map_toArray, List.map_cons, List.map_nil]); first | done | rfl | (simp only [List.length_drop, List.length_take]; rfl)) ?_
       with_reducible refine (fix_Slew.calls k1 x1001_1 t301 x1000_1 t306 _ A40.out).mono ?_
       rintro e w54 ⟨rfl, hb⟩
       refine ⟨_, rfl, ?_⟩
       have n0_ := Aside0.mk (blk_below BK287.out hb)
       have n1_ := Aside0.mk (blk_below BK288.out hb)
       have n2_ := Aside0.mk (blk_below BK289.out hb)
       have n3_ := Aside0.mk (blk_below BK290.out hb)
       have n4_ := Aside0.mk (blk_below BK291.out hb)
       have n5_ := Aside0.mk (IsS65.below HI0.out hb)
       have n6_ := Aside0.mk (blk_below BK292.out hb)
       have n7_ := Aside0.mk (KeepBut.trans HK.out (KeepBut.of_below hb g none) (.inl rfl))
       have n8_ := Aside0.mk (below_step HB.out hb)
       clear BK287
       clear BK288
       clear BK289
       clear BK290
       clear BK291
       clear HI0
       clear BK292
       clear HK
       clear HB
       have BK287 := n0_
       have BK288 := n1_
       have BK289 := n2_
       have BK290 := n3_
       have BK291 := n4_
       have HI0 := n5_
       have BK292 := n6_
       have HK := n7_
       have HB := n8_
       clear n0_ n1_ n2_ n3_ n4_ n5_ n6_ n7_ n8_
       (try clear hb)
       (try clear hb2)
       (try clear hk)
       (try clear hi)
       refine hK.out _ _ ⟨(cellS65_0 HI0.out.1), (cellS65_1 HI0.out.1), (cellS65_2 HI0.out.1), (cellS65_3 HI0.out.1), (blk_cell BK292.out 0).trans rfl, (blk_cell BK292.out 1).trans rfl, (blk_cell BK292.out 2).trans rfl, (blk_cell BK288.out 0).trans rfl, (blk_cell BK288.out 1).trans rfl, (blk_cell BK288.out 2).trans rfl⟩ (fun hHeld => ?_)
       clear hK K
       refine norm_ (a' := ?_) ?_ ?_
       rotate_left
       ·show Act.put _ (some 42) _ = _
        simp only [Act.put, List.setIfInBounds_toArray, List.set_cons_zero, List.set_cons_succ, i64_w, i32_w]
        rfl
       refine pure_ (i := 22) (N := some 45) (v := ?_) (a' := ?_) (lb_ 24 8388607) rfl rfl (any_of HT_.out (by kernel_rfl)) (fun _ _ _ h => h) (Or.inl ⟨by rfl, ?_⟩) ?_ ?_; rotate_left; (intro w'; go_simp; with_reducible rfl); rotate_left; (simp only [Act.put, List.setIfInBounds_toArray, List.set_cons_zero, List.set_cons_succ, i64_w, i32_w]; rfl)
       refine last_ (i := 23) (N := none) (lb_ 24 16777215) rfl rfl (one_of HT_.out (by kernel_rfl)) (by decide) (fun K hK => ?_)
       have hs55 := cellS65_1 HI0.out.1
       have hfs55 := blk_frozen HI0.out.1 1
       have hns55_0 := NB287_0.out
       have hns55_1 := NB288_0.out
       have hns55_2 := NB289_0.out
       have hns55_3 := NB290_0.out
       have hns55_4 := NB291_0.out
       have hns55_5 := NB292_0.out
       have hms55_0 := NB0_287.out
       have hms55_1 := NB0_288.out
       have hms55_2 := NB0_289.out
       have hms55_3 := NB0_290.out
       have hms55_4 := NB0_291.out
       have hms55_5 := NB0_292.out
       refine skip_ (w1 := ?_) (by rfl) rfl ?_ ?_
       rotate_left
       ·go_simp
        rfl
       refine hK.out _ _ ?_
       clear hK K
       refine done_ (done_of HT_.out (by kernel_rfl)) ?_
       try go_wp2
       (repeat (rw [drewN_self w54]; generalize hq_ : World.drewN w54 _ = w54; have n0_ := Aside0.mk (blk_at hq_ BK287.out); have n1_ := Aside0.mk (blk_at hq_ BK288.out); have n2_ := Aside0.mk (blk_at hq_ BK289.out); have n3_ := Aside0.mk (blk_at hq_ BK290.out); have n4_ := Aside0.mk (blk_at hq_ BK291.out); have n5_ := Aside0.mk (blk_at hq_ BK292.out); have n6_ := Aside0.mk (IsS65.at_ hq_ HI0.out); have n7_ := Aside0.mk (keep_at hq_ HK.out); have n8_ := Aside0.mk (below_at hq_ HB.out); clear hq_ BK287 BK288 BK289 BK290 BK291 BK292 HI0 HK HB; have BK287 := n0_; have BK288 := n1_; have BK289 := n2_; have BK290 := n3_; have BK291 := n4_; have BK292 := n5_; have HI0 := n6_; have HK := n7_; have HB := n8_; clear n0_ n1_ n2_ n3_ n4_ n5_ n6_ n7_ n8_))
       obtain ⟨w56, hW_⟩ : ∃ W_, W_ = (w54.setCell ⟨g, 1, none⟩ (.int .i64 t306)) := ⟨_, rfl⟩
       have n0_ : Aside0 (w56.heap[gb287]? = some (.cells #[.bool false, .int .i64 a1_1, .int .i64 a1_2, .bool a1_3, .int .i64 a1_4, .int .i64 a1_5, .bool a1_6, .int .i64 a1_7, .int .i64 a1_8] 42 (0, 0))) := ⟨by rw [hW_]; repeat (first | exact BK287.out | refine blk_far ?_ NB287_0.out _ | (with_reducible first | refine blk_drewN ?_ _ | refine blk_drew ?_ | refine blk_alloc ?_ _))⟩
       have n1_ : Aside0 (w56.heap[gb288]? = some (.cells #[.int .i64 a2_0, .int .i64 a2_1, .int .i64 a2_2] 37 (0, 0))) := ⟨by rw [hW_]; repeat (first | exact BK288.out | refine blk_far ?_ NB288_0.out _ | (with_reducible first | refine blk_drewN ?_ _ | refine blk_drew ?_ | refine blk_alloc ?_ _))⟩
       have n2_ : Aside0 (w56.heap[gb289]? = some (.cells #[.int .i64 a3_0, .int .i64 a3_1, .int .i64 a3_2] 37 (0, 0))) := ⟨by rw [hW_]; repeat (first | exact BK289.out | refine blk_far ?_ NB289_0.out _ | (with_reducible first | refine blk_drewN ?_ _ | refine blk_drew ?_ | refine blk_alloc ?_ _))⟩
       have n3_ : Aside0 (w56.heap[gb290]? = some (.cells #[.int .i64 x291000_1, .int .i64 x291001_1, .int .i64 x291002_1] 37 (0, 0))) := ⟨by rw [hW_]; repeat (first | exact BK290.out | refine blk_far ?_ NB290_0.out _ | (with_reducible first | refine blk_drewN ?_ _ | refine blk_drew ?_ | refine blk_alloc ?_ _))⟩
       have n4_ : Aside0 (w56.heap[gb291]? = some (.cells #[.int .i64 x292000_1, .int .i64 x292001_1, .int .i64 x292002_1] 37 (0, 0))) := ⟨by rw [hW_]; repeat (first | exact BK291.out | refine blk_far ?_ NB291_0.out _ | (with_reducible first | refine blk_drewN ?_ _ | refine blk_drew ?_ | refine blk_alloc ?_ _))⟩
       have n5_ : Aside0 (w56.heap[gb292]? = some (.cells #[.bool false, .int .i64 a1_1, .int .i64 a1_2] 41 (0, 0))) := ⟨by rw [hW_]; repeat (first | exact BK292.out | refine blk_far ?_ NB292_0.out _ | (with_reducible first | refine blk_drewN ?_ _ | refine blk_drew ?_ | refine blk_alloc ?_ _))⟩
       have n6_ : Aside0 (IsS65 w0 w56 g x1000_1 t306 x1002_1 x1003_1) := ⟨by rw [hW_]; repeat (first | (with_reducible first | exact HI0.out | apply IsS65.alloc | apply IsS65.drewN | apply IsS65.drew | apply IsS65.set_0 | apply IsS65.set_1 | apply IsS65.set_2 | apply IsS65.set_3 | apply IsS65.farb NB0_287.out | apply IsS65.farb NB0_288.out | apply IsS65.farb NB0_289.out | apply IsS65.farb NB0_290.out | apply IsS65.farb NB0_291.out | apply IsS65.farb NB0_292.out) | exact HI0.out)⟩
       have n7_ : Aside0 (KeepBut w w56 g none) := ⟨by rw [hW_]; repeat (first | (with_reducible first | exact HK.out | apply KeepBut.set_ | apply keep_drewN | apply keep_drew | apply keep_alloc | refine keep_far ?_ GW287.out _ | refine keep_far ?_ GW288.out _ | refine keep_far ?_ GW289.out _ | refine keep_far ?_ GW290.out _ | refine keep_far ?_ GW291.out _ | refine keep_far ?_ GW292.out _) | exact HK.out)⟩
       have n8_ : Aside0 (Below w0.heap.size w0 w56) := ⟨by rw [hW_]; repeat (first | (with_reducible first | exact HB.out | apply below_alloc | apply pw_below_drewN | apply below_drew1 | refine below_set ?_ (IsS65.ge HI0.out) | refine below_set ?_ GE287.out | refine below_set ?_ GE288.out | refine below_set ?_ GE289.out | refine below_set ?_ GE290.out | refine below_set ?_ GE291.out | refine below_set ?_ GE292.out) | exact HB.out)⟩
       (try clear BK287)
       (try clear BK288)
       (try clear BK289)
       (try clear BK290)
       (try clear BK291)
       (try clear BK292)
       (try clear HI0)
       (try clear HK)
       (try clear HB)
       rw [← hW_]
       clear hW_
       have BK287 := n0_
       have BK288 := n1_
       have BK289 := n2_
       have BK290 := n3_
       have BK291 := n4_
       have BK292 := n5_
       have HI0 := n6_
       have HK := n7_
       have HB := n8_
       clear n0_ n1_ n2_ n3_ n4_ n5_ n6_ n7_ n8_
       have n0_ := Aside0.mk (blk_drew BK287.out)
       have n1_ := Aside0.mk (blk_drew BK288.out)
       have n2_ := Aside0.mk (blk_drew BK289.out)
       have n3_ := Aside0.mk (blk_drew BK290.out)
       have n4_ := Aside0.mk (blk_drew BK291.out)
       have n5_ := Aside0.mk (blk_drew BK292.out)
       have n6_ := Aside0.mk (IsS65.drew HI0.out)
       have n7_ := Aside0.mk (keep_drew HK.out)
       have n8_ := Aside0.mk (below_drew1 HB.out)
       clear BK287
       clear BK288
       clear BK289
       clear BK290
       clear BK291
       clear BK292
       clear HI0
       clear HK
       clear HB
       have BK287 := n0_
       have BK288 := n1_
       have BK289 := n2_
       have BK290 := n3_
       have BK291 := n4_
       have BK292 := n5_
       have HI0 := n6_
       have HK := n7_
       have HB := n8_
       clear n0_ n1_ n2_ n3_ n4_ n5_ n6_ n7_ n8_
       refine start_ (n := 14) (S := fun w' => w'.cell? ⟨g, 0, none⟩ = some (.int .i64 x1000_1) ∧ w'.cell? ⟨g, 1, none⟩ = some (.int .i64 t306) ∧ w'.cell? ⟨g, 2, none⟩ = some (.int .i64 x1002_1) ∧ w'.cell? ⟨g, 3, none⟩ = some (.int .i64 x1003_1) ∧ w'.cell? ⟨gb289, 0, none⟩ = some (.int .i64 a3_0) ∧ w'.cell? ⟨gb289, 1, none⟩ = some (.int .i64 a3_1) ∧ w'.cell? ⟨gb289, 2, none⟩ = some (.int .i64 a3_2)) (ds := []) (lb_ 14 0) (by kernel_rfl) rfl rfl ⟨(cellS65_0 HI0.out.1), (cellS65_1 HI0.out.1), (cellS65_2 HI0.out.1), (cellS65_3 HI0.out.1), (blk_cell BK289.out 0).trans rfl, (blk_cell BK289.out 1).trans rfl, (blk_cell BK289.out 2).trans rfl⟩ (fun hHeld => ?_); refine with_tabW control_Steer_Step.tab11 control_Steer_Step.bits11 (fun HT_ HW_ => ?_)
       generalize w56.drew = w57 at BK287 BK288 BK289 BK290 BK291 BK292 HI0 HK HB hHeld ⊢
       refine pure_ (i := 0) (N := some 46) (v := ?_) (a' := ?_) (lb_ 14 1) rfl rfl (any_of HT_.out (by kernel_rfl)) (fun _ _ _ h => h) (Or.inl ⟨by rfl, ?_⟩) ?_ ?_; rotate_left; (intro w'; go_simp; with_reducible rfl); rotate_left; (simp only [Act.put, List.setIfInBounds_toArray, List.set_cons_zero, List.set_cons_succ, i64_w, i32_w]; rfl)
       refine pure_ (i := 1) (N := some 47) (v := ?_) (a' := ?_) (lb_ 14 3) rfl rfl (any_of HT_.out (by kernel_rfl)) (fun _ _ _ h => h) (Or.inl ⟨by rfl, ?_⟩) ?_ ?_; rotate_left; (intro w'; go_simp; with_reducible rfl); rotate_left; (simp only [Act.put, List.setIfInBounds_toArray, List.set_cons_zero, List.set_cons_succ, i64_w, i32_w]; rfl)
       refine pure_ (i := 2) (N := some 48) (v := ?_) (a' := ?_) (lb_ 14 7) rfl rfl (any_of HT_.out (by kernel_rfl)) (fun _ _ _ h => h) (Or.inl ⟨by rfl, ?_⟩) ?_ ?_; rotate_left; (intro w'; go_simp; with_reducible rfl); rotate_left; (simp only [Act.put, List.setIfInBounds_toArray, List.set_cons_zero, List.set_cons_succ, i64_w, i32_w]; rfl)
       refine pure_ (i := 3) (N := some 49) (v := ?_) (a' := ?_) (lb_ 14 15) rfl rfl (any_of HT_.out (by kernel_rfl)) (fun _ _ _ h => h) (Or.inl ⟨by rfl, ?_⟩) ?_ ?_; rotate_left; (intro w'; go_simp; with_reducible rfl); rotate_left; (simp only [Act.put, List.setIfInBounds_toArray, List.set_cons_zero, List.set_cons_succ, i64_w, i32_w]; rfl)
       refine pure_ (i := 4) (N := some 50) (v := ?_) (a' := ?_) (lb_ 14 31) rfl rfl (any_of HT_.out (by kernel_rfl)) (fun _ _ _ h => h) (Or.inl ⟨by rfl, ?_⟩) ?_ ?_; rotate_left; (intro w'; go_simp; with_reducible rfl); rotate_left; (simp only [Act.put, List.setIfInBounds_toArray, List.set_cons_zero, List.set_cons_succ, i64_w, i32_w]; rfl)
       refine pure_ (i := 5) (N := some 51) (v := ?_) (a' := ?_) (lb_ 14 63) rfl rfl (any_of HT_.out (by kernel_rfl)) (fun _ _ _ h => h) (Or.inl ⟨by rfl, ?_⟩) ?_ ?_; rotate_left; (intro w'; go_simp; with_reducible rfl); rotate_left; (simp only [Act.put, List.setIfInBounds_toArray, List.set_cons_zero, List.set_cons_succ, i64_w, i32_w]; rfl)
       refine pure_ (i := 7) (N := some 53) (v := ?_) (a' := ?_) (lb_ 14 191) rfl rfl (any_of HT_.out (by kernel_rfl)) (fun _ _ _ h => h) (Or.inl ⟨by rfl, ?_⟩) ?_ ?_; rotate_left; (intro w'; go_simp; with_reducible rfl); rotate_left; (simp only [Act.put, List.setIfInBounds_toArray, List.set_cons_zero, List.set_cons_succ, i64_w, i32_w]; rfl)
       refine pure_ (i := 8) (N := some 54) (v := ?_) (a' := ?_) (lb_ 14 447) rfl rfl (any_of HT_.out (by kernel_rfl)) (fun _ _ _ h => h) (Or.inl ⟨by rfl, ?_⟩) ?_ ?_; rotate_left; (intro w'; go_simp; with_reducible rfl); rotate_left; (simp only [Act.put, List.setIfInBounds_toArray, List.set_cons_zero, List.set_cons_succ, i64_w, i32_w]; rfl)
       refine take_ (i := 6) (N := some 52) (v := ?_) (a' := ?_) (lb_ 14 511) rfl rfl (take_ofW HT_.out HW_.out (by kernel_rfl)) (fun _ _ _ h => h) (Or.inl ⟨by rfl, ?_⟩) hHeld ?_ ?_; rotate_left; (rintro w' ⟨s0, s1, s2, s3, s4, s5, s6⟩; go_simp; with_reducible rfl); rotate_left; (simp only [Act.put, List.setIfInBounds_toArray, List.set_cons_zero, List.set_cons_succ, i64_w, i32_w]; rfl)
       refine take_ (i := 9) (N := some 55) (v := ?_) (a' := ?_) (lb_ 14 1023) rfl rfl (take_ofW HT_.out HW_.out (by kernel_rfl)) (fun _ _ _ h => h) (Or.inl ⟨by rfl, ?_⟩) hHeld ?_ ?_; rotate_left; (rintro w' ⟨s0, s1, s2, s3, s4, s5, s6⟩; go_simp; with_reducible rfl); rotate_left; (simp only [Act.put, List.setIfInBounds_toArray, List.set_cons_zero, List.set_cons_succ, i64_w, i32_w]; rfl)
       refine one_ (i := 10) (N := some 56) (lb_ 14 2047) rfl rfl (one_of HT_.out (by kernel_rfl)) (by decide) (fun K hK => ?_)
       refine goes_ Try.func27 (by kernel_rfl) rfl #[.int .i64 t306, .int .i64 a3_0] (by rfl) rfl rfl (by (try simp only [List.map_toArray, List.map_cons, List.map_nil]); first | done | rfl | (simp only [List.length_drop, List.length_take]; rfl)) ?_
       with_reducible refine (fix_Sub.calls k1 t306 a3_0 t307 _ A41.out).mono ?_
       rintro e w' ⟨rfl, ⟨nd, rfl⟩⟩
       refine ⟨_, rfl, ?_⟩
       refine hK.out _ _ ⟨(cellS65_0 HI0.out.1), (cellS65_1 HI0.out.1), (cellS65_2 HI0.out.1), (cellS65_3 HI0.out.1), (blk_cell BK289.out 0).trans rfl, (blk_cell BK289.out 1).trans rfl, (blk_cell BK289.out 2).trans rfl⟩ (fun hHeld => ?_)
       clear hK K
       refine norm_ (a' := ?_) ?_ ?_
       rotate_left
       ·show Act.put _ (some 56) _ = _
        simp only [Act.put, List.setIfInBounds_toArray, List.set_cons_zero, List.set_cons_succ, i64_w, i32_w]
        rfl
       refine one_ (i := 11) (N := some 57) (lb_ 14 4095) rfl rfl (one_of HT_.out (by kernel_rfl)) (by decide) (fun K hK => ?_)
       refine goes_ Try.func33 (by kernel_rfl) rfl #[.int .i64 t307, .int .i64 (-64), .int .i64 64] (by rfl) rfl rfl (by (try simp only [List.map_toArray, List.map_cons, List.map_nil]); first | done | rfl | (simp only [List.length_drop, List.length_take]; rfl)) ?_
       with_reducible refine (fix_Clamp.calls t307 (-64) 64 t308 _ A42.out).mono ?_
       rintro e w' ⟨rfl, ⟨nd, rfl⟩⟩
       refine ⟨_, rfl, ?_⟩
       refine hK.out _ _ ⟨(cellS65_0 HI0.out.1), (cellS65_1 HI0.out.1), (cellS65_2 HI0.out.1), (cellS65_3 HI0.out.1), (blk_cell BK289.out 0).trans rfl, (blk_cell BK289.out 1).trans rfl, (blk_cell BK289.out 2).trans rfl⟩ (fun hHeld => ?_)
       clear hK K
       refine norm_ (a' := ?_) ?_ ?_
       rotate_left
       ·show Act.put _ (some 57) _ = _
        simp only [Act.put, List.setIfInBounds_toArray, List.set_cons_zero, List.set_cons_succ, i64_w, i32_w]
        rfl
       refine pure_ (i := 12) (N := some 58) (v := ?_) (a' := ?_) (lb_ 14 8191) rfl rfl (any_of HT_.out (by kernel_rfl)) (fun _ _ _ h => h) (Or.inl ⟨by rfl, ?_⟩) ?_ ?_; rotate_left; (intro w'; go_simp; with_reducible rfl); rotate_left; (simp only [Act.put, List.setIfInBounds_toArray, List.set_cons_zero, List.set_cons_succ, i64_w, i32_w]; rfl)
       refine one_ (i := 13) (N := none) (lb_ 14 16383) rfl rfl (one_of HT_.out (by kernel_rfl)) (by decide) (fun K hK => ?_)
       have hs58 : w57.cell? ⟨gb291, 0, none⟩ = some (.int .i64 x292000_1) := (blk_cell BK291.out 0).trans rfl
       have hfs58 := blk_frozen BK291.out 0
       have hns58_0 := NB287_291.out
       have hns58_1 := NB288_291.out
       have hns58_2 := NB289_291.out
       have hns58_3 := NB290_291.out
       have hns58_5 := NB292_291.out
       have hms58_0 := NB291_287.out
       have hms58_1 := NB291_288.out
       have hms58_2 := NB291_289.out
       have hms58_3 := NB291_290.out
       have hms58_5 := NB291_292.out
       refine skip_ (w1 := ?_) (by rfl) rfl ?_ ?_
       rotate_left
       ·go_simp
        rfl
       refine hK.out _ _ ⟨((cell_far (p := ⟨gb291, _, none⟩) NB0_291.out _).trans (hHeld.1)), ((cell_far (p := ⟨gb291, _, none⟩) NB0_291.out _).trans (hHeld.2.1)), ((cell_far (p := ⟨gb291, _, none⟩) NB0_291.out _).trans (hHeld.2.2.1)), ((cell_far (p := ⟨gb291, _, none⟩) NB0_291.out _).trans (hHeld.2.2.2.1)), ((cell_far (p := ⟨gb291, _, none⟩) NB289_291.out _).trans (hHeld.2.2.2.2.1)), ((cell_far (p := ⟨gb291, _, none⟩) NB289_291.out _).trans (hHeld.2.2.2.2.2.1)), ((cell_far (p := ⟨gb291, _, none⟩) NB289_291.out _).trans (hHeld.2.2.2.2.2.2))⟩ (fun hHeld => ?_)
       clear hK K
       refine done_ (done_of HT_.out (by kernel_rfl)) ?_
       try go_wp2
       go_roundg k1
       case measure => have := HK1.out; omega
       case rel => exact ⟨(1), (x1000_1), (t306), (x1002_1), (x1003_1), (x291000_1), (x291001_1), (x291002_1), (t308), (x292001_1), (x292002_1), (by first | rfl | (simp; done) | (simp [*]; done)), H', ⟨by have := HK1.out; omega⟩, ⟨by (with_reducible repeat (first | refine blk_drewN ?_ _ | refine blk_drew ?_ | refine blk_alloc ?_ _)); refine blk_far ?_ NB287_291.out _; (with_reducible repeat (first | refine blk_drewN ?_ _ | refine blk_drew ?_ | refine blk_alloc ?_ _)); exact BK287.out⟩, ⟨by (with_reducible repeat (first | refine blk_drewN ?_ _ | refine blk_drew ?_ | refine blk_alloc ?_ _)); refine blk_far ?_ NB288_291.out _; (with_reducible repeat (first | refine blk_drewN ?_ _ | refine blk_drew ?_ | refine blk_alloc ?_ _)); exact BK288.out⟩, ⟨by (with_reducible repeat (first | refine blk_drewN ?_ _ | refine blk_drew ?_ | refine blk_alloc ?_ _)); refine blk_far ?_ NB289_291.out _; (with_reducible repeat (first | refine blk_drewN ?_ _ | refine blk_drew ?_ | refine blk_alloc ?_ _)); exact BK289.out⟩, ⟨by (with_reducible repeat (first | refine blk_drewN ?_ _ | refine blk_drew ?_ | refine blk_alloc ?_ _)); refine blk_far ?_ NB290_291.out _; (with_reducible repeat (first | refine blk_drewN ?_ _ | refine blk_drew ?_ | refine blk_alloc ?_ _)); exact BK290.out⟩, ⟨by (with_reducible repeat (first | refine blk_drewN ?_ _ | refine blk_drew ?_ | refine blk_alloc ?_ _)); refine blk_put (cs := #[.int .i64 x292000_1, .int .i64 x292001_1, .int .i64 x292002_1]) ?_ 0 _ rfl; (with_reducible repeat (first | refine blk_drewN ?_ _ | refine blk_drew ?_ | refine blk_alloc ?_ _)); exact BK291.out⟩, ⟨by repeat (first | (with_reducible first | exact HI0.out | apply IsS65.alloc | apply IsS65.drewN | apply IsS65.drew | apply IsS65.set_0 | apply IsS65.set_1 | apply IsS65.set_2 | apply IsS65.set_3 | apply IsS65.farb NB0_287.out | apply IsS65.farb NB0_288.out | apply IsS65.farb NB0_289.out | apply IsS65.farb NB0_290.out | apply IsS65.farb NB0_291.out | apply IsS65.farb NB0_292.out) | exact HI0.out)⟩, ⟨by repeat (first | (with_reducible first | exact HK.out | apply KeepBut.set_ | apply keep_drewN | apply keep_drew | apply keep_alloc | refine keep_far ?_ GW287.out _ | refine keep_far ?_ GW288.out _ | refine keep_far ?_ GW289.out _ | refine keep_far ?_ GW290.out _ | refine keep_far ?_ GW291.out _ | refine keep_far ?_ GW292.out _) | exact HK.out)⟩, ⟨by repeat (first | (with_reducible first | exact HB.out | apply below_alloc | apply pw_below_drewN | apply below_drew1 | refine below_set ?_ (IsS65.ge HI0.out) | refine below_set ?_ GE287.out | refine below_set ?_ GE288.out | refine below_set ?_ GE289.out | refine below_set ?_ GE290.out | refine below_set ?_ GE291.out | refine below_set ?_ GE292.out) | exact HB.out)⟩⟩
     rw [if_neg c17] at H
     by_cases c59 : x17_1 = 1
     ·subst c59
      have H1 : (if a1_3 = true then ((control_Steer_place.f k1 x1000_1 x1001_1 x1002_1 x1003_1 a1_3 a1_4 a1_5 a2_1).bind fun bt310 => ((fix_Slew.f k1 x1002_1 bt310.1 x1000_1).bind fun t315 => ((fix_Sub.f k1 t315 a3_1).bind fun t316 => ((fix_Clamp.f t316 (-64) 64).bind fun t317 => (control_Steer_Step.l0 k1 2 x1000_1 x1001_1 t315 x1003_1 a2_0 a2_1 a2_2 a3_0 a3_1 a3_2 x292000_1 t317 x292002_1 a1_0 a1_1 a1_2 a1_3 a1_4 a1_5 a1_6 a1_7 a1_8))))) else ((control_Steer_drift.f x1000_1 x1001_1 x1002_1 x1003_1 a1_3 a1_4 a1_5 a2_1).bind fun bt318 => ((fix_Slew.f k1 x1002_1 bt318.1 x1000_1).bind fun t323 => ((fix_Sub.f k1 t323 a3_1).bind fun t324 => ((fix_Clamp.f t324 (-64) 64).bind fun t325 => (control_Steer_Step.l0 k1 2 x1000_1 x1001_1 t323 x1003_1 a2_0 a2_1 a2_2 a3_0 a3_1 a3_2 x292000_1 t325 x292002_1 a1_0 a1_1 a1_2 a1_3 a1_4 a1_5 a1_6 a1_7 a1_8)))))) = some (r1, r2, r3, r4, r5, r6, r7) := by rw [if_pos rfl] at H; exact H
      clear H
      have H := H1
      clear H1
      by_cases c60 : a1_3 = true
      ·subst c60
       have H1 : ((control_Steer_place.f k1 x1000_1 x1001_1 x1002_1 x1003_1 true a1_4 a1_5 a2_1).bind fun bt310 => ((fix_Slew.f k1 x1002_1 bt310.1 x1000_1).bind fun t315 => ((fix_Sub.f k1 t315 a3_1).bind fun t316 => ((fix_Clamp.f t316 (-64) 64).bind fun t317 => (control_Steer_Step.l0 k1 2 x1000_1 x1001_1 t315 x1003_1 a2_0 a2_1 a2_2 a3_0 a3_1 a3_2 x292000_1 t317 x292002_1 a1_0 a1_1 a1_2 true a1_4 a1_5 a1_6 a1_7 a1_8))))) = some (r1, r2, r3, r4, r5, r6, r7) := by rw [if_pos rfl] at H; exact H
       clear H
       have H := H1
       clear H1
       replace H := Option.bind_eq_some_iff.mp H
       obtain ⟨⟨t310, t311, t312, t313, t314⟩, A610, H⟩ := H
       replace H : ((fix_Slew.f k1 x1002_1 t310 x1000_1).bind fun t315 => ((fix_Sub.f k1 t315 a3_1).bind fun t316 => ((fix_Clamp.f t316 (-64) 64).bind fun t317 => (control_Steer_Step.l0 k1 2 x1000_1 x1001_1 t315 x1003_1 a2_0 a2_1 a2_2 a3_0 a3_1 a3_2 x292000_1 t317 x292002_1 a1_0 a1_1 a1_2 true a1_4 a1_5 a1_6 a1_7 a1_8)))) = some (r1, r2, r3, r4, r5, r6, r7) := H
       have A61 := Aside0.mk A610
       clear A610
       obtain ⟨E0_, E1_, E2_, E3_⟩ := control_Steer_place.same A61.out
       subst E0_
       subst E1_
       subst E2_
       subst E3_
       replace H := Option.bind_eq_some_iff.mp H
       obtain ⟨t315, A620, H⟩ := H
       replace H : ((fix_Sub.f k1 t315 a3_1).bind fun t316 => ((fix_Clamp.f t316 (-64) 64).bind fun t317 => (control_Steer_Step.l0 k1 2 x1000_1 x1001_1 t315 x1003_1 a2_0 a2_1 a2_2 a3_0 a3_1 a3_2 x292000_1 t317 x292002_1 a1_0 a1_1 a1_2 true a1_4 a1_5 a1_6 a1_7 a1_8))) = some (r1, r2, r3, r4, r5, r6, r7) := H
       have A62 := Aside0.mk A620
       clear A620
       replace H := Option.bind_eq_some_iff.mp H
       obtain ⟨t316, A630, H⟩ := H
       replace H : ((fix_Clamp.f t316 (-64) 64).bind fun t317 => (control_Steer_Step.l0 k1 2 x1000_1 x1001_1 t315 x1003_1 a2_0 a2_1 a2_2 a3_0 a3_1 a3_2 x292000_1 t317 x292002_1 a1_0 a1_1 a1_2 true a1_4 a1_5 a1_6 a1_7 a1_8)) = some (r1, r2, r3, r4, r5, r6, r7) := H
       have A63 := Aside0.mk A630
       clear A630
       replace H := Option.bind_eq_some_iff.mp H
       obtain ⟨t317, A640, H⟩ := H
       replace H : (control_Steer_Step.l0 k1 2 x1000_1 x1001_1 t315 x1003_1 a2_0 a2_1 a2_2 a3_0 a3_1 a3_2 x292000_1 t317 x292002_1 a1_0 a1_1 a1_2 true a1_4 a1_5 a1_6 a1_7 a1_8) = some (r1, r2, r3, r4, r5, r6, r7) := H
       have A64 := Aside0.mk A640
       clear A640
       have H' := Aside0.mk H
       clear H
       try go_wp2_with (first | ((with_reducible refine gate_dst (N := 11) rfl ?_); refine box_event ?hg (N := 11) ?hd (cs := #[.bool false, .int .i64 0, .int .i64 0]) (t := 41) ?hr ?_; (case hd => rfl); (case hg => rfl); (case hr => first | (go_simp; done) | (go_simp; rfl)); intro gb309 hg w65 hbox hb; have n0_ := Aside0.mk (blk_below BK287.out hb); have n1_ := Aside0.mk (blk_below BK288.out hb); have n2_ := Aside0.mk (blk_below BK289.out hb); have n3_ := Aside0.mk (blk_below BK290.out hb); have n4_ := Aside0.mk (blk_below BK291.out hb); have n5_ := Aside0.mk (IsS65.below HI0.out hb); have n6_ := Aside0.mk (KeepBut.trans HK.out (KeepBut.of_below hb g none) (.inl rfl)); have n7_ := Aside0.mk (below_step HB.out hb); have n8_ := Aside0.mk (hbox); have n9_ := Aside0.mk ((by rw [hg]; exact (keep_size (w := w) (g := g) (row := none) HK.out) : w.heap.size ≤ gb309)); have n10_ := Aside0.mk ((Nat.le_trans HW0.out (by rw [hg]; exact (keep_size (w := w) (g := g) (row := none) HK.out) : w.heap.size ≤ gb309) : w0.heap.size ≤ gb309)); have n11_ := Aside0.mk ((by rw [hg]; exact Nat.ne_of_lt (blk_lt BK287.out) : gb287 ≠ gb309)); have n12_ := Aside0.mk ((by rw [hg]; exact Nat.ne_of_gt (blk_lt BK287.out) : gb309 ≠ gb287)); have n13_ := Aside0.mk ((by rw [hg]; exact Nat.ne_of_lt (blk_lt BK288.out) : gb288 ≠ gb309)); have n14_ := Aside0.mk ((by rw [hg]; exact Nat.ne_of_gt (blk_lt BK288.out) : gb309 ≠ gb288)); have n15_ := Aside0.mk ((by rw [hg]; exact Nat.ne_of_lt (blk_lt BK289.out) : gb289 ≠ gb309)); have n16_ := Aside0.mk ((by rw [hg]; exact Nat.ne_of_gt (blk_lt BK289.out) : gb309 ≠ gb289)); have n17_ := Aside0.mk ((by rw [hg]; exact Nat.ne_of_lt (blk_lt BK290.out) : gb290 ≠ gb309)); have n18_ := Aside0.mk ((by rw [hg]; exact Nat.ne_of_gt (blk_lt BK290.out) : gb309 ≠ gb290)); have n19_ := Aside0.mk ((by rw [hg]; exact Nat.ne_of_lt (blk_lt BK291.out) : gb291 ≠ gb309)); have n20_ := Aside0.mk ((by rw [hg]; exact Nat.ne_of_gt (blk_lt BK291.out) : gb309 ≠ gb291)); have n21_ := Aside0.mk ((by rw [hg]; exact Nat.ne_of_lt (IsS65.lt HI0.out) : g ≠ gb309)); have n22_ := Aside0.mk ((by rw [hg]; exact Nat.ne_of_gt (IsS65.lt HI0.out) : gb309 ≠ g)); clear BK287; clear BK288; clear BK289; clear BK290; clear BK291; clear HI0; clear HK; clear HB; have BK287 := n0_; have BK288 := n1_; have BK289 := n2_; have BK290 := n3_; have BK291 := n4_; have HI0 := n5_; have HK := n6_; have HB := n7_; have BK309 := n8_; have GW309 := n9_; have GE309 := n10_; have NB287_309 := n11_; have NB309_287 := n12_; have NB288_309 := n13_; have NB309_288 := n14_; have NB289_309 := n15_; have NB309_289 := n16_; have NB290_309 := n17_; have NB309_290 := n18_; have NB291_309 := n19_; have NB309_291 := n20_; have NB0_309 := n21_; have NB309_0 := n22_; clear n0_ n1_ n2_ n3_ n4_ n5_ n6_ n7_ n8_ n9_ n10_ n11_ n12_ n13_ n14_ n15_ n16_ n17_ n18_ n19_ n20_ n21_ n22_; clear hb hbox hg; have hnb66 := NB309_287.out; have hnc66 := NB287_309.out; have hnb67 := NB309_288.out; have hnc67 := NB288_309.out; have hnb68 := NB309_289.out; have hnc68 := NB289_309.out; have hnb69 := NB309_290.out; have hnc69 := NB290_309.out; have hnb70 := NB309_291.out; have hnc70 := NB291_309.out; have hnb71 := NB309_0.out; have hnc71 := NB0_309.out; have hcz72_0 := blk_cells3 (w := w65) (g := gb309) BK309.out; have hfz72_0 := blk_frozen BK309.out))
       (repeat (rw [drewN_self w65]; generalize hq_ : World.drewN w65 _ = w65; have n0_ := Aside0.mk (blk_at hq_ BK287.out); have n1_ := Aside0.mk (blk_at hq_ BK288.out); have n2_ := Aside0.mk (blk_at hq_ BK289.out); have n3_ := Aside0.mk (blk_at hq_ BK290.out); have n4_ := Aside0.mk (blk_at hq_ BK291.out); have n5_ := Aside0.mk (blk_at hq_ BK309.out); have n6_ := Aside0.mk (IsS65.at_ hq_ HI0.out); have n7_ := Aside0.mk (keep_at hq_ HK.out); have n8_ := Aside0.mk (below_at hq_ HB.out); clear hq_ BK287 BK288 BK289 BK290 BK291 BK309 HI0 HK HB; have BK287 := n0_; have BK288 := n1_; have BK289 := n2_; have BK290 := n3_; have BK291 := n4_; have BK309 := n5_; have HI0 := n6_; have HK := n7_; have HB := n8_; clear n0_ n1_ n2_ n3_ n4_ n5_ n6_ n7_ n8_))
       obtain ⟨w73, hW_⟩ : ∃ W_, W_ = (((w65.setCell ⟨gb309, 0, none⟩ (.bool true)).setCell ⟨gb309, 1, none⟩ (.int .i64 a1_4)).setCell ⟨gb309, 2, none⟩ (.int .i64 a1_5)) := ⟨_, rfl⟩
       have n0_ : Aside0 (w73.heap[gb287]? = some (.cells #[.bool a1_0, .int .i64 a1_1, .int .i64 a1_2, .bool true, .int .i64 a1_4, .int .i64 a1_5, .bool a1_6, .int .i64 a1_7, .int .i64 a1_8] 42 (0, 0))) := ⟨by rw [hW_]; repeat (first | exact BK287.out | refine blk_far ?_ NB287_309.out _ | (with_reducible first | refine blk_drewN ?_ _ | refine blk_drew ?_ | refine blk_alloc ?_ _))⟩
       have n1_ : Aside0 (w73.heap[gb288]? = some (.cells #[.int .i64 a2_0, .int .i64 a2_1, .int .i64 a2_2] 37 (0, 0))) := ⟨by rw [hW_]; repeat (first | exact BK288.out | refine blk_far ?_ NB288_309.out _ | (with_reducible first | refine blk_drewN ?_ _ | refine blk_drew ?_ | refine blk_alloc ?_ _))⟩
       have n2_ : Aside0 (w73.heap[gb289]? = some (.cells #[.int .i64 a3_0, .int .i64 a3_1, .int .i64 a3_2] 37 (0, 0))) := ⟨by rw [hW_]; repeat (first | exact BK289.out | refine blk_far ?_ NB289_309.out _ | (with_reducible first | refine blk_drewN ?_ _ | refine blk_drew ?_ | refine blk_alloc ?_ _))⟩
       have n3_ : Aside0 (w73.heap[gb290]? = some (.cells #[.int .i64 x291000_1, .int .i64 x291001_1, .int .i64 x291002_1] 37 (0, 0))) := ⟨by rw [hW_]; repeat (first | exact BK290.out | refine blk_far ?_ NB290_309.out _ | (with_reducible first | refine blk_drewN ?_ _ | refine blk_drew ?_ | refine blk_alloc ?_ _))⟩
       have n4_ : Aside0 (w73.heap[gb291]? = some (.cells #[.int .i64 x292000_1, .int .i64 x292001_1, .int .i64 x292002_1] 37 (0, 0))) := ⟨by rw [hW_]; repeat (first | exact BK291.out | refine blk_far ?_ NB291_309.out _ | (with_reducible first | refine blk_drewN ?_ _ | refine blk_drew ?_ | refine blk_alloc ?_ _))⟩
       have n5_ : Aside0 (w73.heap[gb309]? = some (.cells #[.bool true, .int .i64 a1_4, .int .i64 a1_5] 41 (0, 0))) := ⟨by rw [hW_]; (with_reducible repeat (first | refine blk_drewN ?_ _ | refine blk_drew ?_ | refine blk_alloc ?_ _)); refine blk_put (cs := #[.bool true, .int .i64 a1_4, .int .i64 0]) ?_ 2 _ rfl; (with_reducible repeat (first | refine blk_drewN ?_ _ | refine blk_drew ?_ | refine blk_alloc ?_ _)); refine blk_put (cs := #[.bool true, .int .i64 0, .int .i64 0]) ?_ 1 _ rfl; (with_reducible repeat (first | refine blk_drewN ?_ _ | refine blk_drew ?_ | refine blk_alloc ?_ _)); refine blk_put (cs := #[.bool false, .int .i64 0, .int .i64 0]) ?_ 0 _ rfl; (with_reducible repeat (first | refine blk_drewN ?_ _ | refine blk_drew ?_ | refine blk_alloc ?_ _)); exact BK309.out⟩
       have n6_ : Aside0 (IsS65 w0 w73 g x1000_1 x1001_1 x1002_1 x1003_1) := ⟨by rw [hW_]; repeat (first | (with_reducible first | exact HI0.out | apply IsS65.alloc | apply IsS65.drewN | apply IsS65.drew | apply IsS65.set_0 | apply IsS65.set_1 | apply IsS65.set_2 | apply IsS65.set_3 | apply IsS65.farb NB0_287.out | apply IsS65.farb NB0_288.out | apply IsS65.farb NB0_289.out | apply IsS65.farb NB0_290.out | apply IsS65.farb NB0_291.out | apply IsS65.farb NB0_309.out) | exact HI0.out)⟩
       have n7_ : Aside0 (KeepBut w w73 g none) := ⟨by rw [hW_]; repeat (first | (with_reducible first | exact HK.out | apply KeepBut.set_ | apply keep_drewN | apply keep_drew | apply keep_alloc | refine keep_far ?_ GW287.out _ | refine keep_far ?_ GW288.out _ | refine keep_far ?_ GW289.out _ | refine keep_far ?_ GW290.out _ | refine keep_far ?_ GW291.out _ | refine keep_far ?_ GW309.out _) | exact HK.out)⟩
       have n8_ : Aside0 (Below w0.heap.size w0 w73) := ⟨by rw [hW_]; repeat (first | (with_reducible first | exact HB.out | apply below_alloc | apply pw_below_drewN | apply below_drew1 | refine below_set ?_ (IsS65.ge HI0.out) | refine below_set ?_ GE287.out | refine below_set ?_ GE288.out | refine below_set ?_ GE289.out | refine below_set ?_ GE290.out | refine below_set ?_ GE291.out | refine below_set ?_ GE309.out) | exact HB.out)⟩
       (try clear BK287)
       (try clear BK288)
       (try clear BK289)
       (try clear BK290)
       (try clear BK291)
       (try clear BK309)
       (try clear HI0)
       (try clear HK)
       (try clear HB)
       rw [← hW_]
       clear hW_
       have BK287 := n0_
       have BK288 := n1_
       have BK289 := n2_
       have BK290 := n3_
       have BK291 := n4_
       have BK309 := n5_
       have HI0 := n6_
       have HK := n7_
       have HB := n8_
       clear n0_ n1_ n2_ n3_ n4_ n5_ n6_ n7_ n8_
       have n0_ := Aside0.mk (blk_drew BK287.out)
       have n1_ := Aside0.mk (blk_drew BK288.out)
       have n2_ := Aside0.mk (blk_drew BK289.out)
       have n3_ := Aside0.mk (blk_drew BK290.out)
       have n4_ := Aside0.mk (blk_drew BK291.out)
       have n5_ := Aside0.mk (blk_drew BK309.out)
       have n6_ := Aside0.mk (IsS65.drew HI0.out)
       have n7_ := Aside0.mk (keep_drew HK.out)
       have n8_ := Aside0.mk (below_drew1 HB.out)
       clear BK287
       clear BK288
       clear BK289
       clear BK290
       clear BK291
       clear BK309
       clear HI0
       clear HK
       clear HB
       have BK287 := n0_
       have BK288 := n1_
       have BK289 := n2_
       have BK290 := n3_
       have BK291 := n4_
       have BK309 := n5_
       have HI0 := n6_
       have HK := n7_
       have HB := n8_
       clear n0_ n1_ n2_ n3_ n4_ n5_ n6_ n7_ n8_
       refine start_ (n := 24) (S := fun w' => w'.cell? ⟨g, 0, none⟩ = some (.int .i64 x1000_1) ∧ w'.cell? ⟨g, 1, none⟩ = some (.int .i64 x1001_1) ∧ w'.cell? ⟨g, 2, none⟩ = some (.int .i64 x1002_1) ∧ w'.cell? ⟨g, 3, none⟩ = some (.int .i64 x1003_1) ∧ w'.cell? ⟨gb309, 0, none⟩ = some (.bool true) ∧ w'.cell? ⟨gb309, 1, none⟩ = some (.int .i64 a1_4) ∧ w'.cell? ⟨gb309, 2, none⟩ = some (.int .i64 a1_5) ∧ w'.cell? ⟨gb288, 0, none⟩ = some (.int .i64 a2_0) ∧ w'.cell? ⟨gb288, 1, none⟩ = some (.int .i64 a2_1) ∧ w'.cell? ⟨gb288, 2, none⟩ = some (.int .i64 a2_2)) (ds := [23]) (lb_ 24 0) (by kernel_rfl) rfl rfl ⟨(cellS65_0 HI0.out.1), (cellS65_1 HI0.out.1), (cellS65_2 HI0.out.1), (cellS65_3 HI0.out.1), (blk_cell BK309.out 0).trans rfl, (blk_cell BK309.out 1).trans rfl, (blk_cell BK309.out 2).trans rfl, (blk_cell BK288.out 0).trans rfl, (blk_cell BK288.out 1).trans rfl, (blk_cell BK288.out 2).trans rfl⟩ (fun hHeld => ?_); refine with_tabW control_Steer_Step.tab10 control_Steer_Step.bits10 (fun HT_ HW_ => ?_)
       generalize w73.drew = w74 at BK287 BK288 BK289 BK290 BK291 BK309 HI0 HK HB hHeld ⊢
       refine pure_ (i := 0) (N := some 23) (v := ?_) (a' := ?_) (lb_ 24 1) rfl rfl (any_of HT_.out (by kernel_rfl)) (fun _ _ _ h => h) (Or.inl ⟨by rfl, ?_⟩) ?_ ?_; rotate_left; (intro w'; go_simp; with_reducible rfl); rotate_left; (simp only [Act.put, List.setIfInBounds_toArray, List.set_cons_zero, List.set_cons_succ, i64_w, i32_w]; rfl)
       refine pure_ (i := 1) (N := some 24) (v := ?_) (a' := ?_) (lb_ 24 3) rfl rfl (any_of HT_.out (by kernel_rfl)) (fun _ _ _ h => h) (Or.inl ⟨by rfl, ?_⟩) ?_ ?_; rotate_left; (intro w'; go_simp; with_reducible rfl); rotate_left; (simp only [Act.put, List.setIfInBounds_toArray, List.set_cons_zero, List.set_cons_succ, i64_w, i32_w]; rfl)
       refine pure_ (i := 2) (N := some 25) (v := ?_) (a' := ?_) (lb_ 24 7) rfl rfl (any_of HT_.out (by kernel_rfl)) (fun _ _ _ h => h) (Or.inl ⟨by rfl, ?_⟩) ?_ ?_; rotate_left; (intro w'; go_simp; with_reducible rfl); rotate_left; (simp only [Act.put, List.setIfInBounds_toArray, List.set_cons_zero, List.set_cons_succ, i64_w, i32_w]; rfl)
       refine pure_ (i := 3) (N := some 26) (v := ?_) (a' := ?_) (lb_ 24 15) rfl rfl (any_of HT_.out (by kernel_rfl)) (fun _ _ _ h => h) (Or.inl ⟨by rfl, ?_⟩) ?_ ?_; rotate_left; (intro w'; go_simp; with_reducible rfl); rotate_left; (simp only [Act.put, List.setIfInBounds_toArray, List.set_cons_zero, List.set_cons_succ, i64_w, i32_w]; rfl)
       refine pure_ (i := 4) (N := some 27) (v := ?_) (a' := ?_) (lb_ 24 31) rfl rfl (any_of HT_.out (by kernel_rfl)) (fun _ _ _ h => h) (Or.inl ⟨by rfl, ?_⟩) ?_ ?_; rotate_left; (intro w'; go_simp; with_reducible rfl); rotate_left; (simp only [Act.put, List.setIfInBounds_toArray, List.set_cons_zero, List.set_cons_succ, i64_w, i32_w]; rfl)
       refine pure_ (i := 5) (N := some 28) (v := ?_) (a' := ?_) (lb_ 24 63) rfl rfl (any_of HT_.out (by kernel_rfl)) (fun _ _ _ h => h) (Or.inl ⟨by rfl, ?_⟩) ?_ ?_; rotate_left; (intro w'; go_simp; with_reducible rfl); rotate_left; (simp only [Act.put, List.setIfInBounds_toArray, List.set_cons_zero, List.set_cons_succ, i64_w, i32_w]; rfl)
       refine pure_ (i := 6) (N := some 29) (v := ?_) (a' := ?_) (lb_ 24 127) rfl rfl (any_of HT_.out (by kernel_rfl)) (fun _ _ _ h => h) (Or.inl ⟨by rfl, ?_⟩) ?_ ?_; rotate_left; (intro w'; go_simp; with_reducible rfl); rotate_left; (simp only [Act.put, List.setIfInBounds_toArray, List.set_cons_zero, List.set_cons_succ, i64_w, i32_w]; rfl)
       refine pure_ (i := 8) (N := some 31) (v := ?_) (a' := ?_) (lb_ 24 383) rfl rfl (any_of HT_.out (by kernel_rfl)) (fun _ _ _ h => h) (Or.inl ⟨by rfl, ?_⟩) ?_ ?_; rotate_left; (intro w'; go_simp; with_reducible rfl); rotate_left; (simp only [Act.put, List.setIfInBounds_toArray, List.set_cons_zero, List.set_cons_succ, i64_w, i32_w]; rfl)
       refine pure_ (i := 9) (N := some 32) (v := ?_) (a' := ?_) (lb_ 24 895) rfl rfl (any_of HT_.out (by kernel_rfl)) (fun _ _ _ h => h) (Or.inl ⟨by rfl, ?_⟩) ?_ ?_; rotate_left; (intro w'; go_simp; with_reducible rfl); rotate_left; (simp only [Act.put, List.setIfInBounds_toArray, List.set_cons_zero, List.set_cons_succ, i64_w, i32_w]; rfl)
       refine pure_ (i := 11) (N := some 34) (v := ?_) (a' := ?_) (lb_ 24 2943) rfl rfl (any_of HT_.out (by kernel_rfl)) (fun _ _ _ h => h) (Or.inl ⟨by rfl, ?_⟩) ?_ ?_; rotate_left; (intro w'; go_simp; with_reducible rfl); rotate_left; (simp only [Act.put, List.setIfInBounds_toArray, List.set_cons_zero, List.set_cons_succ, i64_w, i32_w]; rfl)
       refine pure_ (i := 12) (N := some 35) (v := ?_) (a' := ?_) (lb_ 24 7039) rfl rfl (any_of HT_.out (by kernel_rfl)) (fun _ _ _ h => h) (Or.inl ⟨by rfl, ?_⟩) ?_ ?_; rotate_left; (intro w'; go_simp; with_reducible rfl); rotate_left; (simp only [Act.put, List.setIfInBounds_toArray, List.set_cons_zero, List.set_cons_succ, i64_w, i32_w]; rfl)
       refine pure_ (i := 15) (N := some 38) (v := ?_) (a' := ?_) (lb_ 24 39807) rfl rfl (any_of HT_.out (by kernel_rfl)) (fun _ _ _ h => h) (Or.inl ⟨by rfl, ?_⟩) ?_ ?_; rotate_left; (intro w'; go_simp; with_reducible rfl); rotate_left; (simp only [Act.put, List.setIfInBounds_toArray, List.set_cons_zero, List.set_cons_succ, i64_w, i32_w]; rfl)
       refine pure_ (i := 16) (N := some 39) (v := ?_) (a' := ?_) (lb_ 24 105343) rfl rfl (any_of HT_.out (by kernel_rfl)) (fun _ _ _ h => h) (Or.inl ⟨by rfl, ?_⟩) ?_ ?_; rotate_left; (intro w'; go_simp; with_reducible rfl); rotate_left; (simp only [Act.put, List.setIfInBounds_toArray, List.set_cons_zero, List.set_cons_succ, i64_w, i32_w]; rfl)
       refine pure_ (i := 17) (N := some 40) (v := ?_) (a' := ?_) (lb_ 24 236415) rfl rfl (any_of HT_.out (by kernel_rfl)) (fun _ _ _ h => h) (Or.inl ⟨by rfl, ?_⟩) ?_ ?_; rotate_left; (intro w'; go_simp; with_reducible rfl); rotate_left; (simp only [Act.put, List.setIfInBounds_toArray, List.set_cons_zero, List.set_cons_succ, i64_w, i32_w]; rfl)
       refine pure_ (i := 20) (N := some 43) (v := ?_) (a' := ?_) (lb_ 24 1284991) rfl rfl (any_of HT_.out (by kernel_rfl)) (fun _ _ _ h => h) (Or.inl ⟨by rfl, ?_⟩) ?_ ?_; rotate_left; (intro w'; go_simp; with_reducible rfl); rotate_left; (simp only [Act.put, List.setIfInBounds_toArray, List.set_cons_zero, List.set_cons_succ, i64_w, i32_w]; rfl)
       refine pure_ (i := 21) (N := some 44) (v := ?_) (a' := ?_) (lb_ 24 3382143) rfl rfl (any_of HT_.out (by kernel_rfl)) (fun _ _ _ h => h) (Or.inl ⟨by rfl, ?_⟩) ?_ ?_; rotate_left; (intro w'; go_simp; with_reducible rfl); rotate_left; (simp only [Act.put, List.setIfInBounds_toArray, List.set_cons_zero, List.set_cons_succ, i64_w, i32_w]; rfl)
       refine take_ (i := 7) (N := some 30) (v := ?_) (a' := ?_) (lb_ 24 3382271) rfl rfl (take_ofW HT_.out HW_.out (by kernel_rfl)) (fun _ _ _ h => h) (Or.inl ⟨by rfl, ?_⟩) hHeld ?_ ?_; rotate_left; (rintro w' ⟨s0, s1, s2, s3, s4, s5, s6, s7, s8, s9⟩; go_simp; with_reducible rfl); rotate_left; (simp only [Act.put, List.setIfInBounds_toArray, List.set_cons_zero, List.set_cons_succ, i64_w, i32_w]; rfl)
       refine take_ (i := 10) (N := some 33) (v := ?_) (a' := ?_) (lb_ 24 3383295) rfl rfl (take_ofW HT_.out HW_.out (by kernel_rfl)) (fun _ _ _ h => h) (Or.inl ⟨by rfl, ?_⟩) hHeld ?_ ?_; rotate_left; (rintro w' ⟨s0, s1, s2, s3, s4, s5, s6, s7, s8, s9⟩; go_simp; with_reducible rfl); rotate_left; (simp only [Act.put, List.setIfInBounds_toArray, List.set_cons_zero, List.set_cons_succ, i64_w, i32_w]; rfl)
       refine take_ (i := 13) (N := some 36) (v := ?_) (a' := ?_) (lb_ 24 3391487) rfl rfl (take_ofW HT_.out HW_.out (by kernel_rfl)) (fun _ _ _ h => h) (Or.inl ⟨by rfl, ?_⟩) hHeld ?_ ?_; rotate_left; (rintro w' ⟨s0, s1, s2, s3, s4, s5, s6, s7, s8, s9⟩; go_simp; with_reducible rfl); rotate_left; (simp only [Act.put, List.setIfInBounds_toArray, List.set_cons_zero, List.set_cons_succ, i64_w, i32_w]; rfl)
       refine take_ (i := 18) (N := some 41) (v := ?_) (a' := ?_) (lb_ 24 3653631) rfl rfl (take_ofW HT_.out HW_.out (by kernel_rfl)) (fun _ _ _ h => h) (Or.inl ⟨by rfl, ?_⟩) hHeld ?_ ?_; rotate_left; (rintro w' ⟨s0, s1, s2, s3, s4, s5, s6, s7, s8, s9⟩; go_simp; with_reducible rfl); rotate_left; (simp only [Act.put, List.setIfInBounds_toArray, List.set_cons_zero, List.set_cons_succ, i64_w, i32_w]; rfl)
       refine one_ (i := 14) (N := some 37) (lb_ 24 3670015) rfl rfl (one_of HT_.out (by kernel_rfl)) (by decide) (fun K hK => ?_)
       refine goesv_ Try.func40 (by kernel_rfl) rfl #[.pointer (some ⟨g, 0, none⟩), .agg #[.bool true, .int .i64 a1_4, .int .i64 a1_5], .int .i64 a2_1] (by rfl) rfl rfl rfl (by (try simp only [List.map_toArray, List.map_cons, List.map_nil]); first | done | rfl | (simp only [List.length_drop, List.length_take]; rfl)) ?_
       with_reducible refine (control_Steer_place.calls k1 g x1000_1 x1001_1 x1002_1 x1003_1 true a1_4 a1_5 a2_1 t310 x1000_1 x1001_1 x1002_1 x1003_1 w0 _ ?side1 ?side2 A61.out).mono ?_
       (case side1 => repeat (first | (with_reducible first | exact HI0.out | apply IsS65.alloc | apply IsS65.drewN | apply IsS65.drew | apply IsS65.set_0 | apply IsS65.set_1 | apply IsS65.set_2 | apply IsS65.set_3 | apply IsS65.farb NB0_287.out | apply IsS65.farb NB0_288.out | apply IsS65.farb NB0_289.out | apply IsS65.farb NB0_290.out | apply IsS65.farb NB0_291.out | apply IsS65.farb NB0_309.out) | exact HI0.out))
       (case side2 => repeat (first | (with_reducible first | exact HB.out | apply below_alloc | apply pw_below_drewN | apply below_drew1 | refine below_set ?_ (IsS65.ge HI0.out) | refine below_set ?_ GE287.out | refine below_set ?_ GE288.out | refine below_set ?_ GE289.out | refine below_set ?_ GE290.out | refine below_set ?_ GE291.out | refine below_set ?_ GE309.out) | exact HB.out))
       rintro e w75 ⟨rfl, hi, hb, hk⟩
       refine ⟨_, rfl, ?_⟩
       have n0_ := Aside0.mk (KeepBut.blk hk BK287.out NB287_0.out (by simp))
       have n1_ := Aside0.mk (KeepBut.blk hk BK288.out NB288_0.out (by simp))
       have n2_ := Aside0.mk (KeepBut.blk hk BK289.out NB289_0.out (by simp))
       have n3_ := Aside0.mk (KeepBut.blk hk BK290.out NB290_0.out (by simp))
       have n4_ := Aside0.mk (KeepBut.blk hk BK291.out NB291_0.out (by simp))
       have n5_ := Aside0.mk (KeepBut.blk hk BK309.out NB309_0.out (by simp))
       have n6_ := Aside0.mk (KeepBut.trans HK.out hk (.inl rfl))
       have n7_ := Aside0.mk (hb)
       have n8_ := Aside0.mk (hi)
       clear BK287
       clear BK288
       clear BK289
       clear BK290
       clear BK291
       clear BK309
       clear HK
       clear HB
       clear HI0
       have BK287 := n0_
       have BK288 := n1_
       have BK289 := n2_
       have BK290 := n3_
       have BK291 := n4_
       have BK309 := n5_
       have HK := n6_
       have HB := n7_
       have HI0 := n8_
       clear n0_ n1_ n2_ n3_ n4_ n5_ n6_ n7_ n8_
       (try clear hb)
       (try clear hb2)
       (try clear hk)
       (try clear hi)
       refine hK.out _ _ ⟨(cellS65_0 HI0.out.1), (cellS65_1 HI0.out.1), (cellS65_2 HI0.out.1), (cellS65_3 HI0.out.1), (blk_cell BK309.out 0).trans rfl, (blk_cell BK309.out 1).trans rfl, (blk_cell BK309.out 2).trans rfl, (blk_cell BK288.out 0).trans rfl, (blk_cell BK288.out 1).trans rfl, (blk_cell BK288.out 2).trans rfl⟩ (fun hHeld => ?_)
       clear hK K
       refine norm_ (a' := ?_) ?_ ?_
       rotate_left
       ·show Act.put _ (some 37) _ = _
        simp only [Act.put, List.setIfInBounds_toArray, List.set_cons_zero, List.set_cons_succ, i64_w, i32_w]
        rfl
       refine one_ (i := 19) (N := some 42) (lb_ 24 4194303) rfl rfl (one_of HT_.out (by kernel_rfl)) (by decide) (fun K hK => ?_)
       refine goes_ Try.func41 (by kernel_rfl) rfl #[.int .i64 x1002_1, .int .i64 t310, .int .i64 x1000_1] (by rfl) rfl rfl (by (try simp only [List.map_toArray, List.map_cons, List.map_nil]); first | done | rfl | (simp only [List.length_drop, List.length_take]; rfl)) ?_
       with_reducible refine (fix_Slew.calls k1 x1002_1 t310 x1000_1 t315 _ A62.out).mono ?_
       rintro e w76 ⟨rfl, hb⟩
       refine ⟨_, rfl, ?_⟩
       have n0_ := Aside0.mk (blk_below BK287.out hb)
       have n1_ := Aside0.mk (blk_below BK288.out hb)
       have n2_ := Aside0.mk (blk_below BK289.out hb)
       have n3_ := Aside0.mk (blk_below BK290.out hb)
       have n4_ := Aside0.mk (blk_below BK291.out hb)
       have n5_ := Aside0.mk (IsS65.below HI0.out hb)
       have n6_ := Aside0.mk (blk_below BK309.out hb)
       have n7_ := Aside0.mk (KeepBut.trans HK.out (KeepBut.of_below hb g none) (.inl rfl))
       have n8_ := Aside0.mk (below_step HB.out hb)
       clear BK287
       clear BK288
       clear BK289
       clear BK290
       clear BK291
       clear HI0
       clear BK309
       clear HK
       clear HB
       have BK287 := n0_
       have BK288 := n1_
       have BK289 := n2_
       have BK290 := n3_
       have BK291 := n4_
       have HI0 := n5_
       have BK309 := n6_
       have HK := n7_
       have HB := n8_
       clear n0_ n1_ n2_ n3_ n4_ n5_ n6_ n7_ n8_
       (try clear hb)
       (try clear hb2)
       (try clear hk)
       (try clear hi)
       refine hK.out _ _ ⟨(cellS65_0 HI0.out.1), (cellS65_1 HI0.out.1), (cellS65_2 HI0.out.1), (cellS65_3 HI0.out.1), (blk_cell BK309.out 0).trans rfl, (blk_cell BK309.out 1).trans rfl, (blk_cell BK309.out 2).trans rfl, (blk_cell BK288.out 0).trans rfl, (blk_cell BK288.out 1).trans rfl, (blk_cell BK288.out 2).trans rfl⟩ (fun hHeld => ?_)
       clear hK K
       refine norm_ (a' := ?_) ?_ ?_
       rotate_left
       ·show Act.put _ (some 42) _ = _
        simp only [Act.put, List.setIfInBounds_toArray, List.set_cons_zero, List.set_cons_succ, i64_w, i32_w]
        rfl
       refine pure_ (i := 22) (N := some 45) (v := ?_) (a' := ?_) (lb_ 24 8388607) rfl rfl (any_of HT_.out (by kernel_rfl)) (fun _ _ _ h => h) (Or.inl ⟨by rfl, ?_⟩) ?_ ?_; rotate_left; (intro w'; go_simp; with_reducible rfl); rotate_left; (simp only [Act.put, List.setIfInBounds_toArray, List.set_cons_zero, List.set_cons_succ, i64_w, i32_w]; rfl)
       refine last_ (i := 23) (N := none) (lb_ 24 16777215) rfl rfl (one_of HT_.out (by kernel_rfl)) (by decide) (fun K hK => ?_)
       have hs77 := cellS65_2 HI0.out.1
       have hfs77 := blk_frozen HI0.out.1 2
       have hns77_0 := NB287_0.out
       have hns77_1 := NB288_0.out
       have hns77_2 := NB289_0.out
       have hns77_3 := NB290_0.out
       have hns77_4 := NB291_0.out
       have hns77_5 := NB309_0.out
       have hms77_0 := NB0_287.out
       have hms77_1 := NB0_288.out
       have hms77_2 := NB0_289.out
       have hms77_3 := NB0_290.out
       have hms77_4 := NB0_291.out
       have hms77_5 := NB0_309.out
       refine skip_ (w1 := ?_) (by rfl) rfl ?_ ?_
       rotate_left
       ·go_simp
        rfl
       refine hK.out _ _ ?_
       clear hK K
       refine done_ (done_of HT_.out (by kernel_rfl)) ?_
       try go_wp2
       (repeat (rw [drewN_self w76]; generalize hq_ : World.drewN w76 _ = w76; have n0_ := Aside0.mk (blk_at hq_ BK287.out); have n1_ := Aside0.mk (blk_at hq_ BK288.out); have n2_ := Aside0.mk (blk_at hq_ BK289.out); have n3_ := Aside0.mk (blk_at hq_ BK290.out); have n4_ := Aside0.mk (blk_at hq_ BK291.out); have n5_ := Aside0.mk (blk_at hq_ BK309.out); have n6_ := Aside0.mk (IsS65.at_ hq_ HI0.out); have n7_ := Aside0.mk (keep_at hq_ HK.out); have n8_ := Aside0.mk (below_at hq_ HB.out); clear hq_ BK287 BK288 BK289 BK290 BK291 BK309 HI0 HK HB; have BK287 := n0_; have BK288 := n1_; have BK289 := n2_; have BK290 := n3_; have BK291 := n4_; have BK309 := n5_; have HI0 := n6_; have HK := n7_; have HB := n8_; clear n0_ n1_ n2_ n3_ n4_ n5_ n6_ n7_ n8_))
       obtain ⟨w78, hW_⟩ : ∃ W_, W_ = (w76.setCell ⟨g, 2, none⟩ (.int .i64 t315)) := ⟨_, rfl⟩
       have n0_ : Aside0 (w78.heap[gb287]? = some (.cells #[.bool a1_0, .int .i64 a1_1, .int .i64 a1_2, .bool true, .int .i64 a1_4, .int .i64 a1_5, .bool a1_6, .int .i64 a1_7, .int .i64 a1_8] 42 (0, 0))) := ⟨by rw [hW_]; repeat (first | exact BK287.out | refine blk_far ?_ NB287_0.out _ | (with_reducible first | refine blk_drewN ?_ _ | refine blk_drew ?_ | refine blk_alloc ?_ _))⟩
       have n1_ : Aside0 (w78.heap[gb288]? = some (.cells #[.int .i64 a2_0, .int .i64 a2_1, .int .i64 a2_2] 37 (0, 0))) := ⟨by rw [hW_]; repeat (first | exact BK288.out | refine blk_far ?_ NB288_0.out _ | (with_reducible first | refine blk_drewN ?_ _ | refine blk_drew ?_ | refine blk_alloc ?_ _))⟩
       have n2_ : Aside0 (w78.heap[gb289]? = some (.cells #[.int .i64 a3_0, .int .i64 a3_1, .int .i64 a3_2] 37 (0, 0))) := ⟨by rw [hW_]; repeat (first | exact BK289.out | refine blk_far ?_ NB289_0.out _ | (with_reducible first | refine blk_drewN ?_ _ | refine blk_drew ?_ | refine blk_alloc ?_ _))⟩
       have n3_ : Aside0 (w78.heap[gb290]? = some (.cells #[.int .i64 x291000_1, .int .i64 x291001_1, .int .i64 x291002_1] 37 (0, 0))) := ⟨by rw [hW_]; repeat (first | exact BK290.out | refine blk_far ?_ NB290_0.out _ | (with_reducible first | refine blk_drewN ?_ _ | refine blk_drew ?_ | refine blk_alloc ?_ _))⟩
       have n4_ : Aside0 (w78.heap[gb291]? = some (.cells #[.int .i64 x292000_1, .int .i64 x292001_1, .int .i64 x292002_1] 37 (0, 0))) := ⟨by rw [hW_]; repeat (first | exact BK291.out | refine blk_far ?_ NB291_0.out _ | (with_reducible first | refine blk_drewN ?_ _ | refine blk_drew ?_ | refine blk_alloc ?_ _))⟩
       have n5_ : Aside0 (w78.heap[gb309]? = some (.cells #[.bool true, .int .i64 a1_4, .int .i64 a1_5] 41 (0, 0))) := ⟨by rw [hW_]; repeat (first | exact BK309.out | refine blk_far ?_ NB309_0.out _ | (with_reducible first | refine blk_drewN ?_ _ | refine blk_drew ?_ | refine blk_alloc ?_ _))⟩
       have n6_ : Aside0 (IsS65 w0 w78 g x1000_1 x1001_1 t315 x1003_1) := ⟨by rw [hW_]; repeat (first | (with_reducible first | exact HI0.out | apply IsS65.alloc | apply IsS65.drewN | apply IsS65.drew | apply IsS65.set_0 | apply IsS65.set_1 | apply IsS65.set_2 | apply IsS65.set_3 | apply IsS65.farb NB0_287.out | apply IsS65.farb NB0_288.out | apply IsS65.farb NB0_289.out | apply IsS65.farb NB0_290.out | apply IsS65.farb NB0_291.out | apply IsS65.farb NB0_309.out) | exact HI0.out)⟩
       have n7_ : Aside0 (KeepBut w w78 g none) := ⟨by rw [hW_]; repeat (first | (with_reducible first | exact HK.out | apply KeepBut.set_ | apply keep_drewN | apply keep_drew | apply keep_alloc | refine keep_far ?_ GW287.out _ | refine keep_far ?_ GW288.out _ | refine keep_far ?_ GW289.out _ | refine keep_far ?_ GW290.out _ | refine keep_far ?_ GW291.out _ | refine keep_far ?_ GW309.out _) | exact HK.out)⟩
       have n8_ : Aside0 (Below w0.heap.size w0 w78) := ⟨by rw [hW_]; repeat (first | (with_reducible first | exact HB.out | apply below_alloc | apply pw_below_drewN | apply below_drew1 | refine below_set ?_ (IsS65.ge HI0.out) | refine below_set ?_ GE287.out | refine below_set ?_ GE288.out | refine below_set ?_ GE289.out | refine below_set ?_ GE290.out | refine below_set ?_ GE291.out | refine below_set ?_ GE309.out) | exact HB.out)⟩
       (try clear BK287)
       (try clear BK288)
       (try clear BK289)
       (try clear BK290)
       (try clear BK291)
       (try clear BK309)
       (try clear HI0)
       (try clear HK)
       (try clear HB)
       rw [← hW_]
       clear hW_
       have BK287 := n0_
       have BK288 := n1_
       have BK289 := n2_
       have BK290 := n3_
       have BK291 := n4_
       have BK309 := n5_
       have HI0 := n6_
       have HK := n7_
       have HB := n8_
       clear n0_ n1_ n2_ n3_ n4_ n5_ n6_ n7_ n8_
       have n0_ := Aside0.mk (blk_drew BK287.out)
       have n1_ := Aside0.mk (blk_drew BK288.out)
       have n2_ := Aside0.mk (blk_drew BK289.out)
       have n3_ := Aside0.mk (blk_drew BK290.out)
       have n4_ := Aside0.mk (blk_drew BK291.out)
       have n5_ := Aside0.mk (blk_drew BK309.out)
       have n6_ := Aside0.mk (IsS65.drew HI0.out)
       have n7_ := Aside0.mk (keep_drew HK.out)
       have n8_ := Aside0.mk (below_drew1 HB.out)
       clear BK287
       clear BK288
       clear BK289
       clear BK290
       clear BK291
       clear BK309
       clear HI0
       clear HK
       clear HB
       have BK287 := n0_
       have BK288 := n1_
       have BK289 := n2_
       have BK290 := n3_
       have BK291 := n4_
       have BK309 := n5_
       have HI0 := n6_
       have HK := n7_
       have HB := n8_
       clear n0_ n1_ n2_ n3_ n4_ n5_ n6_ n7_ n8_
       refine start_ (n := 14) (S := fun w' => w'.cell? ⟨g, 0, none⟩ = some (.int .i64 x1000_1) ∧ w'.cell? ⟨g, 1, none⟩ = some (.int .i64 x1001_1) ∧ w'.cell? ⟨g, 2, none⟩ = some (.int .i64 t315) ∧ w'.cell? ⟨g, 3, none⟩ = some (.int .i64 x1003_1) ∧ w'.cell? ⟨gb289, 0, none⟩ = some (.int .i64 a3_0) ∧ w'.cell? ⟨gb289, 1, none⟩ = some (.int .i64 a3_1) ∧ w'.cell? ⟨gb289, 2, none⟩ = some (.int .i64 a3_2)) (ds := []) (lb_ 14 0) (by kernel_rfl) rfl rfl ⟨(cellS65_0 HI0.out.1), (cellS65_1 HI0.out.1), (cellS65_2 HI0.out.1), (cellS65_3 HI0.out.1), (blk_cell BK289.out 0).trans rfl, (blk_cell BK289.out 1).trans rfl, (blk_cell BK289.out 2).trans rfl⟩ (fun hHeld => ?_); refine with_tabW control_Steer_Step.tab11 control_Steer_Step.bits11 (fun HT_ HW_ => ?_)
       generalize w78.drew = w79 at BK287 BK288 BK289 BK290 BK291 BK309 HI0 HK HB hHeld ⊢
       refine pure_ (i := 0) (N := some 46) (v := ?_) (a' := ?_) (lb_ 14 1) rfl rfl (any_of HT_.out (by kernel_rfl)) (fun _ _ _ h => h) (Or.inl ⟨by rfl, ?_⟩) ?_ ?_; rotate_left; (intro w'; go_simp; with_reducible rfl); rotate_left; (simp only [Act.put, List.setIfInBounds_toArray, List.set_cons_zero, List.set_cons_succ, i64_w, i32_w]; rfl)
       refine pure_ (i := 1) (N := some 47) (v := ?_) (a' := ?_) (lb_ 14 3) rfl rfl (any_of HT_.out (by kernel_rfl)) (fun _ _ _ h => h) (Or.inl ⟨by rfl, ?_⟩) ?_ ?_; rotate_left; (intro w'; go_simp; with_reducible rfl); rotate_left; (simp only [Act.put, List.setIfInBounds_toArray, List.set_cons_zero, List.set_cons_succ, i64_w, i32_w]; rfl)
       refine pure_ (i := 2) (N := some 48) (v := ?_) (a' := ?_) (lb_ 14 7) rfl rfl (any_of HT_.out (by kernel_rfl)) (fun _ _ _ h => h) (Or.inl ⟨by rfl, ?_⟩) ?_ ?_; rotate_left; (intro w'; go_simp; with_reducible rfl); rotate_left; (simp only [Act.put, List.setIfInBounds_toArray, List.set_cons_zero, List.set_cons_succ, i64_w, i32_w]; rfl)
       refine pure_ (i := 3) (N := some 49) (v := ?_) (a' := ?_) (lb_ 14 15) rfl rfl (any_of HT_.out (by kernel_rfl)) (fun _ _ _ h => h) (Or.inl ⟨by rfl, ?_⟩) ?_ ?_; rotate_left; (intro w'; go_simp; with_reducible rfl); rotate_left; (simp only [Act.put, List.setIfInBounds_toArray, List.set_cons_zero, List.set_cons_succ, i64_w, i32_w]; rfl)
       refine pure_ (i := 4) (N := some 50) (v := ?_) (a' := ?_) (lb_ 14 31) rfl rfl (any_of HT_.out (by kernel_rfl)) (fun _ _ _ h => h) (Or.inl ⟨by rfl, ?_⟩) ?_ ?_; rotate_left; (intro w'; go_simp; with_reducible rfl); rotate_left; (simp only [Act.put, List.setIfInBounds_toArray, List.set_cons_zero, List.set_cons_succ, i64_w, i32_w]; rfl)
       refine pure_ (i := 5) (N := some 51) (v := ?_) (a' := ?_) (lb_ 14 63) rfl rfl (any_of HT_.out (by kernel_rfl)) (fun _ _ _ h => h) (Or.inl ⟨by rfl, ?_⟩) ?_ ?_; rotate_left; (intro w'; go_simp; with_reducible rfl); rotate_left; (simp only [Act.put, List.setIfInBounds_toArray, List.set_cons_zero, List.set_cons_succ, i64_w, i32_w]; rfl)
       refine pure_ (i := 7) (N := some 53) (v := ?_) (a' := ?_) (lb_ 14 191) rfl rfl (any_of HT_.out (by kernel_rfl)) (fun _ _ _ h => h) (Or.inl ⟨by rfl, ?_⟩) ?_ ?_; rotate_left; (intro w'; go_simp; with_reducible rfl); rotate_left; (simp only [Act.put, List.setIfInBounds_toArray, List.set_cons_zero, List.set_cons_succ, i64_w, i32_w]; rfl)
       refine pure_ (i := 8) (N := some 54) (v := ?_) (a' := ?_) (lb_ 14 447) rfl rfl (any_of HT_.out (by kernel_rfl)) (fun _ _ _ h => h) (Or.inl ⟨by rfl, ?_⟩) ?_ ?_; rotate_left; (intro w'; go_simp; with_reducible rfl); rotate_left; (simp only [Act.put, List.setIfInBounds_toArray, List.set_cons_zero, List.set_cons_succ, i64_w, i32_w]; rfl)
       refine take_ (i := 6) (N := some 52) (v := ?_) (a' := ?_) (lb_ 14 511) rfl rfl (take_ofW HT_.out HW_.out (by kernel_rfl)) (fun _ _ _ h => h) (Or.inl ⟨by rfl, ?_⟩) hHeld ?_ ?_; rotate_left; (rintro w' ⟨s0, s1, s2, s3, s4, s5, s6⟩; go_simp; with_reducible rfl); rotate_left; (simp only [Act.put, List.setIfInBounds_toArray, List.set_cons_zero, List.set_cons_succ, i64_w, i32_w]; rfl)
       refine take_ (i := 9) (N := some 55) (v := ?_) (a' := ?_) (lb_ 14 1023) rfl rfl (take_ofW HT_.out HW_.out (by kernel_rfl)) (fun _ _ _ h => h) (Or.inl ⟨by rfl, ?_⟩) hHeld ?_ ?_; rotate_left; (rintro w' ⟨s0, s1, s2, s3, s4, s5, s6⟩; go_simp; with_reducible rfl); rotate_left; (simp only [Act.put, List.setIfInBounds_toArray, List.set_cons_zero, List.set_cons_succ, i64_w, i32_w]; rfl)
       refine one_ (i := 10) (N := some 56) (lb_ 14 2047) rfl rfl (one_of HT_.out (by kernel_rfl)) (by decide) (fun K hK => ?_)
       refine goes_ Try.func27 (by kernel_rfl) rfl #[.int .i64 t315, .int .i64 a3_1] (by rfl) rfl rfl (by (try simp only [List.map_toArray, List.map_cons, List.map_nil]); first | done | rfl | (simp only [List.length_drop, List.length_take]; rfl)) ?_
       with_reducible refine (fix_Sub.calls k1 t315 a3_1 t316 _ A63.out).mono ?_
       rintro e w' ⟨rfl, ⟨nd, rfl⟩⟩
       refine ⟨_, rfl, ?_⟩
       refine hK.out _ _ ⟨(cellS65_0 HI0.out.1), (cellS65_1 HI0.out.1), (cellS65_2 HI0.out.1), (cellS65_3 HI0.out.1), (blk_cell BK289.out 0).trans rfl, (blk_cell BK289.out 1).trans rfl, (blk_cell BK289.out 2).trans rfl⟩ (fun hHeld => ?_)
       clear hK K
       refine norm_ (a' := ?_) ?_ ?_
       rotate_left
       ·show Act.put _ (some 56) _ = _
        simp only [Act.put, List.setIfInBounds_toArray, List.set_cons_zero, List.set_cons_succ, i64_w, i32_w]
        rfl
       refine one_ (i := 11) (N := some 57) (lb_ 14 4095) rfl rfl (one_of HT_.out (by kernel_rfl)) (by decide) (fun K hK => ?_)
       refine goes_ Try.func33 (by kernel_rfl) rfl #[.int .i64 t316, .int .i64 (-64), .int .i64 64] (by rfl) rfl rfl (by (try simp only [List.map_toArray, List.map_cons, List.map_nil]); first | done | rfl | (simp only [List.length_drop, List.length_take]; rfl)) ?_
       with_reducible refine (fix_Clamp.calls t316 (-64) 64 t317 _ A64.out).mono ?_
       rintro e w' ⟨rfl, ⟨nd, rfl⟩⟩
       refine ⟨_, rfl, ?_⟩
       refine hK.out _ _ ⟨(cellS65_0 HI0.out.1), (cellS65_1 HI0.out.1), (cellS65_2 HI0.out.1), (cellS65_3 HI0.out.1), (blk_cell BK289.out 0).trans rfl, (blk_cell BK289.out 1).trans rfl, (blk_cell BK289.out 2).trans rfl⟩ (fun hHeld => ?_)
       clear hK K
       refine norm_ (a' := ?_) ?_ ?_
       rotate_left
       ·show Act.put _ (some 57) _ = _
        simp only [Act.put, List.setIfInBounds_toArray, List.set_cons_zero, List.set_cons_succ, i64_w, i32_w]
        rfl
       refine pure_ (i := 12) (N := some 58) (v := ?_) (a' := ?_) (lb_ 14 8191) rfl rfl (any_of HT_.out (by kernel_rfl)) (fun _ _ _ h => h) (Or.inl ⟨by rfl, ?_⟩) ?_ ?_; rotate_left; (intro w'; go_simp; with_reducible rfl); rotate_left; (simp only [Act.put, List.setIfInBounds_toArray, List.set_cons_zero, List.set_cons_succ, i64_w, i32_w]; rfl)
       refine one_ (i := 13) (N := none) (lb_ 14 16383) rfl rfl (one_of HT_.out (by kernel_rfl)) (by decide) (fun K hK => ?_)
       have hs80 : w79.cell? ⟨gb291, 1, none⟩ = some (.int .i64 x292001_1) := (blk_cell BK291.out 1).trans rfl
       have hfs80 := blk_frozen BK291.out 1
       have hns80_0 := NB287_291.out
       have hns80_1 := NB288_291.out
       have hns80_2 := NB289_291.out
       have hns80_3 := NB290_291.out
       have hns80_5 := NB309_291.out
       have hms80_0 := NB291_287.out
       have hms80_1 := NB291_288.out
       have hms80_2 := NB291_289.out
       have hms80_3 := NB291_290.out
       have hms80_5 := NB291_309.out
       refine skip_ (w1 := ?_) (by rfl) rfl ?_ ?_
       rotate_left
       ·go_simp
        rfl
       refine hK.out _ _ ⟨((cell_far (p := ⟨gb291, _, none⟩) NB0_291.out _).trans (hHeld.1)), ((cell_far (p := ⟨gb291, _, none⟩) NB0_291.out _).trans (hHeld.2.1)), ((cell_far (p := ⟨gb291, _, none⟩) NB0_291.out _).trans (hHeld.2.2.1)), ((cell_far (p := ⟨gb291, _, none⟩) NB0_291.out _).trans (hHeld.2.2.2.1)), ((cell_far (p := ⟨gb291, _, none⟩) NB289_291.out _).trans (hHeld.2.2.2.2.1)), ((cell_far (p := ⟨gb291, _, none⟩) NB289_291.out _).trans (hHeld.2.2.2.2.2.1)), ((cell_far (p := ⟨gb291, _, none⟩) NB289_291.out _).trans (hHeld.2.2.2.2.2.2))⟩ (fun hHeld => ?_)
       clear hK K
       refine done_ (done_of HT_.out (by kernel_rfl)) ?_
       try go_wp2
       go_roundg k1
       case measure => have := HK1.out; omega
       case rel => exact ⟨(2), (x1000_1), (x1001_1), (t315), (x1003_1), (x291000_1), (x291001_1), (x291002_1), (x292000_1), (t317), (x292002_1), (by first | rfl | (simp; done) | (simp [*]; done)), H', ⟨by have := HK1.out; omega⟩, ⟨by (with_reducible repeat (first | refine blk_drewN ?_ _ | refine blk_drew ?_ | refine blk_alloc ?_ _)); refine blk_far ?_ NB287_291.out _; (with_reducible repeat (first | refine blk_drewN ?_ _ | refine blk_drew ?_ | refine blk_alloc ?_ _)); exact BK287.out⟩, ⟨by (with_reducible repeat (first | refine blk_drewN ?_ _ | refine blk_drew ?_ | refine blk_alloc ?_ _)); refine blk_far ?_ NB288_291.out _; (with_reducible repeat (first | refine blk_drewN ?_ _ | refine blk_drew ?_ | refine blk_alloc ?_ _)); exact BK288.out⟩, ⟨by (with_reducible repeat (first | refine blk_drewN ?_ _ | refine blk_drew ?_ | refine blk_alloc ?_ _)); refine blk_far ?_ NB289_291.out _; (with_reducible repeat (first | refine blk_drewN ?_ _ | refine blk_drew ?_ | refine blk_alloc ?_ _)); exact BK289.out⟩, ⟨by (with_reducible repeat (first | refine blk_drewN ?_ _ | refine blk_drew ?_ | refine blk_alloc ?_ _)); refine blk_far ?_ NB290_291.out _; (with_reducible repeat (first | refine blk_drewN ?_ _ | refine blk_drew ?_ | refine blk_alloc ?_ _)); exact BK290.out⟩, ⟨by (with_reducible repeat (first | refine blk_drewN ?_ _ | refine blk_drew ?_ | refine blk_alloc ?_ _)); refine blk_put (cs := #[.int .i64 x292000_1, .int .i64 x292001_1, .int .i64 x292002_1]) ?_ 1 _ rfl; (with_reducible repeat (first | refine blk_drewN ?_ _ | refine blk_drew ?_ | refine blk_alloc ?_ _)); exact BK291.out⟩, ⟨by repeat (first | (with_reducible first | exact HI0.out | apply IsS65.alloc | apply IsS65.drewN | apply IsS65.drew | apply IsS65.set_0 | apply IsS65.set_1 | apply IsS65.set_2 | apply IsS65.set_3 | apply IsS65.farb NB0_287.out | apply IsS65.farb NB0_288.out | apply IsS65.farb NB0_289.out | apply IsS65.farb NB0_290.out | apply IsS65.farb NB0_291.out | apply IsS65.farb NB0_309.out) | exact HI0.out)⟩, ⟨by repeat (first | (with_reducible first | exact HK.out | apply KeepBut.set_ | apply keep_drewN | apply keep_drew | apply keep_alloc | refine keep_far ?_ GW287.out _ | refine keep_far ?_ GW288.out _ | refine keep_far ?_ GW289.out _ | refine keep_far ?_ GW290.out _ | refine keep_far ?_ GW291.out _ | refine keep_far ?_ GW309.out _) | exact HK.out)⟩, ⟨by repeat (first | (with_reducible first | exact HB.out | apply below_alloc | apply pw_below_drewN | apply below_drew1 | refine below_set ?_ (IsS65.ge HI0.out) | refine below_set ?_ GE287.out | refine below_set ?_ GE288.out | refine below_set ?_ GE289.out | refine below_set ?_ GE290.out | refine below_set ?_ GE291.out | refine below_set ?_ GE309.out) | exact HB.out)⟩⟩
      ·replace c60 := Bool.eq_false_iff.mpr c60
       subst c60
       have H1 : ((control_Steer_drift.f x1000_1 x1001_1 x1002_1 x1003_1 false a1_4 a1_5 a2_1).bind fun bt318 => ((fix_Slew.f k1 x1002_1 bt318.1 x1000_1).bind fun t323 => ((fix_Sub.f k1 t323 a3_1).bind fun t324 => ((fix_Clamp.f t324 (-64) 64).bind fun t325 => (control_Steer_Step.l0 k1 2 x1000_1 x1001_1 t323 x1003_1 a2_0 a2_1 a2_2 a3_0 a3_1 a3_2 x292000_1 t325 x292002_1 a1_0 a1_1 a1_2 false a1_4 a1_5 a1_6 a1_7 a1_8))))) = some (r1, r2, r3, r4, r5, r6, r7) := by rw [if_neg (show ¬ (false = true) by decide)] at H; exact H
       clear H
       have H := H1
       clear H1
       replace H := Option.bind_eq_some_iff.mp H
       obtain ⟨⟨t318, t319, t320, t321, t322⟩, A810, H⟩ := H
       replace H : ((fix_Slew.f k1 x1002_1 t318 x1000_1).bind fun t323 => ((fix_Sub.f k1 t323 a3_1).bind fun t324 => ((fix_Clamp.f t324 (-64) 64).bind fun t325 => (control_Steer_Step.l0 k1 2 x1000_1 x1001_1 t323 x1003_1 a2_0 a2_1 a2_2 a3_0 a3_1 a3_2 x292000_1 t325 x292002_1 a1_0 a1_1 a1_2 false a1_4 a1_5 a1_6 a1_7 a1_8)))) = some (r1, r2, r3, r4, r5, r6, r7) := H
       have A81 := Aside0.mk A810
       clear A810
       obtain ⟨E0_, E1_, E2_, E3_⟩ := control_Steer_drift.same A81.out
       subst E0_
       subst E1_
       subst E2_
       subst E3_
       replace H := Option.bind_eq_some_iff.mp H
       obtain ⟨t323, A820, H⟩ := H
       replace H : ((fix_Sub.f k1 t323 a3_1).bind fun t324 => ((fix_Clamp.f t324 (-64) 64).bind fun t325 => (control_Steer_Step.l0 k1 2 x1000_1 x1001_1 t323 x1003_1 a2_0 a2_1 a2_2 a3_0 a3_1 a3_2 x292000_1 t325 x292002_1 a1_0 a1_1 a1_2 false a1_4 a1_5 a1_6 a1_7 a1_8))) = some (r1, r2, r3, r4, r5, r6, r7) := H
       have A82 := Aside0.mk A820
       clear A820
       replace H := Option.bind_eq_some_iff.mp H
       obtain ⟨t324, A830, H⟩ := H
       replace H : ((fix_Clamp.f t324 (-64) 64).bind fun t325 => (control_Steer_Step.l0 k1 2 x1000_1 x1001_1 t323 x1003_1 a2_0 a2_1 a2_2 a3_0 a3_1 a3_2 x292000_1 t325 x292002_1 a1_0 a1_1 a1_2 false a1_4 a1_5 a1_6 a1_7 a1_8)) = some (r1, r2, r3, r4, r5, r6, r7) := H
       have A83 := Aside0.mk A830
       clear A830
       replace H := Option.bind_eq_some_iff.mp H
       obtain ⟨t325, A840, H⟩ := H
       replace H : (control_Steer_Step.l0 k1 2 x1000_1 x1001_1 t323 x1003_1 a2_0 a2_1 a2_2 a3_0 a3_1 a3_2 x292000_1 t325 x292002_1 a1_0 a1_1 a1_2 false a1_4 a1_5 a1_6 a1_7 a1_8) = some (r1, r2, r3, r4, r5, r6, r7) := H
       have A84 := Aside0.mk A840
       clear A840
       have H' := Aside0.mk H
       clear H
       try go_wp2_with (first | ((with_reducible refine gate_dst (N := 11) rfl ?_); refine box_event ?hg (N := 11) ?hd (cs := #[.bool false, .int .i64 0, .int .i64 0]) (t := 41) ?hr ?_; (case hd => rfl); (case hg => rfl); (case hr => first | (go_simp; done) | (go_simp; rfl)); intro gb309 hg w85 hbox hb; have n0_ := Aside0.mk (blk_below BK287.out hb); have n1_ := Aside0.mk (blk_below BK288.out hb); have n2_ := Aside0.mk (blk_below BK289.out hb); have n3_ := Aside0.mk (blk_below BK290.out hb); have n4_ := Aside0.mk (blk_below BK291.out hb); have n5_ := Aside0.mk (IsS65.below HI0.out hb); have n6_ := Aside0.mk (KeepBut.trans HK.out (KeepBut.of_below hb g none) (.inl rfl)); have n7_ := Aside0.mk (below_step HB.out hb); have n8_ := Aside0.mk (hbox); have n9_ := Aside0.mk ((by rw [hg]; exact (keep_size (w := w) (g := g) (row := none) HK.out) : w.heap.size ≤ gb309)); have n10_ := Aside0.mk ((Nat.le_trans HW0.out (by rw [hg]; exact (keep_size (w := w) (g := g) (row := none) HK.out) : w.heap.size ≤ gb309) : w0.heap.size ≤ gb309)); have n11_ := Aside0.mk ((by rw [hg]; exact Nat.ne_of_lt (blk_lt BK287.out) : gb287 ≠ gb309)); have n12_ := Aside0.mk ((by rw [hg]; exact Nat.ne_of_gt (blk_lt BK287.out) : gb309 ≠ gb287)); have n13_ := Aside0.mk ((by rw [hg]; exact Nat.ne_of_lt (blk_lt BK288.out) : gb288 ≠ gb309)); have n14_ := Aside0.mk ((by rw [hg]; exact Nat.ne_of_gt (blk_lt BK288.out) : gb309 ≠ gb288)); have n15_ := Aside0.mk ((by rw [hg]; exact Nat.ne_of_lt (blk_lt BK289.out) : gb289 ≠ gb309)); have n16_ := Aside0.mk ((by rw [hg]; exact Nat.ne_of_gt (blk_lt BK289.out) : gb309 ≠ gb289)); have n17_ := Aside0.mk ((by rw [hg]; exact Nat.ne_of_lt (blk_lt BK290.out) : gb290 ≠ gb309)); have n18_ := Aside0.mk ((by rw [hg]; exact Nat.ne_of_gt (blk_lt BK290.out) : gb309 ≠ gb290)); have n19_ := Aside0.mk ((by rw [hg]; exact Nat.ne_of_lt (blk_lt BK291.out) : gb291 ≠ gb309)); have n20_ := Aside0.mk ((by rw [hg]; exact Nat.ne_of_gt (blk_lt BK291.out) : gb309 ≠ gb291)); have n21_ := Aside0.mk ((by rw [hg]; exact Nat.ne_of_lt (IsS65.lt HI0.out) : g ≠ gb309)); have n22_ := Aside0.mk ((by rw [hg]; exact Nat.ne_of_gt (IsS65.lt HI0.out) : gb309 ≠ g)); clear BK287; clear BK288; clear BK289; clear BK290; clear BK291; clear HI0; clear HK; clear HB; have BK287 := n0_; have BK288 := n1_; have BK289 := n2_; have BK290 := n3_; have BK291 := n4_; have HI0 := n5_; have HK := n6_; have HB := n7_; have BK309 := n8_; have GW309 := n9_; have GE309 := n10_; have NB287_309 := n11_; have NB309_287 := n12_; have NB288_309 := n13_; have NB309_288 := n14_; have NB289_309 := n15_; have NB309_289 := n16_; have NB290_309 := n17_; have NB309_290 := n18_; have NB291_309 := n19_; have NB309_291 := n20_; have NB0_309 := n21_; have NB309_0 := n22_; clear n0_ n1_ n2_ n3_ n4_ n5_ n6_ n7_ n8_ n9_ n10_ n11_ n12_ n13_ n14_ n15_ n16_ n17_ n18_ n19_ n20_ n21_ n22_; clear hb hbox hg; have hnb86 := NB309_287.out; have hnc86 := NB287_309.out; have hnb87 := NB309_288.out; have hnc87 := NB288_309.out; have hnb88 := NB309_289.out; have hnc88 := NB289_309.out; have hnb89 := NB309_290.out; have hnc89 := NB290_309.out; have hnb90 := NB309_291.out; have hnc90 := NB291_309.out; have hnb91 := NB309_0.out; have hnc91 := NB0_309.out; have hcz92_0 := blk_cells3 (w := w85) (g := gb309) BK309.out; have hfz92_0 := blk_frozen BK309.out))
       (repeat (rw [drewN_self w85]; generalize hq_ : World.drewN w85 _ = w85; have n0_ := Aside0.mk (blk_at hq_ BK287.out); have n1_ := Aside0.mk (blk_at hq_ BK288.out); have n2_ := Aside0.mk (blk_at hq_ BK289.out); have n3_ := Aside0.mk (blk_at hq_ BK290.out); have n4_ := Aside0.mk (blk_at hq_ BK291.out); have n5_ := Aside0.mk (blk_at hq_ BK309.out); have n6_ := Aside0.mk (IsS65.at_ hq_ HI0.out); have n7_ := Aside0.mk (keep_at hq_ HK.out); have n8_ := Aside0.mk (below_at hq_ HB.out); clear hq_ BK287 BK288 BK289 BK290 BK291 BK309 HI0 HK HB; have BK287 := n0_; have BK288 := n1_; have BK289 := n2_; have BK290 := n3_; have BK291 := n4_; have BK309 := n5_; have HI0 := n6_; have HK := n7_; have HB := n8_; clear n0_ n1_ n2_ n3_ n4_ n5_ n6_ n7_ n8_))
       obtain ⟨w93, hW_⟩ : ∃ W_, W_ = (((w85.setCell ⟨gb309, 0, none⟩ (.bool false)).setCell ⟨gb309, 1, none⟩ (.int .i64 a1_4)).setCell ⟨gb309, 2, none⟩ (.int .i64 a1_5)) := ⟨_, rfl⟩
       have n0_ : Aside0 (w93.heap[gb287]? = some (.cells #[.bool a1_0, .int .i64 a1_1, .int .i64 a1_2, .bool false, .int .i64 a1_4, .int .i64 a1_5, .bool a1_6, .int .i64 a1_7, .int .i64 a1_8] 42 (0, 0))) := ⟨by rw [hW_]; repeat (first | exact BK287.out | refine blk_far ?_ NB287_309.out _ | (with_reducible first | refine blk_drewN ?_ _ | refine blk_drew ?_ | refine blk_alloc ?_ _))⟩
       have n1_ : Aside0 (w93.heap[gb288]? = some (.cells #[.int .i64 a2_0, .int .i64 a2_1, .int .i64 a2_2] 37 (0, 0))) := ⟨by rw [hW_]; repeat (first | exact BK288.out | refine blk_far ?_ NB288_309.out _ | (with_reducible first | refine blk_drewN ?_ _ | refine blk_drew ?_ | refine blk_alloc ?_ _))⟩
       have n2_ : Aside0 (w93.heap[gb289]? = some (.cells #[.int .i64 a3_0, .int .i64 a3_1, .int .i64 a3_2] 37 (0, 0))) := ⟨by rw [hW_]; repeat (first | exact BK289.out | refine blk_far ?_ NB289_309.out _ | (with_reducible first | refine blk_drewN ?_ _ | refine blk_drew ?_ | refine blk_alloc ?_ _))⟩
       have n3_ : Aside0 (w93.heap[gb290]? = some (.cells #[.int .i64 x291000_1, .int .i64 x291001_1, .int .i64 x291002_1] 37 (0, 0))) := ⟨by rw [hW_]; repeat (first | exact BK290.out | refine blk_far ?_ NB290_309.out _ | (with_reducible first | refine blk_drewN ?_ _ | refine blk_drew ?_ | refine blk_alloc ?_ _))⟩
       have n4_ : Aside0 (w93.heap[gb291]? = some (.cells #[.int .i64 x292000_1, .int .i64 x292001_1, .int .i64 x292002_1] 37 (0, 0))) := ⟨by rw [hW_]; repeat (first | exact BK291.out | refine blk_far ?_ NB291_309.out _ | (with_reducible first | refine blk_drewN ?_ _ | refine blk_drew ?_ | refine blk_alloc ?_ _))⟩
       have n5_ : Aside0 (w93.heap[gb309]? = some (.cells #[.bool false, .int .i64 a1_4, .int .i64 a1_5] 41 (0, 0))) := ⟨by rw [hW_]; (with_reducible repeat (first | refine blk_drewN ?_ _ | refine blk_drew ?_ | refine blk_alloc ?_ _)); refine blk_put (cs := #[.bool false, .int .i64 a1_4, .int .i64 0]) ?_ 2 _ rfl; (with_reducible repeat (first | refine blk_drewN ?_ _ | refine blk_drew ?_ | refine blk_alloc ?_ _)); refine blk_put (cs := #[.bool false, .int .i64 0, .int .i64 0]) ?_ 1 _ rfl; (with_reducible repeat (first | refine blk_drewN ?_ _ | refine blk_drew ?_ | refine blk_alloc ?_ _)); refine blk_put (cs := #[.bool false, .int .i64 0, .int .i64 0]) ?_ 0 _ rfl; (with_reducible repeat (first | refine blk_drewN ?_ _ | refine blk_drew ?_ | refine blk_alloc ?_ _)); exact BK309.out⟩
       have n6_ : Aside0 (IsS65 w0 w93 g x1000_1 x1001_1 x1002_1 x1003_1) := ⟨by rw [hW_]; repeat (first | (with_reducible first | exact HI0.out | apply IsS65.alloc | apply IsS65.drewN | apply IsS65.drew | apply IsS65.set_0 | apply IsS65.set_1 | apply IsS65.set_2 | apply IsS65.set_3 | apply IsS65.farb NB0_287.out | apply IsS65.farb NB0_288.out | apply IsS65.farb NB0_289.out | apply IsS65.farb NB0_290.out | apply IsS65.farb NB0_291.out | apply IsS65.farb NB0_309.out) | exact HI0.out)⟩
       have n7_ : Aside0 (KeepBut w w93 g none) := ⟨by rw [hW_]; repeat (first | (with_reducible first | exact HK.out | apply KeepBut.set_ | apply keep_drewN | apply keep_drew | apply keep_alloc | refine keep_far ?_ GW287.out _ | refine keep_far ?_ GW288.out _ | refine keep_far ?_ GW289.out _ | refine keep_far ?_ GW290.out _ | refine keep_far ?_ GW291.out _ | refine keep_far ?_ GW309.out _) | exact HK.out)⟩
       have n8_ : Aside0 (Below w0.heap.size w0 w93) := ⟨by rw [hW_]; repeat (first | (with_reducible first | exact HB.out | apply below_alloc | apply pw_below_drewN | apply below_drew1 | refine below_set ?_ (IsS65.ge HI0.out) | refine below_set ?_ GE287.out | refine below_set ?_ GE288.out | refine below_set ?_ GE289.out | refine below_set ?_ GE290.out | refine below_set ?_ GE291.out | refine below_set ?_ GE309.out) | exact HB.out)⟩
       (try clear BK287)
       (try clear BK288)
       (try clear BK289)
       (try clear BK290)
       (try clear BK291)
       (try clear BK309)
       (try clear HI0)
       (try clear HK)
       (try clear HB)
       rw [← hW_]
       clear hW_
       have BK287 := n0_
       have BK288 := n1_
       have BK289 := n2_
       have BK290 := n3_
       have BK291 := n4_
       have BK309 := n5_
       have HI0 := n6_
       have HK := n7_
       have HB := n8_
       clear n0_ n1_ n2_ n3_ n4_ n5_ n6_ n7_ n8_
       have n0_ := Aside0.mk (blk_drew BK287.out)
       have n1_ := Aside0.mk (blk_drew BK288.out)
       have n2_ := Aside0.mk (blk_drew BK289.out)
       have n3_ := Aside0.mk (blk_drew BK290.out)
       have n4_ := Aside0.mk (blk_drew BK291.out)
       have n5_ := Aside0.mk (blk_drew BK309.out)
       have n6_ := Aside0.mk (IsS65.drew HI0.out)
       have n7_ := Aside0.mk (keep_drew HK.out)
       have n8_ := Aside0.mk (below_drew1 HB.out)
       clear BK287
       clear BK288
       clear BK289
       clear BK290
       clear BK291
       clear BK309
       clear HI0
       clear HK
       clear HB
       have BK287 := n0_
       have BK288 := n1_
       have BK289 := n2_
       have BK290 := n3_
       have BK291 := n4_
       have BK309 := n5_
       have HI0 := n6_
       have HK := n7_
       have HB := n8_
       clear n0_ n1_ n2_ n3_ n4_ n5_ n6_ n7_ n8_
       refine start_ (n := 24) (S := fun w' => w'.cell? ⟨g, 0, none⟩ = some (.int .i64 x1000_1) ∧ w'.cell? ⟨g, 1, none⟩ = some (.int .i64 x1001_1) ∧ w'.cell? ⟨g, 2, none⟩ = some (.int .i64 x1002_1) ∧ w'.cell? ⟨g, 3, none⟩ = some (.int .i64 x1003_1) ∧ w'.cell? ⟨gb309, 0, none⟩ = some (.bool false) ∧ w'.cell? ⟨gb309, 1, none⟩ = some (.int .i64 a1_4) ∧ w'.cell? ⟨gb309, 2, none⟩ = some (.int .i64 a1_5) ∧ w'.cell? ⟨gb288, 0, none⟩ = some (.int .i64 a2_0) ∧ w'.cell? ⟨gb288, 1, none⟩ = some (.int .i64 a2_1) ∧ w'.cell? ⟨gb288, 2, none⟩ = some (.int .i64 a2_2)) (ds := [23]) (lb_ 24 0) (by kernel_rfl) rfl rfl ⟨(cellS65_0 HI0.out.1), (cellS65_1 HI0.out.1), (cellS65_2 HI0.out.1), (cellS65_3 HI0.out.1), (blk_cell BK309.out 0).trans rfl, (blk_cell BK309.out 1).trans rfl, (blk_cell BK309.out 2).trans rfl, (blk_cell BK288.out 0).trans rfl, (blk_cell BK288.out 1).trans rfl, (blk_cell BK288.out 2).trans rfl⟩ (fun hHeld => ?_); refine with_tabW control_Steer_Step.tab10 control_Steer_Step.bits10 (fun HT_ HW_ => ?_)
       generalize w93.drew = w94 at BK287 BK288 BK289 BK290 BK291 BK309 HI0 HK HB hHeld ⊢
       refine pure_ (i := 0) (N := some 23) (v := ?_) (a' := ?_) (lb_ 24 1) rfl rfl (any_of HT_.out (by kernel_rfl)) (fun _ _ _ h => h) (Or.inl ⟨by rfl, ?_⟩) ?_ ?_; rotate_left; (intro w'; go_simp; with_reducible rfl); rotate_left; (simp only [Act.put, List.setIfInBounds_toArray, List.set_cons_zero, List.set_cons_succ, i64_w, i32_w]; rfl)
       refine pure_ (i := 1) (N := some 24) (v := ?_) (a' := ?_) (lb_ 24 3) rfl rfl (any_of HT_.out (by kernel_rfl)) (fun _ _ _ h => h) (Or.inl ⟨by rfl, ?_⟩) ?_ ?_; rotate_left; (intro w'; go_simp; with_reducible rfl); rotate_left; (simp only [Act.put, List.setIfInBounds_toArray, List.set_cons_zero, List.set_cons_succ, i64_w, i32_w]; rfl)
       refine pure_ (i := 2) (N := some 25) (v := ?_) (a' := ?_) (lb_ 24 7) rfl rfl (any_of HT_.out (by kernel_rfl)) (fun _ _ _ h => h) (Or.inl ⟨by rfl, ?_⟩) ?_ ?_; rotate_left; (intro w'; go_simp; with_reducible rfl); rotate_left; (simp only [Act.put, List.setIfInBounds_toArray, List.set_cons_zero, List.set_cons_succ, i64_w, i32_w]; rfl)
       refine pure_ (i := 3) (N := some 26) (v := ?_) (a' := ?_) (lb_ 24 15) rfl rfl (any_of HT_.out (by kernel_rfl)) (fun _ _ _ h => h) (Or.inl ⟨by rfl, ?_⟩) ?_ ?_; rotate_left; (intro w'; go_simp; with_reducible rfl); rotate_left; (simp only [Act.put, List.setIfInBounds_toArray, List.set_cons_zero, List.set_cons_succ, i64_w, i32_w]; rfl)
       refine pure_ (i := 4) (N := some 27) (v := ?_) (a' := ?_) (lb_ 24 31) rfl rfl (any_of HT_.out (by kernel_rfl)) (fun _ _ _ h => h) (Or.inl ⟨by rfl, ?_⟩) ?_ ?_; rotate_left; (intro w'; go_simp; with_reducible rfl); rotate_left; (simp only [Act.put, List.setIfInBounds_toArray, List.set_cons_zero, List.set_cons_succ, i64_w, i32_w]; rfl)
       refine pure_ (i := 5) (N := some 28) (v := ?_) (a' := ?_) (lb_ 24 63) rfl rfl (any_of HT_.out (by kernel_rfl)) (fun _ _ _ h => h) (Or.inl ⟨by rfl, ?_⟩) ?_ ?_; rotate_left; (intro w'; go_simp; with_reducible rfl); rotate_left; (simp only [Act.put, List.setIfInBounds_toArray, List.set_cons_zero, List.set_cons_succ, i64_w, i32_w]; rfl)
       refine pure_ (i := 6) (N := some 29) (v := ?_) (a' := ?_) (lb_ 24 127) rfl rfl (any_of HT_.out (by kernel_rfl)) (fun _ _ _ h => h) (Or.inl ⟨by rfl, ?_⟩) ?_ ?_; rotate_left; (intro w'; go_simp; with_reducible rfl); rotate_left; (simp only [Act.put, List.setIfInBounds_toArray, List.set_cons_zero, List.set_cons_succ, i64_w, i32_w]; rfl)
       refine pure_ (i := 8) (N := some 31) (v := ?_) (a' := ?_) (lb_ 24 383) rfl rfl (any_of HT_.out (by kernel_rfl)) (fun _ _ _ h => h) (Or.inl ⟨by rfl, ?_⟩) ?_ ?_; rotate_left; (intro w'; go_simp; with_reducible rfl); rotate_left; (simp only [Act.put, List.setIfInBounds_toArray, List.set_cons_zero, List.set_cons_succ, i64_w, i32_w]; rfl)
       refine pure_ (i := 9) (N := some 32) (v := ?_) (a' := ?_) (lb_ 24 895) rfl rfl (any_of HT_.out (by kernel_rfl)) (fun _ _ _ h => h) (Or.inl ⟨by rfl, ?_⟩) ?_ ?_; rotate_left; (intro w'; go_simp; with_reducible rfl); rotate_left; (simp only [Act.put, List.setIfInBounds_toArray, List.set_cons_zero, List.set_cons_succ, i64_w, i32_w]; rfl)
       refine pure_ (i := 11) (N := some 34) (v := ?_) (a' := ?_) (lb_ 24 2943) rfl rfl (any_of HT_.out (by kernel_rfl)) (fun _ _ _ h => h) (Or.inl ⟨by rfl, ?_⟩) ?_ ?_; rotate_left; (intro w'; go_simp; with_reducible rfl); rotate_left; (simp only [Act.put, List.setIfInBounds_toArray, List.set_cons_zero, List.set_cons_succ, i64_w, i32_w]; rfl)
       refine pure_ (i := 12) (N := some 35) (v := ?_) (a' := ?_) (lb_ 24 7039) rfl rfl (any_of HT_.out (by kernel_rfl)) (fun _ _ _ h => h) (Or.inl ⟨by rfl, ?_⟩) ?_ ?_; rotate_left; (intro w'; go_simp; with_reducible rfl); rotate_left; (simp only [Act.put, List.setIfInBounds_toArray, List.set_cons_zero, List.set_cons_succ, i64_w, i32_w]; rfl)
       refine pure_ (i := 15) (N := some 38) (v := ?_) (a' := ?_) (lb_ 24 39807) rfl rfl (any_of HT_.out (by kernel_rfl)) (fun _ _ _ h => h) (Or.inl ⟨by rfl, ?_⟩) ?_ ?_; rotate_left; (intro w'; go_simp; with_reducible rfl); rotate_left; (simp only [Act.put, List.setIfInBounds_toArray, List.set_cons_zero, List.set_cons_succ, i64_w, i32_w]; rfl)
       refine pure_ (i := 16) (N := some 39) (v := ?_) (a' := ?_) (lb_ 24 105343) rfl rfl (any_of HT_.out (by kernel_rfl)) (fun _ _ _ h => h) (Or.inl ⟨by rfl, ?_⟩) ?_ ?_; rotate_left; (intro w'; go_simp; with_reducible rfl); rotate_left; (simp only [Act.put, List.setIfInBounds_toArray, List.set_cons_zero, List.set_cons_succ, i64_w, i32_w]; rfl)
       refine pure_ (i := 17) (N := some 40) (v := ?_) (a' := ?_) (lb_ 24 236415) rfl rfl (any_of HT_.out (by kernel_rfl)) (fun _ _ _ h => h) (Or.inl ⟨by rfl, ?_⟩) ?_ ?_; rotate_left; (intro w'; go_simp; with_reducible rfl); rotate_left; (simp only [Act.put, List.setIfInBounds_toArray, List.set_cons_zero, List.set_cons_succ, i64_w, i32_w]; rfl)
       refine pure_ (i := 20) (N := some 43) (v := ?_) (a' := ?_) (lb_ 24 1284991) rfl rfl (any_of HT_.out (by kernel_rfl)) (fun _ _ _ h => h) (Or.inl ⟨by rfl, ?_⟩) ?_ ?_; rotate_left; (intro w'; go_simp; with_reducible rfl); rotate_left; (simp only [Act.put, List.setIfInBounds_toArray, List.set_cons_zero, List.set_cons_succ, i64_w, i32_w]; rfl)
       refine pure_ (i := 21) (N := some 44) (v := ?_) (a' := ?_) (lb_ 24 3382143) rfl rfl (any_of HT_.out (by kernel_rfl)) (fun _ _ _ h => h) (Or.inl ⟨by rfl, ?_⟩) ?_ ?_; rotate_left; (intro w'; go_simp; with_reducible rfl); rotate_left; (simp only [Act.put, List.setIfInBounds_toArray, List.set_cons_zero, List.set_cons_succ, i64_w, i32_w]; rfl)
       refine take_ (i := 7) (N := some 30) (v := ?_) (a' := ?_) (lb_ 24 3382271) rfl rfl (take_ofW HT_.out HW_.out (by kernel_rfl)) (fun _ _ _ h => h) (Or.inl ⟨by rfl, ?_⟩) hHeld ?_ ?_; rotate_left; (rintro w' ⟨s0, s1, s2, s3, s4, s5, s6, s7, s8, s9⟩; go_simp; with_reducible rfl); rotate_left; (simp only [Act.put, List.setIfInBounds_toArray, List.set_cons_zero, List.set_cons_succ, i64_w, i32_w]; rfl)
       refine take_ (i := 10) (N := some 33) (v := ?_) (a' := ?_) (lb_ 24 3383295) rfl rfl (take_ofW HT_.out HW_.out (by kernel_rfl)) (fun _ _ _ h => h) (Or.inl ⟨by rfl, ?_⟩) hHeld ?_ ?_; rotate_left; (rintro w' ⟨s0, s1, s2, s3, s4, s5, s6, s7, s8, s9⟩; go_simp; with_reducible rfl); rotate_left; (simp only [Act.put, List.setIfInBounds_toArray, List.set_cons_zero, List.set_cons_succ, i64_w, i32_w]; rfl)
       refine take_ (i := 13) (N := some 36) (v := ?_) (a' := ?_) (lb_ 24 3391487) rfl rfl (take_ofW HT_.out HW_.out (by kernel_rfl)) (fun _ _ _ h => h) (Or.inl ⟨by rfl, ?_⟩) hHeld ?_ ?_; rotate_left; (rintro w' ⟨s0, s1, s2, s3, s4, s5, s6, s7, s8, s9⟩; go_simp; with_reducible rfl); rotate_left; (simp only [Act.put, List.setIfInBounds_toArray, List.set_cons_zero, List.set_cons_succ, i64_w, i32_w]; rfl)
       refine take_ (i := 18) (N := some 41) (v := ?_) (a' := ?_) (lb_ 24 3653631) rfl rfl (take_ofW HT_.out HW_.out (by kernel_rfl)) (fun _ _ _ h => h) (Or.inl ⟨by rfl, ?_⟩) hHeld ?_ ?_; rotate_left; (rintro w' ⟨s0, s1, s2, s3, s4, s5, s6, s7, s8, s9⟩; go_simp; with_reducible rfl); rotate_left; (simp only [Act.put, List.setIfInBounds_toArray, List.set_cons_zero, List.set_cons_succ, i64_w, i32_w]; rfl)
       refine one_ (i := 14) (N := some 37) (lb_ 24 3670015) rfl rfl (one_of HT_.out (by kernel_rfl)) (by decide) (fun K hK => ?_)
       refine goesv_ Try.func39 (by kernel_rfl) rfl #[.pointer (some ⟨g, 0, none⟩), .agg #[.bool false, .int .i64 a1_4, .int .i64 a1_5], .int .i64 a2_1] (by rfl) rfl rfl rfl (by (try simp only [List.map_toArray, List.map_cons, List.map_nil]); first | done | rfl | (simp only [List.length_drop, List.length_take]; rfl)) ?_
       with_reducible refine (control_Steer_drift.calls g x1000_1 x1001_1 x1002_1 x1003_1 false a1_4 a1_5 a2_1 t318 x1000_1 x1001_1 x1002_1 x1003_1 w0 _ ?side1 ?side2 A81.out).mono ?_
       (case side1 => repeat (first | (with_reducible first | exact HI0.out | apply IsS65.alloc | apply IsS65.drewN | apply IsS65.drew | apply IsS65.set_0 | apply IsS65.set_1 | apply IsS65.set_2 | apply IsS65.set_3 | apply IsS65.farb NB0_287.out | apply IsS65.farb NB0_288.out | apply IsS65.farb NB0_289.out | apply IsS65.farb NB0_290.out | apply IsS65.farb NB0_291.out | apply IsS65.farb NB0_309.out) | exact HI0.out))
       (case side2 => repeat (first | (with_reducible first | exact HB.out | apply below_alloc | apply pw_below_drewN | apply below_drew1 | refine below_set ?_ (IsS65.ge HI0.out) | refine below_set ?_ GE287.out | refine below_set ?_ GE288.out | refine below_set ?_ GE289.out | refine below_set ?_ GE290.out | refine below_set ?_ GE291.out | refine below_set ?_ GE309.out) | exact HB.out))
       rintro e w95 ⟨rfl, hi, hb, hk⟩
       refine ⟨_, rfl, ?_⟩
       have n0_ := Aside0.mk (KeepBut.blk hk BK287.out NB287_0.out (by simp))
       have n1_ := Aside0.mk (KeepBut.blk hk BK288.out NB288_0.out (by simp))
       have n2_ := Aside0.mk (KeepBut.blk hk BK289.out NB289_0.out (by simp))
       have n3_ := Aside0.mk (KeepBut.blk hk BK290.out NB290_0.out (by simp))
       have n4_ := Aside0.mk (KeepBut.blk hk BK291.out NB291_0.out (by simp))
       have n5_ := Aside0.mk (KeepBut.blk hk BK309.out NB309_0.out (by simp))
       have n6_ := Aside0.mk (KeepBut.trans HK.out hk (.inl rfl))
       have n7_ := Aside0.mk (hb)
       have n8_ := Aside0.mk (hi)
       clear BK287
       clear BK288
       clear BK289
       clear BK290
       clear BK291
       clear BK309
       clear HK
       clear HB
       clear HI0
       have BK287 := n0_
       have BK288 := n1_
       have BK289 := n2_
       have BK290 := n3_
       have BK291 := n4_
       have BK309 := n5_
       have HK := n6_
       have HB := n7_
       have HI0 := n8_
       clear n0_ n1_ n2_ n3_ n4_ n5_ n6_ n7_ n8_
       (try clear hb)
       (try clear hb2)
       (try clear hk)
       (try clear hi)
       refine hK.out _ _ ⟨(cellS65_0 HI0.out.1), (cellS65_1 HI0.out.1), (cellS65_2 HI0.out.1), (cellS65_3 HI0.out.1), (blk_cell BK309.out 0).trans rfl, (blk_cell BK309.out 1).trans rfl, (blk_cell BK309.out 2).trans rfl, (blk_cell BK288.out 0).trans rfl, (blk_cell BK288.out 1).trans rfl, (blk_cell BK288.out 2).trans rfl⟩ (fun hHeld => ?_)
       clear hK K
       refine norm_ (a' := ?_) ?_ ?_
       rotate_left
       ·show Act.put _ (some 37) _ = _
        simp only [Act.put, List.setIfInBounds_toArray, List.set_cons_zero, List.set_cons_succ, i64_w, i32_w]
        rfl
       refine one_ (i := 19) (N := some 42) (lb_ 24 4194303) rfl rfl (one_of HT_.out (by kernel_rfl)) (by decide) (fun K hK => ?_)
       refine goes_ Try.func41 (by kernel_rfl) rfl #[.int .i64 x1002_1, .int .i64 t318, .int .i64 x1000_1] (by rfl) rfl rfl (by (try simp only [List.map_toArray, List.map_cons, List.map_nil]); first | done | rfl | (simp only [List.length_drop, List.length_take]; rfl)) ?_
       with_reducible refine (fix_Slew.calls k1 x1002_1 t318 x1000_1 t323 _ A82.out).mono ?_
       rintro e w96 ⟨rfl, hb⟩
       refine ⟨_, rfl, ?_⟩
       have n0_ := Aside0.mk (blk_below BK287.out hb)
       have n1_ := Aside0.mk (blk_below BK288.out hb)
       have n2_ := Aside0.mk (blk_below BK289.out hb)
       have n3_ := Aside0.mk (blk_below BK290.out hb)
       have n4_ := Aside0.mk (blk_below BK291.out hb)
       have n5_ := Aside0.mk (IsS65.below HI0.out hb)
       have n6_ := Aside0.mk (blk_below BK309.out hb)
       have n7_ := Aside0.mk (KeepBut.trans HK.out (KeepBut.of_below hb g none) (.inl rfl))
       have n8_ := Aside0.mk (below_step HB.out hb)
       clear BK287
       clear BK288
       clear BK289
       clear BK290
       clear BK291
       clear HI0
       clear BK309
       clear HK
       clear HB
       have BK287 := n0_
       have BK288 := n1_
       have BK289 := n2_
       have BK290 := n3_
       have BK291 := n4_
       have HI0 := n5_
       have BK309 := n6_
       have HK := n7_
       have HB := n8_
       clear n0_ n1_ n2_ n3_ n4_ n5_ n6_ n7_ n8_
       (try clear hb)
       (try clear hb2)
       (try clear hk)
       (try clear hi)
       refine hK.out _ _ ⟨(cellS65_0 HI0.out.1), (cellS65_1 HI0.out.1), (cellS65_2 HI0.out.1), (cellS65_3 HI0.out.1), (blk_cell BK309.out 0).trans rfl, (blk_cell BK309.out 1).trans rfl, (blk_cell BK309.out 2).trans rfl, (blk_cell BK288.out 0).trans rfl, (blk_cell BK288.out 1).trans rfl, (blk_cell BK288.out 2).trans rfl⟩ (fun hHeld => ?_)
       clear hK K
       refine norm_ (a' := ?_) ?_ ?_
       rotate_left
       ·show Act.put _ (some 42) _ = _
        simp only [Act.put, List.setIfInBounds_toArray, List.set_cons_zero, List.set_cons_succ, i64_w, i32_w]
        rfl
       refine pure_ (i := 22) (N := some 45) (v := ?_) (a' := ?_) (lb_ 24 8388607) rfl rfl (any_of HT_.out (by kernel_rfl)) (fun _ _ _ h => h) (Or.inl ⟨by rfl, ?_⟩) ?_ ?_; rotate_left; (intro w'; go_simp; with_reducible rfl); rotate_left; (simp only [Act.put, List.setIfInBounds_toArray, List.set_cons_zero, List.set_cons_succ, i64_w, i32_w]; rfl)
       refine last_ (i := 23) (N := none) (lb_ 24 16777215) rfl rfl (one_of HT_.out (by kernel_rfl)) (by decide) (fun K hK => ?_)
       have hs97 := cellS65_2 HI0.out.1
       have hfs97 := blk_frozen HI0.out.1 2
       have hns97_0 := NB287_0.out
       have hns97_1 := NB288_0.out
       have hns97_2 := NB289_0.out
       have hns97_3 := NB290_0.out
       have hns97_4 := NB291_0.out
       have hns97_5 := NB309_0.out
       have hms97_0 := NB0_287.out
       have hms97_1 := NB0_288.out
       have hms97_2 := NB0_289.out
       have hms97_3 := NB0_290.out
       have hms97_4 := NB0_291.out
       have hms97_5 := NB0_309.out
       refine skip_ (w1 := ?_) (by rfl) rfl ?_ ?_
       rotate_left
       ·go_simp
        rfl
       refine hK.out _ _ ?_
       clear hK K
       refine done_ (done_of HT_.out (by kernel_rfl)) ?_
       try go_wp2
       (repeat (rw [drewN_self w96]; generalize hq_ : World.drewN w96 _ = w96; have n0_ := Aside0.mk (blk_at hq_ BK287.out); have n1_ := Aside0.mk (blk_at hq_ BK288.out); have n2_ := Aside0.mk (blk_at hq_ BK289.out); have n3_ := Aside0.mk (blk_at hq_ BK290.out); have n4_ := Aside0.mk (blk_at hq_ BK291.out); have n5_ := Aside0.mk (blk_at hq_ BK309.out); have n6_ := Aside0.mk (IsS65.at_ hq_ HI0.out); have n7_ := Aside0.mk (keep_at hq_ HK.out); have n8_ := Aside0.mk (below_at hq_ HB.out); clear hq_ BK287 BK288 BK289 BK290 BK291 BK309 HI0 HK HB; have BK287 := n0_; have BK288 := n1_; have BK289 := n2_; have BK290 := n3_; have BK291 := n4_; have BK309 := n5_; have HI0 := n6_; have HK := n7_; have HB := n8_; clear n0_ n1_ n2_ n3_ n4_ n5_ n6_ n7_ n8_))
       obtain ⟨w98, hW_⟩ : ∃ W_, W_ = (w96.setCell ⟨g, 2, none⟩ (.int .i64 t323)) := ⟨_, rfl⟩
       have n0_ : Aside0 (w98.heap[gb287]? = some (.cells #[.bool a1_0, .int .i64 a1_1, .int .i64 a1_2, .bool false, .int .i64 a1_4, .int .i64 a1_5, .bool a1_6, .int .i64 a1_7, .int .i64 a1_8] 42 (0, 0))) := ⟨by rw [hW_]; repeat (first | exact BK287.out | refine blk_far ?_ NB287_0.out _ | (with_reducible first | refine blk_drewN ?_ _ | refine blk_drew ?_ | refine blk_alloc ?_ _))⟩
       have n1_ : Aside0 (w98.heap[gb288]? = some (.cells #[.int .i64 a2_0, .int .i64 a2_1, .int .i64 a2_2] 37 (0, 0))) := ⟨by rw [hW_]; repeat (first | exact BK288.out | refine blk_far ?_ NB288_0.out _ | (with_reducible first | refine blk_drewN ?_ _ | refine blk_drew ?_ | refine blk_alloc ?_ _))⟩
       have n2_ : Aside0 (w98.heap[gb289]? = some (.cells #[.int .i64 a3_0, .int .i64 a3_1, .int .i64 a3_2] 37 (0, 0))) := ⟨by rw [hW_]; repeat (first | exact BK289.out | refine blk_far ?_ NB289_0.out _ | (with_reducible first | refine blk_drewN ?_ _ | refine blk_drew ?_ | refine blk_alloc ?_ _))⟩
       have n3_ : Aside0 (w98.heap[gb290]? = some (.cells #[.int .i64 x291000_1, .int .i64 x291001_1, .int .i64 x291002_1] 37 (0, 0))) := ⟨by rw [hW_]; repeat (first | exact BK290.out | refine blk_far ?_ NB290_0.out _ | (with_reducible first | refine blk_drewN ?_ _ | refine blk_drew ?_ | refine blk_alloc ?_ _))⟩
       have n4_ : Aside0 (w98.heap[gb291]? = some (.cells #[.int .i64 x292000_1, .int .i64 x292001_1, .int .i64 x292002_1] 37 (0, 0))) := ⟨by rw [hW_]; repeat (first | exact BK291.out | refine blk_far ?_ NB291_0.out _ | (with_reducible first | refine blk_drewN ?_ _ | refine blk_drew ?_ | refine blk_alloc ?_ _))⟩
       have n5_ : Aside0 (w98.heap[gb309]? = some (.cells #[.bool false, .int .i64 a1_4, .int .i64 a1_5] 41 (0, 0))) := ⟨by rw [hW_]; repeat (first | exact BK309.out | refine blk_far ?_ NB309_0.out _ | (with_reducible first | refine blk_drewN ?_ _ | refine blk_drew ?_ | refine blk_alloc ?_ _))⟩
       have n6_ : Aside0 (IsS65 w0 w98 g x1000_1 x1001_1 t323 x1003_1) := ⟨by rw [hW_]; repeat (first | (with_reducible first | exact HI0.out | apply IsS65.alloc | apply IsS65.drewN | apply IsS65.drew | apply IsS65.set_0 | apply IsS65.set_1 | apply IsS65.set_2 | apply IsS65.set_3 | apply IsS65.farb NB0_287.out | apply IsS65.farb NB0_288.out | apply IsS65.farb NB0_289.out | apply IsS65.farb NB0_290.out | apply IsS65.farb NB0_291.out | apply IsS65.farb NB0_309.out) | exact HI0.out)⟩
       have n7_ : Aside0 (KeepBut w w98 g none) := ⟨by rw [hW_]; repeat (first | (with_reducible first | exact HK.out | apply KeepBut.set_ | apply keep_drewN | apply keep_drew | apply keep_alloc | refine keep_far ?_ GW287.out _ | refine keep_far ?_ GW288.out _ | refine keep_far ?_ GW289.out _ | refine keep_far ?_ GW290.out _ | refine keep_far ?_ GW291.out _ | refine keep_far ?_ GW309.out _) | exact HK.out)⟩
       have n8_ : Aside0 (Below w0.heap.size w0 w98) := ⟨by rw [hW_]; repeat (first | (with_reducible first | exact HB.out | apply below_alloc | apply pw_below_drewN | apply below_drew1 | refine below_set ?_ (IsS65.ge HI0.out) | refine below_set ?_ GE287.out | refine below_set ?_ GE288.out | refine below_set ?_ GE289.out | refine below_set ?_ GE290.out | refine below_set ?_ GE291.out | refine below_set ?_ GE309.out) | exact HB.out)⟩
       (try clear BK287)
       (try clear BK288)
       (try clear BK289)
       (try clear BK290)
       (try clear BK291)
       (try clear BK309)
       (try clear HI0)
       (try clear HK)
       (try clear HB)
       rw [← hW_]
       clear hW_
       have BK287 := n0_
       have BK288 := n1_
       have BK289 := n2_
       have BK290 := n3_
       have BK291 := n4_
       have BK309 := n5_
       have HI0 := n6_
       have HK := n7_
       have HB := n8_
       clear n0_ n1_ n2_ n3_ n4_ n5_ n6_ n7_ n8_
       have n0_ := Aside0.mk (blk_drew BK287.out)
       have n1_ := Aside0.mk (blk_drew BK288.out)
       have n2_ := Aside0.mk (blk_drew BK289.out)
       have n3_ := Aside0.mk (blk_drew BK290.out)
       have n4_ := Aside0.mk (blk_drew BK291.out)
       have n5_ := Aside0.mk (blk_drew BK309.out)
       have n6_ := Aside0.mk (IsS65.drew HI0.out)
       have n7_ := Aside0.mk (keep_drew HK.out)
       have n8_ := Aside0.mk (below_drew1 HB.out)
       clear BK287
       clear BK288
       clear BK289
       clear BK290
       clear BK291
       clear BK309
       clear HI0
       clear HK
       clear HB
       have BK287 := n0_
       have BK288 := n1_
       have BK289 := n2_
       have BK290 := n3_
       have BK291 := n4_
       have BK309 := n5_
       have HI0 := n6_
       have HK := n7_
       have HB := n8_
       clear n0_ n1_ n2_ n3_ n4_ n5_ n6_ n7_ n8_
       refine start_ (n := 14) (S := fun w' => w'.cell? ⟨g, 0, none⟩ = some (.int .i64 x1000_1) ∧ w'.cell? ⟨g, 1, none⟩ = some (.int .i64 x1001_1) ∧ w'.cell? ⟨g, 2, none⟩ = some (.int .i64 t323) ∧ w'.cell? ⟨g, 3, none⟩ = some (.int .i64 x1003_1) ∧ w'.cell? ⟨gb289, 0, none⟩ = some (.int .i64 a3_0) ∧ w'.cell? ⟨gb289, 1, none⟩ = some (.int .i64 a3_1) ∧ w'.cell? ⟨gb289, 2, none⟩ = some (.int .i64 a3_2)) (ds := []) (lb_ 14 0) (by kernel_rfl) rfl rfl ⟨(cellS65_0 HI0.out.1), (cellS65_1 HI0.out.1), (cellS65_2 HI0.out.1), (cellS65_3 HI0.out.1), (blk_cell BK289.out 0).trans rfl, (blk_cell BK289.out 1).trans rfl, (blk_cell BK289.out 2).trans rfl⟩ (fun hHeld => ?_); refine with_tabW control_Steer_Step.tab11 control_Steer_Step.bits11 (fun HT_ HW_ => ?_)
       generalize w98.drew = w99 at BK287 BK288 BK289 BK290 BK291 BK309 HI0 HK HB hHeld ⊢
       refine pure_ (i := 0) (N := some 46) (v := ?_) (a' := ?_) (lb_ 14 1) rfl rfl (any_of HT_.out (by kernel_rfl)) (fun _ _ _ h => h) (Or.inl ⟨by rfl, ?_⟩) ?_ ?_; rotate_left; (intro w'; go_simp; with_reducible rfl); rotate_left; (simp only [Act.put, List.setIfInBounds_toArray, List.set_cons_zero, List.set_cons_succ, i64_w, i32_w]; rfl)
       refine pure_ (i := 1) (N := some 47) (v := ?_) (a' := ?_) (lb_ 14 3) rfl rfl (any_of HT_.out (by kernel_rfl)) (fun _ _ _ h => h) (Or.inl ⟨by rfl, ?_⟩) ?_ ?_; rotate_left; (intro w'; go_simp; with_reducible rfl); rotate_left; (simp only [Act.put, List.setIfInBounds_toArray, List.set_cons_zero, List.set_cons_succ, i64_w, i32_w]; rfl)
       refine pure_ (i := 2) (N := some 48) (v := ?_) (a' := ?_) (lb_ 14 7) rfl rfl (any_of HT_.out (by kernel_rfl)) (fun _ _ _ h => h) (Or.inl ⟨by rfl, ?_⟩) ?_ ?_; rotate_left; (intro w'; go_simp; with_reducible rfl); rotate_left; (simp only [Act.put, List.setIfInBounds_toArray, List.set_cons_zero, List.set_cons_succ, i64_w, i32_w]; rfl)
       refine pure_ (i := 3) (N := some 49) (v := ?_) (a' := ?_) (lb_ 14 15) rfl rfl (any_of HT_.out (by kernel_rfl)) (fun _ _ _ h => h) (Or.inl ⟨by rfl, ?_⟩) ?_ ?_; rotate_left; (intro w'; go_simp; with_reducible rfl); rotate_left; (simp only [Act.put, List.setIfInBounds_toArray, List.set_cons_zero, List.set_cons_succ, i64_w, i32_w]; rfl)
       refine pure_ (i := 4) (N := some 50) (v := ?_) (a' := ?_) (lb_ 14 31) rfl rfl (any_of HT_.out (by kernel_rfl)) (fun _ _ _ h => h) (Or.inl ⟨by rfl, ?_⟩) ?_ ?_; rotate_left; (intro w'; go_simp; with_reducible rfl); rotate_left; (simp only [Act.put, List.setIfInBounds_toArray, List.set_cons_zero, List.set_cons_succ, i64_w, i32_w]; rfl)
       refine pure_ (i := 5) (N := some 51) (v := ?_) (a' := ?_) (lb_ 14 63) rfl rfl (any_of HT_.out (by kernel_rfl)) (fun _ _ _ h => h) (Or.inl ⟨by rfl, ?_⟩) ?_ ?_; rotate_left; (intro w'; go_simp; with_reducible rfl); rotate_left; (simp only [Act.put, List.setIfInBounds_toArray, List.set_cons_zero, List.set_cons_succ, i64_w, i32_w]; rfl)
       refine pure_ (i := 7) (N := some 53) (v := ?_) (a' := ?_) (lb_ 14 191) rfl rfl (any_of HT_.out (by kernel_rfl)) (fun _ _ _ h => h) (Or.inl ⟨by rfl, ?_⟩) ?_ ?_; rotate_left; (intro w'; go_simp; with_reducible rfl); rotate_left; (simp only [Act.put, List.setIfInBounds_toArray, List.set_cons_zero, List.set_cons_succ, i64_w, i32_w]; rfl)
       refine pure_ (i := 8) (N := some 54) (v := ?_) (a' := ?_) (lb_ 14 447) rfl rfl (any_of HT_.out (by kernel_rfl)) (fun _ _ _ h => h) (Or.inl ⟨by rfl, ?_⟩) ?_ ?_; rotate_left; (intro w'; go_simp; with_reducible rfl); rotate_left; (simp only [Act.put, List.setIfInBounds_toArray, List.set_cons_zero, List.set_cons_succ, i64_w, i32_w]; rfl)
       refine take_ (i := 6) (N := some 52) (v := ?_) (a' := ?_) (lb_ 14 511) rfl rfl (take_ofW HT_.out HW_.out (by kernel_rfl)) (fun _ _ _ h => h) (Or.inl ⟨by rfl, ?_⟩) hHeld ?_ ?_; rotate_left; (rintro w' ⟨s0, s1, s2, s3, s4, s5, s6⟩; go_simp; with_reducible rfl); rotate_left; (simp only [Act.put, List.setIfInBounds_toArray, List.set_cons_zero, List.set_cons_succ, i64_w, i32_w]; rfl)
       refine take_ (i := 9) (N := some 55) (v := ?_) (a' := ?_) (lb_ 14 1023) rfl rfl (take_ofW HT_.out HW_.out (by kernel_rfl)) (fun _ _ _ h => h) (Or.inl ⟨by rfl, ?_⟩) hHeld ?_ ?_; rotate_left; (rintro w' ⟨s0, s1, s2, s3, s4, s5, s6⟩; go_simp; with_reducible rfl); rotate_left; (simp only [Act.put, List.setIfInBounds_toArray, List.set_cons_zero, List.set_cons_succ, i64_w, i32_w]; rfl)
       refine one_ (i := 10) (N := some 56) (lb_ 14 2047) rfl rfl (one_of HT_.out (by kernel_rfl)) (by decide) (fun K hK => ?_)
       refine goes_ Try.func27 (by kernel_rfl) rfl #[.int .i64 t323, .int .i64 a3_1] (by rfl) rfl rfl (by (try simp only [List.map_toArray, List.map_cons, List.map_nil]); first | done | rfl | (simp only [List.length_drop, List.length_take]; rfl)) ?_
       with_reducible refine (fix_Sub.calls k1 t323 a3_1 t324 _ A83.out).mono ?_
       rintro e w' ⟨rfl, ⟨nd, rfl⟩⟩
       refine ⟨_, rfl, ?_⟩
       refine hK.out _ _ ⟨(cellS65_0 HI0.out.1), (cellS65_1 HI0.out.1), (cellS65_2 HI0.out.1), (cellS65_3 HI0.out.1), (blk_cell BK289.out 0).trans rfl, (blk_cell BK289.out 1).trans rfl, (blk_cell BK289.out 2).trans rfl⟩ (fun hHeld => ?_)
       clear hK K
       refine norm_ (a' := ?_) ?_ ?_
       rotate_left
       ·show Act.put _ (some 56) _ = _
        simp only [Act.put, List.setIfInBounds_toArray, List.set_cons_zero, List.set_cons_succ, i64_w, i32_w]
        rfl
       refine one_ (i := 11) (N := some 57) (lb_ 14 4095) rfl rfl (one_of HT_.out (by kernel_rfl)) (by decide) (fun K hK => ?_)
       refine goes_ Try.func33 (by kernel_rfl) rfl #[.int .i64 t324, .int .i64 (-64), .int .i64 64] (by rfl) rfl rfl (by (try simp only [List.map_toArray, List.map_cons, List.map_nil]); first | done | rfl | (simp only [List.length_drop, List.length_take]; rfl)) ?_
       with_reducible refine (fix_Clamp.calls t324 (-64) 64 t325 _ A84.out).mono ?_
       rintro e w' ⟨rfl, ⟨nd, rfl⟩⟩
       refine ⟨_, rfl, ?_⟩
       refine hK.out _ _ ⟨(cellS65_0 HI0.out.1), (cellS65_1 HI0.out.1), (cellS65_2 HI0.out.1), (cellS65_3 HI0.out.1), (blk_cell BK289.out 0).trans rfl, (blk_cell BK289.out 1).trans rfl, (blk_cell BK289.out 2).trans rfl⟩ (fun hHeld => ?_)
       clear hK K
       refine norm_ (a' := ?_) ?_ ?_
       rotate_left
       ·show Act.put _ (some 57) _ = _
        simp only [Act.put, List.setIfInBounds_toArray, List.set_cons_zero, List.set_cons_succ, i64_w, i32_w]
        rfl
       refine pure_ (i := 12) (N := some 58) (v := ?_) (a' := ?_) (lb_ 14 8191) rfl rfl (any_of HT_.out (by kernel_rfl)) (fun _ _ _ h => h) (Or.inl ⟨by rfl, ?_⟩) ?_ ?_; rotate_left; (intro w'; go_simp; with_reducible rfl); rotate_left; (simp only [Act.put, List.setIfInBounds_toArray, List.set_cons_zero, List.set_cons_succ, i64_w, i32_w]; rfl)
       refine one_ (i := 13) (N := none) (lb_ 14 16383) rfl rfl (one_of HT_.out (by kernel_rfl)) (by decide) (fun K hK => ?_)
       have hs100 : w99.cell? ⟨gb291, 1, none⟩ = some (.int .i64 x292001_1) := (blk_cell BK291.out 1).trans rfl
       have hfs100 := blk_frozen BK291.out 1
       have hns100_0 := NB287_291.out
       have hns100_1 := NB288_291.out
       have hns100_2 := NB289_291.out
       have hns100_3 := NB290_291.out
       have hns100_5 := NB309_291.out
       have hms100_0 := NB291_287.out
       have hms100_1 := NB291_288.out
       have hms100_2 := NB291_289.out
       have hms100_3 := NB291_290.out
       have hms100_5 := NB291_309.out
       refine skip_ (w1 := ?_) (by rfl) rfl ?_ ?_
       rotate_left
       ·go_simp
        rfl
       refine hK.out _ _ ⟨((cell_far (p := ⟨gb291, _, none⟩) NB0_291.out _).trans (hHeld.1)), ((cell_far (p := ⟨gb291, _, none⟩) NB0_291.out _).trans (hHeld.2.1)), ((cell_far (p := ⟨gb291, _, none⟩) NB0_291.out _).trans (hHeld.2.2.1)), ((cell_far (p := ⟨gb291, _, none⟩) NB0_291.out _).trans (hHeld.2.2.2.1)), ((cell_far (p := ⟨gb291, _, none⟩) NB289_291.out _).trans (hHeld.2.2.2.2.1)), ((cell_far (p := ⟨gb291, _, none⟩) NB289_291.out _).trans (hHeld.2.2.2.2.2.1)), ((cell_far (p := ⟨gb291, _, none⟩) NB289_291.out _).trans (hHeld.2.2.2.2.2.2))⟩ (fun hHeld => ?_)
       clear hK K
       refine done_ (done_of HT_.out (by kernel_rfl)) ?_
       try go_wp2
       go_roundg k1
       case measure => have := HK1.out; omega
       case rel => exact ⟨(2), (x1000_1), (x1001_1), (t323), (x1003_1), (x291000_1), (x291001_1), (x291002_1), (x292000_1), (t325), (x292002_1), (by first | rfl | (simp; done) | (simp [*]; done)), H', ⟨by have := HK1.out; omega⟩, ⟨by (with_reducible repeat (first | refine blk_drewN ?_ _ | refine blk_drew ?_ | refine blk_alloc ?_ _)); refine blk_far ?_ NB287_291.out _; (with_reducible repeat (first | refine blk_drewN ?_ _ | refine blk_drew ?_ | refine blk_alloc ?_ _)); exact BK287.out⟩, ⟨by (with_reducible repeat (first | refine blk_drewN ?_ _ | refine blk_drew ?_ | refine blk_alloc ?_ _)); refine blk_far ?_ NB288_291.out _; (with_reducible repeat (first | refine blk_drewN ?_ _ | refine blk_drew ?_ | refine blk_alloc ?_ _)); exact BK288.out⟩, ⟨by (with_reducible repeat (first | refine blk_drewN ?_ _ | refine blk_drew ?_ | refine blk_alloc ?_ _)); refine blk_far ?_ NB289_291.out _; (with_reducible repeat (first | refine blk_drewN ?_ _ | refine blk_drew ?_ | refine blk_alloc ?_ _)); exact BK289.out⟩, ⟨by (with_reducible repeat (first | refine blk_drewN ?_ _ | refine blk_drew ?_ | refine blk_alloc ?_ _)); refine blk_far ?_ NB290_291.out _; (with_reducible repeat (first | refine blk_drewN ?_ _ | refine blk_drew ?_ | refine blk_alloc ?_ _)); exact BK290.out⟩, ⟨by (with_reducible repeat (first | refine blk_drewN ?_ _ | refine blk_drew ?_ | refine blk_alloc ?_ _)); refine blk_put (cs := #[.int .i64 x292000_1, .int .i64 x292001_1, .int .i64 x292002_1]) ?_ 1 _ rfl; (with_reducible repeat (first | refine blk_drewN ?_ _ | refine blk_drew ?_ | refine blk_alloc ?_ _)); exact BK291.out⟩, ⟨by repeat (first | (with_reducible first | exact HI0.out | apply IsS65.alloc | apply IsS65.drewN | apply IsS65.drew | apply IsS65.set_0 | apply IsS65.set_1 | apply IsS65.set_2 | apply IsS65.set_3 | apply IsS65.farb NB0_287.out | apply IsS65.farb NB0_288.out | apply IsS65.farb NB0_289.out | apply IsS65.farb NB0_290.out | apply IsS65.farb NB0_291.out | apply IsS65.farb NB0_309.out) | exact HI0.out)⟩, ⟨by repeat (first | (with_reducible first | exact HK.out | apply KeepBut.set_ | apply keep_drewN | apply keep_drew | apply keep_alloc | refine keep_far ?_ GW287.out _ | refine keep_far ?_ GW288.out _ | refine keep_far ?_ GW289.out _ | refine keep_far ?_ GW290.out _ | refine keep_far ?_ GW291.out _ | refine keep_far ?_ GW309.out _) | exact HK.out)⟩, ⟨by repeat (first | (with_reducible first | exact HB.out | apply below_alloc | apply pw_below_drewN | apply below_drew1 | refine below_set ?_ (IsS65.ge HI0.out) | refine below_set ?_ GE287.out | refine below_set ?_ GE288.out | refine below_set ?_ GE289.out | refine below_set ?_ GE290.out | refine below_set ?_ GE291.out | refine below_set ?_ GE309.out) | exact HB.out)⟩⟩
     rw [if_neg c59] at H
     by_cases c101 : x17_1 = 2
     ·subst c101
      have H1 : (if a1_6 = true then ((control_Steer_place.f k1 x1000_1 x1001_1 x1002_1 x1003_1 a1_6 a1_7 a1_8 a2_2).bind fun bt327 => ((fix_Slew.f k1 x1003_1 bt327.1 x1000_1).bind fun t332 => ((fix_Sub.f k1 t332 a3_2).bind fun t333 => ((fix_Clamp.f t333 (-64) 64).bind fun t334 => (control_Steer_Step.l0 k1 3 x1000_1 x1001_1 x1002_1 t332 a2_0 a2_1 a2_2 a3_0 a3_1 a3_2 x292000_1 x292001_1 t334 a1_0 a1_1 a1_2 a1_3 a1_4 a1_5 a1_6 a1_7 a1_8))))) else ((control_Steer_drift.f x1000_1 x1001_1 x1002_1 x1003_1 a1_6 a1_7 a1_8 a2_2).bind fun bt335 => ((fix_Slew.f k1 x1003_1 bt335.1 x1000_1).bind fun t340 => ((fix_Sub.f k1 t340 a3_2).bind fun t341 => ((fix_Clamp.f t341 (-64) 64).bind fun t342 => (control_Steer_Step.l0 k1 3 x1000_1 x1001_1 x1002_1 t340 a2_0 a2_1 a2_2 a3_0 a3_1 a3_2 x292000_1 x292001_1 t342 a1_0 a1_1 a1_2 a1_3 a1_4 a1_5 a1_6 a1_7 a1_8)))))) = some (r1, r2, r3, r4, r5, r6, r7) := by rw [if_pos rfl] at H; exact H
      clear H
      have H := H1
      clear H1
      by_cases c102 : a1_6 = true
      ·subst c102
       have H1 : ((control_Steer_place.f k1 x1000_1 x1001_1 x1002_1 x1003_1 true a1_7 a1_8 a2_2).bind fun bt327 => ((fix_Slew.f k1 x1003_1 bt327.1 x1000_1).bind fun t332 => ((fix_Sub.f k1 t332 a3_2).bind fun t333 => ((fix_Clamp.f t333 (-64) 64).bind fun t334 => (control_Steer_Step.l0 k1 3 x1000_1 x1001_1 x1002_1 t332 a2_0 a2_1 a2_2 a3_0 a3_1 a3_2 x292000_1 x292001_1 t334 a1_0 a1_1 a1_2 a1_3 a1_4 a1_5 true a1_7 a1_8))))) = some (r1, r2, r3, r4, r5, r6, r7) := by rw [if_pos rfl] at H; exact H
       clear H
       have H := H1
       clear H1
       replace H := Option.bind_eq_some_iff.mp H
       obtain ⟨⟨t327, t328, t329, t330, t331⟩, A1030, H⟩ := H
       replace H : ((fix_Slew.f k1 x1003_1 t327 x1000_1).bind fun t332 => ((fix_Sub.f k1 t332 a3_2).bind fun t333 => ((fix_Clamp.f t333 (-64) 64).bind fun t334 => (control_Steer_Step.l0 k1 3 x1000_1 x1001_1 x1002_1 t332 a2_0 a2_1 a2_2 a3_0 a3_1 a3_2 x292000_1 x292001_1 t334 a1_0 a1_1 a1_2 a1_3 a1_4 a1_5 true a1_7 a1_8)))) = some (r1, r2, r3, r4, r5, r6, r7) := H
       have A103 := Aside0.mk A1030
       clear A1030
       obtain ⟨E0_, E1_, E2_, E3_⟩ := control_Steer_place.same A103.out
       subst E0_
       subst E1_
       subst E2_
       subst E3_
       replace H := Option.bind_eq_some_iff.mp H
       obtain ⟨t332, A1040, H⟩ := H
       replace H : ((fix_Sub.f k1 t332 a3_2).bind fun t333 => ((fix_Clamp.f t333 (-64) 64).bind fun t334 => (control_Steer_Step.l0 k1 3 x1000_1 x1001_1 x1002_1 t332 a2_0 a2_1 a2_2 a3_0 a3_1 a3_2 x292000_1 x292001_1 t334 a1_0 a1_1 a1_2 a1_3 a1_4 a1_5 true a1_7 a1_8))) = some (r1, r2, r3, r4, r5, r6, r7) := H
       have A104 := Aside0.mk A1040
       clear A1040
       replace H := Option.bind_eq_some_iff.mp H
       obtain ⟨t333, A1050, H⟩ := H
       replace H : ((fix_Clamp.f t333 (-64) 64).bind fun t334 => (control_Steer_Step.l0 k1 3 x1000_1 x1001_1 x1002_1 t332 a2_0 a2_1 a2_2 a3_0 a3_1 a3_2 x292000_1 x292001_1 t334 a1_0 a1_1 a1_2 a1_3 a1_4 a1_5 true a1_7 a1_8)) = some (r1, r2, r3, r4, r5, r6, r7) := H
       have A105 := Aside0.mk A1050
       clear A1050
       replace H := Option.bind_eq_some_iff.mp H
       obtain ⟨t334, A1060, H⟩ := H
       replace H : (control_Steer_Step.l0 k1 3 x1000_1 x1001_1 x1002_1 t332 a2_0 a2_1 a2_2 a3_0 a3_1 a3_2 x292000_1 x292001_1 t334 a1_0 a1_1 a1_2 a1_3 a1_4 a1_5 true a1_7 a1_8) = some (r1, r2, r3, r4, r5, r6, r7) := H
       have A106 := Aside0.mk A1060
       clear A1060
       have H' := Aside0.mk H
       clear H
       try go_wp2_with (first | ((with_reducible refine gate_dst (N := 11) rfl ?_); refine box_event ?hg (N := 11) ?hd (cs := #[.bool false, .int .i64 0, .int .i64 0]) (t := 41) ?hr ?_; (case hd => rfl); (case hg => rfl); (case hr => first | (go_simp; done) | (go_simp; rfl)); intro gb326 hg w107 hbox hb; have n0_ := Aside0.mk (blk_below BK287.out hb); have n1_ := Aside0.mk (blk_below BK288.out hb); have n2_ := Aside0.mk (blk_below BK289.out hb); have n3_ := Aside0.mk (blk_below BK290.out hb); have n4_ := Aside0.mk (blk_below BK291.out hb); have n5_ := Aside0.mk (IsS65.below HI0.out hb); have n6_ := Aside0.mk (KeepBut.trans HK.out (KeepBut.of_below hb g none) (.inl rfl)); have n7_ := Aside0.mk (below_step HB.out hb); have n8_ := Aside0.mk (hbox); have n9_ := Aside0.mk ((by rw [hg]; exact (keep_size (w := w) (g := g) (row := none) HK.out) : w.heap.size ≤ gb326)); have n10_ := Aside0.mk ((Nat.le_trans HW0.out (by rw [hg]; exact (keep_size (w := w) (g := g) (row := none) HK.out) : w.heap.size ≤ gb326) : w0.heap.size ≤ gb326)); have n11_ := Aside0.mk ((by rw [hg]; exact Nat.ne_of_lt (blk_lt BK287.out) : gb287 ≠ gb326)); have n12_ := Aside0.mk ((by rw [hg]; exact Nat.ne_of_gt (blk_lt BK287.out) : gb326 ≠ gb287)); have n13_ := Aside0.mk ((by rw [hg]; exact Nat.ne_of_lt (blk_lt BK288.out) : gb288 ≠ gb326)); have n14_ := Aside0.mk ((by rw [hg]; exact Nat.ne_of_gt (blk_lt BK288.out) : gb326 ≠ gb288)); have n15_ := Aside0.mk ((by rw [hg]; exact Nat.ne_of_lt (blk_lt BK289.out) : gb289 ≠ gb326)); have n16_ := Aside0.mk ((by rw [hg]; exact Nat.ne_of_gt (blk_lt BK289.out) : gb326 ≠ gb289)); have n17_ := Aside0.mk ((by rw [hg]; exact Nat.ne_of_lt (blk_lt BK290.out) : gb290 ≠ gb326)); have n18_ := Aside0.mk ((by rw [hg]; exact Nat.ne_of_gt (blk_lt BK290.out) : gb326 ≠ gb290)); have n19_ := Aside0.mk ((by rw [hg]; exact Nat.ne_of_lt (blk_lt BK291.out) : gb291 ≠ gb326)); have n20_ := Aside0.mk ((by rw [hg]; exact Nat.ne_of_gt (blk_lt BK291.out) : gb326 ≠ gb291)); have n21_ := Aside0.mk ((by rw [hg]; exact Nat.ne_of_lt (IsS65.lt HI0.out) : g ≠ gb326)); have n22_ := Aside0.mk ((by rw [hg]; exact Nat.ne_of_gt (IsS65.lt HI0.out) : gb326 ≠ g)); clear BK287; clear BK288; clear BK289; clear BK290; clear BK291; clear HI0; clear HK; clear HB; have BK287 := n0_; have BK288 := n1_; have BK289 := n2_; have BK290 := n3_; have BK291 := n4_; have HI0 := n5_; have HK := n6_; have HB := n7_; have BK326 := n8_; have GW326 := n9_; have GE326 := n10_; have NB287_326 := n11_; have NB326_287 := n12_; have NB288_326 := n13_; have NB326_288 := n14_; have NB289_326 := n15_; have NB326_289 := n16_; have NB290_326 := n17_; have NB326_290 := n18_; have NB291_326 := n19_; have NB326_291 := n20_; have NB0_326 := n21_; have NB326_0 := n22_; clear n0_ n1_ n2_ n3_ n4_ n5_ n6_ n7_ n8_ n9_ n10_ n11_ n12_ n13_ n14_ n15_ n16_ n17_ n18_ n19_ n20_ n21_ n22_; clear hb hbox hg; have hnb108 := NB326_287.out; have hnc108 := NB287_326.out; have hnb109 := NB326_288.out; have hnc109 := NB288_326.out; have hnb110 := NB326_289.out; have hnc110 := NB289_326.out; have hnb111 := NB326_290.out; have hnc111 := NB290_326.out; have hnb112 := NB326_291.out; have hnc112 := NB291_326.out; have hnb113 := NB326_0.out; have hnc113 := NB0_326.out; have hcz114_0 := blk_cells3 (w := w107) (g := gb326) BK326.out; have hfz114_0 := blk_frozen BK326.out))
       (repeat (rw [drewN_self w107]; generalize hq_ : World.drewN w107 _ = w107; have n0_ := Aside0.mk (blk_at hq_ BK287.out); have n1_ := Aside0.mk (blk_at hq_ BK288.out); have n2_ := Aside0.mk (blk_at hq_ BK289.out); have n3_ := Aside0.mk (blk_at hq_ BK290.out); have n4_ := Aside0.mk (blk_at hq_ BK291.out); have n5_ := Aside0.mk (blk_at hq_ BK326.out); have n6_ := Aside0.mk (IsS65.at_ hq_ HI0.out); have n7_ := Aside0.mk (keep_at hq_ HK.out); have n8_ := Aside0.mk (below_at hq_ HB.out); clear hq_ BK287 BK288 BK289 BK290 BK291 BK326 HI0 HK HB; have BK287 := n0_; have BK288 := n1_; have BK289 := n2_; have BK290 := n3_; have BK291 := n4_; have BK326 := n5_; have HI0 := n6_; have HK := n7_; have HB := n8_; clear n0_ n1_ n2_ n3_ n4_ n5_ n6_ n7_ n8_))
       obtain ⟨w115, hW_⟩ : ∃ W_, W_ = (((w107.setCell ⟨gb326, 0, none⟩ (.bool true)).setCell ⟨gb326, 1, none⟩ (.int .i64 a1_7)).setCell ⟨gb326, 2, none⟩ (.int .i64 a1_8)) := ⟨_, rfl⟩
       have n0_ : Aside0 (w115.heap[gb287]? = some (.cells #[.bool a1_0, .int .i64 a1_1, .int .i64 a1_2, .bool a1_3, .int .i64 a1_4, .int .i64 a1_5, .bool true, .int .i64 a1_7, .int .i64 a1_8] 42 (0, 0))) := ⟨by rw [hW_]; repeat (first | exact BK287.out | refine blk_far ?_ NB287_326.out _ | (with_reducible first | refine blk_drewN ?_ _ | refine blk_drew ?_ | refine blk_alloc ?_ _))⟩
       have n1_ : Aside0 (w115.heap[gb288]? = some (.cells #[.int .i64 a2_0, .int .i64 a2_1, .int .i64 a2_2] 37 (0, 0))) := ⟨by rw [hW_]; repeat (first | exact BK288.out | refine blk_far ?_ NB288_326.out _ | (with_reducible first | refine blk_drewN ?_ _ | refine blk_drew ?_ | refine blk_alloc ?_ _))⟩
       have n2_ : Aside0 (w115.heap[gb289]? = some (.cells #[.int .i64 a3_0, .int .i64 a3_1, .int .i64 a3_2] 37 (0, 0))) := ⟨by rw [hW_]; repeat (first | exact BK289.out | refine blk_far ?_ NB289_326.out _ | (with_reducible first | refine blk_drewN ?_ _ | refine blk_drew ?_ | refine blk_alloc ?_ _))⟩
       have n3_ : Aside0 (w115.heap[gb290]? = some (.cells #[.int .i64 x291000_1, .int .i64 x291001_1, .int .i64 x291002_1] 37 (0, 0))) := ⟨by rw [hW_]; repeat (first | exact BK290.out | refine blk_far ?_ NB290_326.out _ | (with_reducible first | refine blk_drewN ?_ _ | refine blk_drew ?_ | refine blk_alloc ?_ _))⟩
       have n4_ : Aside0 (w115.heap[gb291]? = some (.cells #[.int .i64 x292000_1, .int .i64 x292001_1, .int .i64 x292002_1] 37 (0, 0))) := ⟨by rw [hW_]; repeat (first | exact BK291.out | refine blk_far ?_ NB291_326.out _ | (with_reducible first | refine blk_drewN ?_ _ | refine blk_drew ?_ | refine blk_alloc ?_ _))⟩
       have n5_ : Aside0 (w115.heap[gb326]? = some (.cells #[.bool true, .int .i64 a1_7, .int .i64 a1_8] 41 (0, 0))) := ⟨by rw [hW_]; (with_reducible repeat (first | refine blk_drewN ?_ _ | refine blk_drew ?_ | refine blk_alloc ?_ _)); refine blk_put (cs := #[.bool true, .int .i64 a1_7, .int .i64 0]) ?_ 2 _ rfl; (with_reducible repeat (first | refine blk_drewN ?_ _ | refine blk_drew ?_ | refine blk_alloc ?_ _)); refine blk_put (cs := #[.bool true, .int .i64 0, .int .i64 0]) ?_ 1 _ rfl; (with_reducible repeat (first | refine blk_drewN ?_ _ | refine blk_drew ?_ | refine blk_alloc ?_ _)); refine blk_put (cs := #[.bool false, .int .i64 0, .int .i64 0]) ?_ 0 _ rfl; (with_reducible repeat (first | refine blk_drewN ?_ _ | refine blk_drew ?_ | refine blk_alloc ?_ _)); exact BK326.out⟩
       have n6_ : Aside0 (IsS65 w0 w115 g x1000_1 x1001_1 x1002_1 x1003_1) := ⟨by rw [hW_]; repeat (first | (with_reducible first | exact HI0.out | apply IsS65.alloc | apply IsS65.drewN | apply IsS65.drew | apply IsS65.set_0 | apply IsS65.set_1 | apply IsS65.set_2 | apply IsS65.set_3 | apply IsS65.farb NB0_287.out | apply IsS65.farb NB0_288.out | apply IsS65.farb NB0_289.out | apply IsS65.farb NB0_290.out | apply IsS65.farb NB0_291.out | apply IsS65.farb NB0_326.out) | exact HI0.out)⟩
       have n7_ : Aside0 (KeepBut w w115 g none) := ⟨by rw [hW_]; repeat (first | (with_reducible first | exact HK.out | apply KeepBut.set_ | apply keep_drewN | apply keep_drew | apply keep_alloc | refine keep_far ?_ GW287.out _ | refine keep_far ?_ GW288.out _ | refine keep_far ?_ GW289.out _ | refine keep_far ?_ GW290.out _ | refine keep_far ?_ GW291.out _ | refine keep_far ?_ GW326.out _) | exact HK.out)⟩
       have n8_ : Aside0 (Below w0.heap.size w0 w115) := ⟨by rw [hW_]; repeat (first | (with_reducible first | exact HB.out | apply below_alloc | apply pw_below_drewN | apply below_drew1 | refine below_set ?_ (IsS65.ge HI0.out) | refine below_set ?_ GE287.out | refine below_set ?_ GE288.out | refine below_set ?_ GE289.out | refine below_set ?_ GE290.out | refine below_set ?_ GE291.out | refine below_set ?_ GE326.out) | exact HB.out)⟩
       (try clear BK287)
       (try clear BK288)
       (try clear BK289)
       (try clear BK290)
       (try clear BK291)
       (try clear BK326)
       (try clear HI0)
       (try clear HK)
       (try clear HB)
       rw [← hW_]
       clear hW_
       have BK287 := n0_
       have BK288 := n1_
       have BK289 := n2_
       have BK290 := n3_
       have BK291 := n4_
       have BK326 := n5_
       have HI0 := n6_
       have HK := n7_
       have HB := n8_
       clear n0_ n1_ n2_ n3_ n4_ n5_ n6_ n7_ n8_
       have n0_ := Aside0.mk (blk_drew BK287.out)
       have n1_ := Aside0.mk (blk_drew BK288.out)
       have n2_ := Aside0.mk (blk_drew BK289.out)
       have n3_ := Aside0.mk (blk_drew BK290.out)
       have n4_ := Aside0.mk (blk_drew BK291.out)
       have n5_ := Aside0.mk (blk_drew BK326.out)
       have n6_ := Aside0.mk (IsS65.drew HI0.out)
       have n7_ := Aside0.mk (keep_drew HK.out)
       have n8_ := Aside0.mk (below_drew1 HB.out)
       clear BK287
       clear BK288
       clear BK289
       clear BK290
       clear BK291
       clear BK326
       clear HI0
       clear HK
       clear HB
       have BK287 := n0_
       have BK288 := n1_
       have BK289 := n2_
       have BK290 := n3_
       have BK291 := n4_
       have BK326 := n5_
       have HI0 := n6_
       have HK := n7_
       have HB := n8_
       clear n0_ n1_ n2_ n3_ n4_ n5_ n6_ n7_ n8_
       refine start_ (n := 24) (S := fun w' => w'.cell? ⟨g, 0, none⟩ = some (.int .i64 x1000_1) ∧ w'.cell? ⟨g, 1, none⟩ = some (.int .i64 x1001_1) ∧ w'.cell? ⟨g, 2, none⟩ = some (.int .i64 x1002_1) ∧ w'.cell? ⟨g, 3, none⟩ = some (.int .i64 x1003_1) ∧ w'.cell? ⟨gb326, 0, none⟩ = some (.bool true) ∧ w'.cell? ⟨gb326, 1, none⟩ = some (.int .i64 a1_7) ∧ w'.cell? ⟨gb326, 2, none⟩ = some (.int .i64 a1_8) ∧ w'.cell? ⟨gb288, 0, none⟩ = some (.int .i64 a2_0) ∧ w'.cell? ⟨gb288, 1, none⟩ = some (.int .i64 a2_1) ∧ w'.cell? ⟨gb288, 2, none⟩ = some (.int .i64 a2_2)) (ds := [23]) (lb_ 24 0) (by kernel_rfl) rfl rfl ⟨(cellS65_0 HI0.out.1), (cellS65_1 HI0.out.1), (cellS65_2 HI0.out.1), (cellS65_3 HI0.out.1), (blk_cell BK326.out 0).trans rfl, (blk_cell BK326.out 1).trans rfl, (blk_cell BK326.out 2).trans rfl, (blk_cell BK288.out 0).trans rfl, (blk_cell BK288.out 1).trans rfl, (blk_cell BK288.out 2).trans rfl⟩ (fun hHeld => ?_); refine with_tabW control_Steer_Step.tab10 control_Steer_Step.bits10 (fun HT_ HW_ => ?_)
       generalize w115.drew = w116 at BK287 BK288 BK289 BK290 BK291 BK326 HI0 HK HB hHeld ⊢
       refine pure_ (i := 0) (N := some 23) (v := ?_) (a' := ?_) (lb_ 24 1) rfl rfl (any_of HT_.out (by kernel_rfl)) (fun _ _ _ h => h) (Or.inl ⟨by rfl, ?_⟩) ?_ ?_; rotate_left; (intro w'; go_simp; with_reducible rfl); rotate_left; (simp only [Act.put, List.setIfInBounds_toArray, List.set_cons_zero, List.set_cons_succ, i64_w, i32_w]; rfl)
       refine pure_ (i := 1) (N := some 24) (v := ?_) (a' := ?_) (lb_ 24 3) rfl rfl (any_of HT_.out (by kernel_rfl)) (fun _ _ _ h => h) (Or.inl ⟨by rfl, ?_⟩) ?_ ?_; rotate_left; (intro w'; go_simp; with_reducible rfl); rotate_left; (simp only [Act.put, List.setIfInBounds_toArray, List.set_cons_zero, List.set_cons_succ, i64_w, i32_w]; rfl)
       refine pure_ (i := 2) (N := some 25) (v := ?_) (a' := ?_) (lb_ 24 7) rfl rfl (any_of HT_.out (by kernel_rfl)) (fun _ _ _ h => h) (Or.inl ⟨by rfl, ?_⟩) ?_ ?_; rotate_left; (intro w'; go_simp; with_reducible rfl); rotate_left; (simp only [Act.put, List.setIfInBounds_toArray, List.set_cons_zero, List.set_cons_succ, i64_w, i32_w]; rfl)
       refine pure_ (i := 3) (N := some 26) (v := ?_) (a' := ?_) (lb_ 24 15) rfl rfl (any_of HT_.out (by kernel_rfl)) (fun _ _ _ h => h) (Or.inl ⟨by rfl, ?_⟩) ?_ ?_; rotate_left; (intro w'; go_simp; with_reducible rfl); rotate_left; (simp only [Act.put, List.setIfInBounds_toArray, List.set_cons_zero, List.set_cons_succ, i64_w, i32_w]; rfl)
       refine pure_ (i := 4) (N := some 27) (v := ?_) (a' := ?_) (lb_ 24 31) rfl rfl (any_of HT_.out (by kernel_rfl)) (fun _ _ _ h => h) (Or.inl ⟨by rfl, ?_⟩) ?_ ?_; rotate_left; (intro w'; go_simp; with_reducible rfl); rotate_left; (simp only [Act.put, List.setIfInBounds_toArray, List.set_cons_zero, List.set_cons_succ, i64_w, i32_w]; rfl)
       refine pure_ (i := 5) (N := some 28) (v := ?_) (a' := ?_) (lb_ 24 63) rfl rfl (any_of HT_.out (by kernel_rfl)) (fun _ _ _ h => h) (Or.inl ⟨by rfl, ?_⟩) ?_ ?_; rotate_left; (intro w'; go_simp; with_reducible rfl); rotate_left; (simp only [Act.put, List.setIfInBounds_toArray, List.set_cons_zero, List.set_cons_succ, i64_w, i32_w]; rfl)
       refine pure_ (i := 6) (N := some 29) (v := ?_) (a' := ?_) (lb_ 24 127) rfl rfl (any_of HT_.out (by kernel_rfl)) (fun _ _ _ h => h) (Or.inl ⟨by rfl, ?_⟩) ?_ ?_; rotate_left; (intro w'; go_simp; with_reducible rfl); rotate_left; (simp only [Act.put, List.setIfInBounds_toArray, List.set_cons_zero, List.set_cons_succ, i64_w, i32_w]; rfl)
       refine pure_ (i := 8) (N := some 31) (v := ?_) (a' := ?_) (lb_ 24 383) rfl rfl (any_of HT_.out (by kernel_rfl)) (fun _ _ _ h => h) (Or.inl ⟨by rfl, ?_⟩) ?_ ?_; rotate_left; (intro w'; go_simp; with_reducible rfl); rotate_left; (simp only [Act.put, List.setIfInBounds_toArray, List.set_cons_zero, List.set_cons_succ, i64_w, i32_w]; rfl)
       refine pure_ (i := 9) (N := some 32) (v := ?_) (a' := ?_) (lb_ 24 895) rfl rfl (any_of HT_.out (by kernel_rfl)) (fun _ _ _ h => h) (Or.inl ⟨by rfl, ?_⟩) ?_ ?_; rotate_left; (intro w'; go_simp; with_reducible rfl); rotate_left; (simp only [Act.put, List.setIfInBounds_toArray, List.set_cons_zero, List.set_cons_succ, i64_w, i32_w]; rfl)
       refine pure_ (i := 11) (N := some 34) (v := ?_) (a' := ?_) (lb_ 24 2943) rfl rfl (any_of HT_.out (by kernel_rfl)) (fun _ _ _ h => h) (Or.inl ⟨by rfl, ?_⟩) ?_ ?_; rotate_left; (intro w'; go_simp; with_reducible rfl); rotate_left; (simp only [Act.put, List.setIfInBounds_toArray, List.set_cons_zero, List.set_cons_succ, i64_w, i32_w]; rfl)
       refine pure_ (i := 12) (N := some 35) (v := ?_) (a' := ?_) (lb_ 24 7039) rfl rfl (any_of HT_.out (by kernel_rfl)) (fun _ _ _ h => h) (Or.inl ⟨by rfl, ?_⟩) ?_ ?_; rotate_left; (intro w'; go_simp; with_reducible rfl); rotate_left; (simp only [Act.put, List.setIfInBounds_toArray, List.set_cons_zero, List.set_cons_succ, i64_w, i32_w]; rfl)
       refine pure_ (i := 15) (N := some 38) (v := ?_) (a' := ?_) (lb_ 24 39807) rfl rfl (any_of HT_.out (by kernel_rfl)) (fun _ _ _ h => h) (Or.inl ⟨by rfl, ?_⟩) ?_ ?_; rotate_left; (intro w'; go_simp; with_reducible rfl); rotate_left; (simp only [Act.put, List.setIfInBounds_toArray, List.set_cons_zero, List.set_cons_succ, i64_w, i32_w]; rfl)
       refine pure_ (i := 16) (N := some 39) (v := ?_) (a' := ?_) (lb_ 24 105343) rfl rfl (any_of HT_.out (by kernel_rfl)) (fun _ _ _ h => h) (Or.inl ⟨by rfl, ?_⟩) ?_ ?_; rotate_left; (intro w'; go_simp; with_reducible rfl); rotate_left; (simp only [Act.put, List.setIfInBounds_toArray, List.set_cons_zero, List.set_cons_succ, i64_w, i32_w]; rfl)
       refine pure_ (i := 17) (N := some 40) (v := ?_) (a' := ?_) (lb_ 24 236415) rfl rfl (any_of HT_.out (by kernel_rfl)) (fun _ _ _ h => h) (Or.inl ⟨by rfl, ?_⟩) ?_ ?_; rotate_left; (intro w'; go_simp; with_reducible rfl); rotate_left; (simp only [Act.put, List.setIfInBounds_toArray, List.set_cons_zero, List.set_cons_succ, i64_w, i32_w]; rfl)
       refine pure_ (i := 20) (N := some 43) (v := ?_) (a' := ?_) (lb_ 24 1284991) rfl rfl (any_of HT_.out (by kernel_rfl)) (fun _ _ _ h => h) (Or.inl ⟨by rfl, ?_⟩) ?_ ?_; rotate_left; (intro w'; go_simp; with_reducible rfl); rotate_left; (simp only [Act.put, List.setIfInBounds_toArray, List.set_cons_zero, List.set_cons_succ, i64_w, i32_w]; rfl)
       refine pure_ (i := 21) (N := some 44) (v := ?_) (a' := ?_) (lb_ 24 3382143) rfl rfl (any_of HT_.out (by kernel_rfl)) (fun _ _ _ h => h) (Or.inl ⟨by rfl, ?_⟩) ?_ ?_; rotate_left; (intro w'; go_simp; with_reducible rfl); rotate_left; (simp only [Act.put, List.setIfInBounds_toArray, List.set_cons_zero, List.set_cons_succ, i64_w, i32_w]; rfl)
       refine take_ (i := 7) (N := some 30) (v := ?_) (a' := ?_) (lb_ 24 3382271) rfl rfl (take_ofW HT_.out HW_.out (by kernel_rfl)) (fun _ _ _ h => h) (Or.inl ⟨by rfl, ?_⟩) hHeld ?_ ?_; rotate_left; (rintro w' ⟨s0, s1, s2, s3, s4, s5, s6, s7, s8, s9⟩; go_simp; with_reducible rfl); rotate_left; (simp only [Act.put, List.setIfInBounds_toArray, List.set_cons_zero, List.set_cons_succ, i64_w, i32_w]; rfl)
       refine take_ (i := 10) (N := some 33) (v := ?_) (a' := ?_) (lb_ 24 3383295) rfl rfl (take_ofW HT_.out HW_.out (by kernel_rfl)) (fun _ _ _ h => h) (Or.inl ⟨by rfl, ?_⟩) hHeld ?_ ?_; rotate_left; (rintro w' ⟨s0, s1, s2, s3, s4, s5, s6, s7, s8, s9⟩; go_simp; with_reducible rfl); rotate_left; (simp only [Act.put, List.setIfInBounds_toArray, List.set_cons_zero, List.set_cons_succ, i64_w, i32_w]; rfl)
       refine take_ (i := 13) (N := some 36) (v := ?_) (a' := ?_) (lb_ 24 3391487) rfl rfl (take_ofW HT_.out HW_.out (by kernel_rfl)) (fun _ _ _ h => h) (Or.inl ⟨by rfl, ?_⟩) hHeld ?_ ?_; rotate_left; (rintro w' ⟨s0, s1, s2, s3, s4, s5, s6, s7, s8, s9⟩; go_simp; with_reducible rfl); rotate_left; (simp only [Act.put, List.setIfInBounds_toArray, List.set_cons_zero, List.set_cons_succ, i64_w, i32_w]; rfl)
       refine take_ (i := 18) (N := some 41) (v := ?_) (a' := ?_) (lb_ 24 3653631) rfl rfl (take_ofW HT_.out HW_.out (by kernel_rfl)) (fun _ _ _ h => h) (Or.inl ⟨by rfl, ?_⟩) hHeld ?_ ?_; rotate_left; (rintro w' ⟨s0, s1, s2, s3, s4, s5, s6, s7, s8, s9⟩; go_simp; with_reducible rfl); rotate_left; (simp only [Act.put, List.setIfInBounds_toArray, List.set_cons_zero, List.set_cons_succ, i64_w, i32_w]; rfl)
       refine one_ (i := 14) (N := some 37) (lb_ 24 3670015) rfl rfl (one_of HT_.out (by kernel_rfl)) (by decide) (fun K hK => ?_)
       refine goesv_ Try.func40 (by kernel_rfl) rfl #[.pointer (some ⟨g, 0, none⟩), .agg #[.bool true, .int .i64 a1_7, .int .i64 a1_8], .int .i64 a2_2] (by rfl) rfl rfl rfl (by (try simp only [List.map_toArray, List.map_cons, List.map_nil]); first | done | rfl | (simp only [List.length_drop, List.length_take]; rfl)) ?_
       with_reducible refine (control_Steer_place.calls k1 g x1000_1 x1001_1 x1002_1 x1003_1 true a1_7 a1_8 a2_2 t327 x1000_1 x1001_1 x1002_1 x1003_1 w0 _ ?side1 ?side2 A103.out).mono ?_
       (case side1 => repeat (first | (with_reducible first | exact HI0.out | apply IsS65.alloc | apply IsS65.drewN | apply IsS65.drew | apply IsS65.set_0 | apply IsS65.set_1 | apply IsS65.set_2 | apply IsS65.set_3 | apply IsS65.farb NB0_287.out | apply IsS65.farb NB0_288.out | apply IsS65.farb NB0_289.out | apply IsS65.farb NB0_290.out | apply IsS65.farb NB0_291.out | apply IsS65.farb NB0_326.out) | exact HI0.out))
       (case side2 => repeat (first | (with_reducible first | exact HB.out | apply below_alloc | apply pw_below_drewN | apply below_drew1 | refine below_set ?_ (IsS65.ge HI0.out) | refine below_set ?_ GE287.out | refine below_set ?_ GE288.out | refine below_set ?_ GE289.out | refine below_set ?_ GE290.out | refine below_set ?_ GE291.out | refine below_set ?_ GE326.out) | exact HB.out))
       rintro e w117 ⟨rfl, hi, hb, hk⟩
       refine ⟨_, rfl, ?_⟩
       have n0_ := Aside0.mk (KeepBut.blk hk BK287.out NB287_0.out (by simp))
       have n1_ := Aside0.mk (KeepBut.blk hk BK288.out NB288_0.out (by simp))
       have n2_ := Aside0.mk (KeepBut.blk hk BK289.out NB289_0.out (by simp))
       have n3_ := Aside0.mk (KeepBut.blk hk BK290.out NB290_0.out (by simp))
       have n4_ := Aside0.mk (KeepBut.blk hk BK291.out NB291_0.out (by simp))
       have n5_ := Aside0.mk (KeepBut.blk hk BK326.out NB326_0.out (by simp))
       have n6_ := Aside0.mk (KeepBut.trans HK.out hk (.inl rfl))
       have n7_ := Aside0.mk (hb)
       have n8_ := Aside0.mk (hi)
       clear BK287
       clear BK288
       clear BK289
       clear BK290
       clear BK291
       clear BK326
       clear HK
       clear HB
       clear HI0
       have BK287 := n0_
       have BK288 := n1_
       have BK289 := n2_
       have BK290 := n3_
       have BK291 := n4_
       have BK326 := n5_
       have HK := n6_
       have HB := n7_
       have HI0 := n8_
       clear n0_ n1_ n2_ n3_ n4_ n5_ n6_ n7_ n8_
       (try clear hb)
       (try clear hb2)
       (try clear hk)
       (try clear hi)
       refine hK.out _ _ ⟨(cellS65_0 HI0.out.1), (cellS65_1 HI0.out.1), (cellS65_2 HI0.out.1), (cellS65_3 HI0.out.1), (blk_cell BK326.out 0).trans rfl, (blk_cell BK326.out 1).trans rfl, (blk_cell BK326.out 2).trans rfl, (blk_cell BK288.out 0).trans rfl, (blk_cell BK288.out 1).trans rfl, (blk_cell BK288.out 2).trans rfl⟩ (fun hHeld => ?_)
       clear hK K
       refine norm_ (a' := ?_) ?_ ?_
       rotate_left
       ·show Act.put _ (some 37) _ = _
        simp only [Act.put, List.setIfInBounds_toArray, List.set_cons_zero, List.set_cons_succ, i64_w, i32_w]
        rfl
       refine one_ (i := 19) (N := some 42) (lb_ 24 4194303) rfl rfl (one_of HT_.out (by kernel_rfl)) (by decide) (fun K hK => ?_)
       refine goes_ Try.func41 (by kernel_rfl) rfl #[.int .i64 x1003_1, .int .i64 t327, .int .i64 x1000_1] (by rfl) rfl rfl (by (try simp only [List.map_toArray, List.map_cons, List.map_nil]); first | done | rfl | (simp only [List.length_drop, List.length_take]; rfl)) ?_
       with_reducible refine (fix_Slew.calls k1 x1003_1 t327 x1000_1 t332 _ A104.out).mono ?_
       rintro e w118 ⟨rfl, hb⟩
       refine ⟨_, rfl, ?_⟩
       have n0_ := Aside0.mk (blk_below BK287.out hb)
       have n1_ := Aside0.mk (blk_below BK288.out hb)
       have n2_ := Aside0.mk (blk_below BK289.out hb)
       have n3_ := Aside0.mk (blk_below BK290.out hb)
       have n4_ := Aside0.mk (blk_below BK291.out hb)
       have n5_ := Aside0.mk (IsS65.below HI0.out hb)
       have n6_ := Aside0.mk (blk_below BK326.out hb)
       have n7_ := Aside0.mk (KeepBut.trans HK.out (KeepBut.of_below hb g none) (.inl rfl))
       have n8_ := Aside0.mk (below_step HB.out hb)
       clear BK287
       clear BK288
       clear BK289
       clear BK290
       clear BK291
       clear HI0
       clear BK326
       clear HK
       clear HB
       have BK287 := n0_
       have BK288 := n1_
       have BK289 := n2_
       have BK290 := n3_
       have BK291 := n4_
       have HI0 := n5_
       have BK326 := n6_
       have HK := n7_
       have HB := n8_
       clear n0_ n1_ n2_ n3_ n4_ n5_ n6_ n7_ n8_
       (try clear hb)
       (try clear hb2)
       (try clear hk)
       (try clear hi)
       refine hK.out _ _ ⟨(cellS65_0 HI0.out.1), (cellS65_1 HI0.out.1), (cellS65_2 HI0.out.1), (cellS65_3 HI0.out.1), (blk_cell BK326.out 0).trans rfl, (blk_cell BK326.out 1).trans rfl, (blk_cell BK326.out 2).trans rfl, (blk_cell BK288.out 0).trans rfl, (blk_cell BK288.out 1).trans rfl, (blk_cell BK288.out 2).trans rfl⟩ (fun hHeld => ?_)
       clear hK K
       refine norm_ (a' := ?_) ?_ ?_
       rotate_left
       ·show Act.put _ (some 42) _ = _
        simp only [Act.put, List.setIfInBounds_toArray, List.set_cons_zero, List.set_cons_succ, i64_w, i32_w]
        rfl
       refine pure_ (i := 22) (N := some 45) (v := ?_) (a' := ?_) (lb_ 24 8388607) rfl rfl (any_of HT_.out (by kernel_rfl)) (fun _ _ _ h => h) (Or.inl ⟨by rfl, ?_⟩) ?_ ?_; rotate_left; (intro w'; go_simp; with_reducible rfl); rotate_left; (simp only [Act.put, List.setIfInBounds_toArray, List.set_cons_zero, List.set_cons_succ, i64_w, i32_w]; rfl)
       refine last_ (i := 23) (N := none) (lb_ 24 16777215) rfl rfl (one_of HT_.out (by kernel_rfl)) (by decide) (fun K hK => ?_)
       have hs119 := cellS65_3 HI0.out.1
       have hfs119 := blk_frozen HI0.out.1 3
       have hns119_0 := NB287_0.out
       have hns119_1 := NB288_0.out
       have hns119_2 := NB289_0.out
       have hns119_3 := NB290_0.out
       have hns119_4 := NB291_0.out
       have hns119_5 := NB326_0.out
       have hms119_0 := NB0_287.out
       have hms119_1 := NB0_288.out
       have hms119_2 := NB0_289.out
       have hms119_3 := NB0_290.out
       have hms119_4 := NB0_291.out
       have hms119_5 := NB0_326.out
       refine skip_ (w1 := ?_) (by rfl) rfl ?_ ?_
       rotate_left
       ·go_simp
        rfl
       refine hK.out _ _ ?_
       clear hK K
       refine done_ (done_of HT_.out (by kernel_rfl)) ?_
       try go_wp2
       (repeat (rw [drewN_self w118]; generalize hq_ : World.drewN w118 _ = w118; have n0_ := Aside0.mk (blk_at hq_ BK287.out); have n1_ := Aside0.mk (blk_at hq_ BK288.out); have n2_ := Aside0.mk (blk_at hq_ BK289.out); have n3_ := Aside0.mk (blk_at hq_ BK290.out); have n4_ := Aside0.mk (blk_at hq_ BK291.out); have n5_ := Aside0.mk (blk_at hq_ BK326.out); have n6_ := Aside0.mk (IsS65.at_ hq_ HI0.out); have n7_ := Aside0.mk (keep_at hq_ HK.out); have n8_ := Aside0.mk (below_at hq_ HB.out); clear hq_ BK287 BK288 BK289 BK290 BK291 BK326 HI0 HK HB; have BK287 := n0_; have BK288 := n1_; have BK289 := n2_; have BK290 := n3_; have BK291 := n4_; have BK326 := n5_; have HI0 := n6_; have HK := n7_; have HB := n8_; clear n0_ n1_ n2_ n3_ n4_ n5_ n6_ n7_ n8_))
       obtain ⟨w120, hW_⟩ : ∃ W_, W_ = (w118.setCell ⟨g, 3, none⟩ (.int .i64 t332)) := ⟨_, rfl⟩
       have n0_ : Aside0 (w120.heap[gb287]? = some (.cells #[.bool a1_0, .int .i64 a1_1, .int .i64 a1_2, .bool a1_3, .int .i64 a1_4, .int .i64 a1_5, .bool true, .int .i64 a1_7, .int .i64 a1_8] 42 (0, 0))) := ⟨by rw [hW_]; repeat (first | exact BK287.out | refine blk_far ?_ NB287_0.out _ | (with_reducible first | refine blk_drewN ?_ _ | refine blk_drew ?_ | refine blk_alloc ?_ _))⟩
       have n1_ : Aside0 (w120.heap[gb288]? = some (.cells #[.int .i64 a2_0, .int .i64 a2_1, .int .i64 a2_2] 37 (0, 0))) := ⟨by rw [hW_]; repeat (first | exact BK288.out | refine blk_far ?_ NB288_0.out _ | (with_reducible first | refine blk_drewN ?_ _ | refine blk_drew ?_ | refine blk_alloc ?_ _))⟩
       have n2_ : Aside0 (w120.heap[gb289]? = some (.cells #[.int .i64 a3_0, .int .i64 a3_1, .int .i64 a3_2] 37 (0, 0))) := ⟨by rw [hW_]; repeat (first | exact BK289.out | refine blk_far ?_ NB289_0.out _ | (with_reducible first | refine blk_drewN ?_ _ | refine blk_drew ?_ | refine blk_alloc ?_ _))⟩
       have n3_ : Aside0 (w120.heap[gb290]? = some (.cells #[.int .i64 x291000_1, .int .i64 x291001_1, .int .i64 x291002_1] 37 (0, 0))) := ⟨by rw [hW_]; repeat (first | exact BK290.out | refine blk_far ?_ NB290_0.out _ | (with_reducible first | refine blk_drewN ?_ _ | refine blk_drew ?_ | refine blk_alloc ?_ _))⟩
       have n4_ : Aside0 (w120.heap[gb291]? = some (.cells #[.int .i64 x292000_1, .int .i64 x292001_1, .int .i64 x292002_1] 37 (0, 0))) := ⟨by rw [hW_]; repeat (first | exact BK291.out | refine blk_far ?_ NB291_0.out _ | (with_reducible first | refine blk_drewN ?_ _ | refine blk_drew ?_ | refine blk_alloc ?_ _))⟩
       have n5_ : Aside0 (w120.heap[gb326]? = some (.cells #[.bool true, .int .i64 a1_7, .int .i64 a1_8] 41 (0, 0))) := ⟨by rw [hW_]; repeat (first | exact BK326.out | refine blk_far ?_ NB326_0.out _ | (with_reducible first | refine blk_drewN ?_ _ | refine blk_drew ?_ | refine blk_alloc ?_ _))⟩
       have n6_ : Aside0 (IsS65 w0 w120 g x1000_1 x1001_1 x1002_1 t332) := ⟨by rw [hW_]; repeat (first | (with_reducible first | exact HI0.out | apply IsS65.alloc | apply IsS65.drewN | apply IsS65.drew | apply IsS65.set_0 | apply IsS65.set_1 | apply IsS65.set_2 | apply IsS65.set_3 | apply IsS65.farb NB0_287.out | apply IsS65.farb NB0_288.out | apply IsS65.farb NB0_289.out | apply IsS65.farb NB0_290.out | apply IsS65.farb NB0_291.out | apply IsS65.farb NB0_326.out) | exact HI0.out)⟩
       have n7_ : Aside0 (KeepBut w w120 g none) := ⟨by rw [hW_]; repeat (first | (with_reducible first | exact HK.out | apply KeepBut.set_ | apply keep_drewN | apply keep_drew | apply keep_alloc | refine keep_far ?_ GW287.out _ | refine keep_far ?_ GW288.out _ | refine keep_far ?_ GW289.out _ | refine keep_far ?_ GW290.out _ | refine keep_far ?_ GW291.out _ | refine keep_far ?_ GW326.out _) | exact HK.out)⟩
       have n8_ : Aside0 (Below w0.heap.size w0 w120) := ⟨by rw [hW_]; repeat (first | (with_reducible first | exact HB.out | apply below_alloc | apply pw_below_drewN | apply below_drew1 | refine below_set ?_ (IsS65.ge HI0.out) | refine below_set ?_ GE287.out | refine below_set ?_ GE288.out | refine below_set ?_ GE289.out | refine below_set ?_ GE290.out | refine below_set ?_ GE291.out | refine below_set ?_ GE326.out) | exact HB.out)⟩
       (try clear BK287)
       (try clear BK288)
       (try clear BK289)
       (try clear BK290)
       (try clear BK291)
       (try clear BK326)
       (try clear HI0)
       (try clear HK)
       (try clear HB)
       rw [← hW_]
       clear hW_
       have BK287 := n0_
       have BK288 := n1_
       have BK289 := n2_
       have BK290 := n3_
       have BK291 := n4_
       have BK326 := n5_
       have HI0 := n6_
       have HK := n7_
       have HB := n8_
       clear n0_ n1_ n2_ n3_ n4_ n5_ n6_ n7_ n8_
       have n0_ := Aside0.mk (blk_drew BK287.out)
       have n1_ := Aside0.mk (blk_drew BK288.out)
       have n2_ := Aside0.mk (blk_drew BK289.out)
       have n3_ := Aside0.mk (blk_drew BK290.out)
       have n4_ := Aside0.mk (blk_drew BK291.out)
       have n5_ := Aside0.mk (blk_drew BK326.out)
       have n6_ := Aside0.mk (IsS65.drew HI0.out)
       have n7_ := Aside0.mk (keep_drew HK.out)
       have n8_ := Aside0.mk (below_drew1 HB.out)
       clear BK287
       clear BK288
       clear BK289
       clear BK290
       clear BK291
       clear BK326
       clear HI0
       clear HK
       clear HB
       have BK287 := n0_
       have BK288 := n1_
       have BK289 := n2_
       have BK290 := n3_
       have BK291 := n4_
       have BK326 := n5_
       have HI0 := n6_
       have HK := n7_
       have HB := n8_
       clear n0_ n1_ n2_ n3_ n4_ n5_ n6_ n7_ n8_
       refine start_ (n := 14) (S := fun w' => w'.cell? ⟨g, 0, none⟩ = some (.int .i64 x1000_1) ∧ w'.cell? ⟨g, 1, none⟩ = some (.int .i64 x1001_1) ∧ w'.cell? ⟨g, 2, none⟩ = some (.int .i64 x1002_1) ∧ w'.cell? ⟨g, 3, none⟩ = some (.int .i64 t332) ∧ w'.cell? ⟨gb289, 0, none⟩ = some (.int .i64 a3_0) ∧ w'.cell? ⟨gb289, 1, none⟩ = some (.int .i64 a3_1) ∧ w'.cell? ⟨gb289, 2, none⟩ = some (.int .i64 a3_2)) (ds := []) (lb_ 14 0) (by kernel_rfl) rfl rfl ⟨(cellS65_0 HI0.out.1), (cellS65_1 HI0.out.1), (cellS65_2 HI0.out.1), (cellS65_3 HI0.out.1), (blk_cell BK289.out 0).trans rfl, (blk_cell BK289.out 1).trans rfl, (blk_cell BK289.out 2).trans rfl⟩ (fun hHeld => ?_); refine with_tabW control_Steer_Step.tab11 control_Steer_Step.bits11 (fun HT_ HW_ => ?_)
       generalize w120.drew = w121 at BK287 BK288 BK289 BK290 BK291 BK326 HI0 HK HB hHeld ⊢
       refine pure_ (i := 0) (N := some 46) (v := ?_) (a' := ?_) (lb_ 14 1) rfl rfl (any_of HT_.out (by kernel_rfl)) (fun _ _ _ h => h) (Or.inl ⟨by rfl, ?_⟩) ?_ ?_; rotate_left; (intro w'; go_simp; with_reducible rfl); rotate_left; (simp only [Act.put, List.setIfInBounds_toArray, List.set_cons_zero, List.set_cons_succ, i64_w, i32_w]; rfl)
       refine pure_ (i := 1) (N := some 47) (v := ?_) (a' := ?_) (lb_ 14 3) rfl rfl (any_of HT_.out (by kernel_rfl)) (fun _ _ _ h => h) (Or.inl ⟨by rfl, ?_⟩) ?_ ?_; rotate_left; (intro w'; go_simp; with_reducible rfl); rotate_left; (simp only [Act.put, List.setIfInBounds_toArray, List.set_cons_zero, List.set_cons_succ, i64_w, i32_w]; rfl)
       refine pure_ (i := 2) (N := some 48) (v := ?_) (a' := ?_) (lb_ 14 7) rfl rfl (any_of HT_.out (by kernel_rfl)) (fun _ _ _ h => h) (Or.inl ⟨by rfl, ?_⟩) ?_ ?_; rotate_left; (intro w'; go_simp; with_reducible rfl); rotate_left; (simp only [Act.put, List.setIfInBounds_toArray, List.set_cons_zero, List.set_cons_succ, i64_w, i32_w]; rfl)
       refine pure_ (i := 3) (N := some 49) (v := ?_) (a' := ?_) (lb_ 14 15) rfl rfl (any_of HT_.out (by kernel_rfl)) (fun _ _ _ h => h) (Or.inl ⟨by rfl, ?_⟩) ?_ ?_; rotate_left; (intro w'; go_simp; with_reducible rfl); rotate_left; (simp only [Act.put, List.setIfInBounds_toArray, List.set_cons_zero, List.set_cons_succ, i64_w, i32_w]; rfl)
       refine pure_ (i := 4) (N := some 50) (v := ?_) (a' := ?_) (lb_ 14 31) rfl rfl (any_of HT_.out (by kernel_rfl)) (fun _ _ _ h => h) (Or.inl ⟨by rfl, ?_⟩) ?_ ?_; rotate_left; (intro w'; go_simp; with_reducible rfl); rotate_left; (simp only [Act.put, List.setIfInBounds_toArray, List.set_cons_zero, List.set_cons_succ, i64_w, i32_w]; rfl)
       refine pure_ (i := 5) (N := some 51) (v := ?_) (a' := ?_) (lb_ 14 63) rfl rfl (any_of HT_.out (by kernel_rfl)) (fun _ _ _ h => h) (Or.inl ⟨by rfl, ?_⟩) ?_ ?_; rotate_left; (intro w'; go_simp; with_reducible rfl); rotate_left; (simp only [Act.put, List.setIfInBounds_toArray, List.set_cons_zero, List.set_cons_succ, i64_w, i32_w]; rfl)
       refine pure_ (i := 7) (N := some 53) (v := ?_) (a' := ?_) (lb_ 14 191) rfl rfl (any_of HT_.out (by kernel_rfl)) (fun _ _ _ h => h) (Or.inl ⟨by rfl, ?_⟩) ?_ ?_; rotate_left; (intro w'; go_simp; with_reducible rfl); rotate_left; (simp only [Act.put, List.setIfInBounds_toArray, List.set_cons_zero, List.set_cons_succ, i64_w, i32_w]; rfl)
       refine pure_ (i := 8) (N := some 54) (v := ?_) (a' := ?_) (lb_ 14 447) rfl rfl (any_of HT_.out (by kernel_rfl)) (fun _ _ _ h => h) (Or.inl ⟨by rfl, ?_⟩) ?_ ?_; rotate_left; (intro w'; go_simp; with_reducible rfl); rotate_left; (simp only [Act.put, List.setIfInBounds_toArray, List.set_cons_zero, List.set_cons_succ, i64_w, i32_w]; rfl)
       refine take_ (i := 6) (N := some 52) (v := ?_) (a' := ?_) (lb_ 14 511) rfl rfl (take_ofW HT_.out HW_.out (by kernel_rfl)) (fun _ _ _ h => h) (Or.inl ⟨by rfl, ?_⟩) hHeld ?_ ?_; rotate_left; (rintro w' ⟨s0, s1, s2, s3, s4, s5, s6⟩; go_simp; with_reducible rfl); rotate_left; (simp only [Act.put, List.setIfInBounds_toArray, List.set_cons_zero, List.set_cons_succ, i64_w, i32_w]; rfl)
       refine take_ (i := 9) (N := some 55) (v := ?_) (a' := ?_) (lb_ 14 1023) rfl rfl (take_ofW HT_.out HW_.out (by kernel_rfl)) (fun _ _ _ h => h) (Or.inl ⟨by rfl, ?_⟩) hHeld ?_ ?_; rotate_left; (rintro w' ⟨s0, s1, s2, s3, s4, s5, s6⟩; go_simp; with_reducible rfl); rotate_left; (simp only [Act.put, List.setIfInBounds_toArray, List.set_cons_zero, List.set_cons_succ, i64_w, i32_w]; rfl)
       refine one_ (i := 10) (N := some 56) (lb_ 14 2047) rfl rfl (one_of HT_.out (by kernel_rfl)) (by decide) (fun K hK => ?_)
       refine goes_ Try.func27 (by kernel_rfl) rfl #[.int .i64 t332, .int .i64 a3_2] (by rfl) rfl rfl (by (try simp only [List.map_toArray, List.map_cons, List.map_nil]); first | done | rfl | (simp only [List.length_drop, List.length_take]; rfl)) ?_
       with_reducible refine (fix_Sub.calls k1 t332 a3_2 t333 _ A105.out).mono ?_
       rintro e w' ⟨rfl, ⟨nd, rfl⟩⟩
       refine ⟨_, rfl, ?_⟩
       refine hK.out _ _ ⟨(cellS65_0 HI0.out.1), (cellS65_1 HI0.out.1), (cellS65_2 HI0.out.1), (cellS65_3 HI0.out.1), (blk_cell BK289.out 0).trans rfl, (blk_cell BK289.out 1).trans rfl, (blk_cell BK289.out 2).trans rfl⟩ (fun hHeld => ?_)
       clear hK K
       refine norm_ (a' := ?_) ?_ ?_
       rotate_left
       ·show Act.put _ (some 56) _ = _
        simp only [Act.put, List.setIfInBounds_toArray, List.set_cons_zero, List.set_cons_succ, i64_w, i32_w]
        rfl
       refine one_ (i := 11) (N := some 57) (lb_ 14 4095) rfl rfl (one_of HT_.out (by kernel_rfl)) (by decide) (fun K hK => ?_)
       refine goes_ Try.func33 (by kernel_rfl) rfl #[.int .i64 t333, .int .i64 (-64), .int .i64 64] (by rfl) rfl rfl (by (try simp only [List.map_toArray, List.map_cons, List.map_nil]); first | done | rfl | (simp only [List.length_drop, List.length_take]; rfl)) ?_
       with_reducible refine (fix_Clamp.calls t333 (-64) 64 t334 _ A106.out).mono ?_
       rintro e w' ⟨rfl, ⟨nd, rfl⟩⟩
       refine ⟨_, rfl, ?_⟩
       refine hK.out _ _ ⟨(cellS65_0 HI0.out.1), (cellS65_1 HI0.out.1), (cellS65_2 HI0.out.1), (cellS65_3 HI0.out.1), (blk_cell BK289.out 0).trans rfl, (blk_cell BK289.out 1).trans rfl, (blk_cell BK289.out 2).trans rfl⟩ (fun hHeld => ?_)
       clear hK K
       refine norm_ (a' := ?_) ?_ ?_
       rotate_left
       ·show Act.put _ (some 57) _ = _
        simp only [Act.put, List.setIfInBounds_toArray, List.set_cons_zero, List.set_cons_succ, i64_w, i32_w]
        rfl
       refine pure_ (i := 12) (N := some 58) (v := ?_) (a' := ?_) (lb_ 14 8191) rfl rfl (any_of HT_.out (by kernel_rfl)) (fun _ _ _ h => h) (Or.inl ⟨by rfl, ?_⟩) ?_ ?_; rotate_left; (intro w'; go_simp; with_reducible rfl); rotate_left; (simp only [Act.put, List.setIfInBounds_toArray, List.set_cons_zero, List.set_cons_succ, i64_w, i32_w]; rfl)
       refine one_ (i := 13) (N := none) (lb_ 14 16383) rfl rfl (one_of HT_.out (by kernel_rfl)) (by decide) (fun K hK => ?_)
       have hs122 : w121.cell? ⟨gb291, 2, none⟩ = some (.int .i64 x292002_1) := (blk_cell BK291.out 2).trans rfl
       have hfs122 := blk_frozen BK291.out 2
       have hns122_0 := NB287_291.out
       have hns122_1 := NB288_291.out
       have hns122_2 := NB289_291.out
       have hns122_3 := NB290_291.out
       have hns122_5 := NB326_291.out
       have hms122_0 := NB291_287.out
       have hms122_1 := NB291_288.out
       have hms122_2 := NB291_289.out
       have hms122_3 := NB291_290.out
       have hms122_5 := NB291_326.out
       refine skip_ (w1 := ?_) (by rfl) rfl ?_ ?_
       rotate_left
       ·go_simp
        rfl
       refine hK.out _ _ ⟨((cell_far (p := ⟨gb291, _, none⟩) NB0_291.out _).trans (hHeld.1)), ((cell_far (p := ⟨gb291, _, none⟩) NB0_291.out _).trans (hHeld.2.1)), ((cell_far (p := ⟨gb291, _, none⟩) NB0_291.out _).trans (hHeld.2.2.1)), ((cell_far (p := ⟨gb291, _, none⟩) NB0_291.out _).trans (hHeld.2.2.2.1)), ((cell_far (p := ⟨gb291, _, none⟩) NB289_291.out _).trans (hHeld.2.2.2.2.1)), ((cell_far (p := ⟨gb291, _, none⟩) NB289_291.out _).trans (hHeld.2.2.2.2.2.1)), ((cell_far (p := ⟨gb291, _, none⟩) NB289_291.out _).trans (hHeld.2.2.2.2.2.2))⟩ (fun hHeld => ?_)
       clear hK K
       refine done_ (done_of HT_.out (by kernel_rfl)) ?_
       try go_wp2
       go_roundg k1
       case measure => have := HK1.out; omega
       case rel => exact ⟨(3), (x1000_1), (x1001_1), (x1002_1), (t332), (x291000_1), (x291001_1), (x291002_1), (x292000_1), (x292001_1), (t334), (by first | rfl | (simp; done) | (simp [*]; done)), H', ⟨by have := HK1.out; omega⟩, ⟨by (with_reducible repeat (first | refine blk_drewN ?_ _ | refine blk_drew ?_ | refine blk_alloc ?_ _)); refine blk_far ?_ NB287_291.out _; (with_reducible repeat (first | refine blk_drewN ?_ _ | refine blk_drew ?_ | refine blk_alloc ?_ _)); exact BK287.out⟩, ⟨by (with_reducible repeat (first | refine blk_drewN ?_ _ | refine blk_drew ?_ | refine blk_alloc ?_ _)); refine blk_far ?_ NB288_291.out _; (with_reducible repeat (first | refine blk_drewN ?_ _ | refine blk_drew ?_ | refine blk_alloc ?_ _)); exact BK288.out⟩, ⟨by (with_reducible repeat (first | refine blk_drewN ?_ _ | refine blk_drew ?_ | refine blk_alloc ?_ _)); refine blk_far ?_ NB289_291.out _; (with_reducible repeat (first | refine blk_drewN ?_ _ | refine blk_drew ?_ | refine blk_alloc ?_ _)); exact BK289.out⟩, ⟨by (with_reducible repeat (first | refine blk_drewN ?_ _ | refine blk_drew ?_ | refine blk_alloc ?_ _)); refine blk_far ?_ NB290_291.out _; (with_reducible repeat (first | refine blk_drewN ?_ _ | refine blk_drew ?_ | refine blk_alloc ?_ _)); exact BK290.out⟩, ⟨by (with_reducible repeat (first | refine blk_drewN ?_ _ | refine blk_drew ?_ | refine blk_alloc ?_ _)); refine blk_put (cs := #[.int .i64 x292000_1, .int .i64 x292001_1, .int .i64 x292002_1]) ?_ 2 _ rfl; (with_reducible repeat (first | refine blk_drewN ?_ _ | refine blk_drew ?_ | refine blk_alloc ?_ _)); exact BK291.out⟩, ⟨by repeat (first | (with_reducible first | exact HI0.out | apply IsS65.alloc | apply IsS65.drewN | apply IsS65.drew | apply IsS65.set_0 | apply IsS65.set_1 | apply IsS65.set_2 | apply IsS65.set_3 | apply IsS65.farb NB0_287.out | apply IsS65.farb NB0_288.out | apply IsS65.farb NB0_289.out | apply IsS65.farb NB0_290.out | apply IsS65.farb NB0_291.out | apply IsS65.farb NB0_326.out) | exact HI0.out)⟩, ⟨by repeat (first | (with_reducible first | exact HK.out | apply KeepBut.set_ | apply keep_drewN | apply keep_drew | apply keep_alloc | refine keep_far ?_ GW287.out _ | refine keep_far ?_ GW288.out _ | refine keep_far ?_ GW289.out _ | refine keep_far ?_ GW290.out _ | refine keep_far ?_ GW291.out _ | refine keep_far ?_ GW326.out _) | exact HK.out)⟩, ⟨by repeat (first | (with_reducible first | exact HB.out | apply below_alloc | apply pw_below_drewN | apply below_drew1 | refine below_set ?_ (IsS65.ge HI0.out) | refine below_set ?_ GE287.out | refine below_set ?_ GE288.out | refine below_set ?_ GE289.out | refine below_set ?_ GE290.out | refine below_set ?_ GE291.out | refine below_set ?_ GE326.out) | exact HB.out)⟩⟩
      ·replace c102 := Bool.eq_false_iff.mpr c102
       subst c102
       have H1 : ((control_Steer_drift.f x1000_1 x1001_1 x1002_1 x1003_1 false a1_7 a1_8 a2_2).bind fun bt335 => ((fix_Slew.f k1 x1003_1 bt335.1 x1000_1).bind fun t340 => ((fix_Sub.f k1 t340 a3_2).bind fun t341 => ((fix_Clamp.f t341 (-64) 64).bind fun t342 => (control_Steer_Step.l0 k1 3 x1000_1 x1001_1 x1002_1 t340 a2_0 a2_1 a2_2 a3_0 a3_1 a3_2 x292000_1 x292001_1 t342 a1_0 a1_1 a1_2 a1_3 a1_4 a1_5 false a1_7 a1_8))))) = some (r1, r2, r3, r4, r5, r6, r7) := by rw [if_neg (show ¬ (false = true) by decide)] at H; exact H
       clear H
       have H := H1
       clear H1
       replace H := Option.bind_eq_some_iff.mp H
       obtain ⟨⟨t335, t336, t337, t338, t339⟩, A1230, H⟩ := H
       replace H : ((fix_Slew.f k1 x1003_1 t335 x1000_1).bind fun t340 => ((fix_Sub.f k1 t340 a3_2).bind fun t341 => ((fix_Clamp.f t341 (-64) 64).bind fun t342 => (control_Steer_Step.l0 k1 3 x1000_1 x1001_1 x1002_1 t340 a2_0 a2_1 a2_2 a3_0 a3_1 a3_2 x292000_1 x292001_1 t342 a1_0 a1_1 a1_2 a1_3 a1_4 a1_5 false a1_7 a1_8)))) = some (r1, r2, r3, r4, r5, r6, r7) := H
       have A123 := Aside0.mk A1230
       clear A1230
       obtain ⟨E0_, E1_, E2_, E3_⟩ := control_Steer_drift.same A123.out
       subst E0_
       subst E1_
       subst E2_
       subst E3_
       replace H := Option.bind_eq_some_iff.mp H
       obtain ⟨t340, A1240, H⟩ := H
       replace H : ((fix_Sub.f k1 t340 a3_2).bind fun t341 => ((fix_Clamp.f t341 (-64) 64).bind fun t342 => (control_Steer_Step.l0 k1 3 x1000_1 x1001_1 x1002_1 t340 a2_0 a2_1 a2_2 a3_0 a3_1 a3_2 x292000_1 x292001_1 t342 a1_0 a1_1 a1_2 a1_3 a1_4 a1_5 false a1_7 a1_8))) = some (r1, r2, r3, r4, r5, r6, r7) := H
       have A124 := Aside0.mk A1240
       clear A1240
       replace H := Option.bind_eq_some_iff.mp H
       obtain ⟨t341, A1250, H⟩ := H
       replace H : ((fix_Clamp.f t341 (-64) 64).bind fun t342 => (control_Steer_Step.l0 k1 3 x1000_1 x1001_1 x1002_1 t340 a2_0 a2_1 a2_2 a3_0 a3_1 a3_2 x292000_1 x292001_1 t342 a1_0 a1_1 a1_2 a1_3 a1_4 a1_5 false a1_7 a1_8)) = some (r1, r2, r3, r4, r5, r6, r7) := H
       have A125 := Aside0.mk A1250
       clear A1250
       replace H := Option.bind_eq_some_iff.mp H
       obtain ⟨t342, A1260, H⟩ := H
       replace H : (control_Steer_Step.l0 k1 3 x1000_1 x1001_1 x1002_1 t340 a2_0 a2_1 a2_2 a3_0 a3_1 a3_2 x292000_1 x292001_1 t342 a1_0 a1_1 a1_2 a1_3 a1_4 a1_5 false a1_7 a1_8) = some (r1, r2, r3, r4, r5, r6, r7) := H
       have A126 := Aside0.mk A1260
       clear A1260
       have H' := Aside0.mk H
       clear H
       try go_wp2_with (first | ((with_reducible refine gate_dst (N := 11) rfl ?_); refine box_event ?hg (N := 11) ?hd (cs := #[.bool false, .int .i64 0, .int .i64 0]) (t := 41) ?hr ?_; (case hd => rfl); (case hg => rfl); (case hr => first | (go_simp; done) | (go_simp; rfl)); intro gb326 hg w127 hbox hb; have n0_ := Aside0.mk (blk_below BK287.out hb); have n1_ := Aside0.mk (blk_below BK288.out hb); have n2_ := Aside0.mk (blk_below BK289.out hb); have n3_ := Aside0.mk (blk_below BK290.out hb); have n4_ := Aside0.mk (blk_below BK291.out hb); have n5_ := Aside0.mk (IsS65.below HI0.out hb); have n6_ := Aside0.mk (KeepBut.trans HK.out (KeepBut.of_below hb g none) (.inl rfl)); have n7_ := Aside0.mk (below_step HB.out hb); have n8_ := Aside0.mk (hbox); have n9_ := Aside0.mk ((by rw [hg]; exact (keep_size (w := w) (g := g) (row := none) HK.out) : w.heap.size ≤ gb326)); have n10_ := Aside0.mk ((Nat.le_trans HW0.out (by rw [hg]; exact (keep_size (w := w) (g := g) (row := none) HK.out) : w.heap.size ≤ gb326) : w0.heap.size ≤ gb326)); have n11_ := Aside0.mk ((by rw [hg]; exact Nat.ne_of_lt (blk_lt BK287.out) : gb287 ≠ gb326)); have n12_ := Aside0.mk ((by rw [hg]; exact Nat.ne_of_gt (blk_lt BK287.out) : gb326 ≠ gb287)); have n13_ := Aside0.mk ((by rw [hg]; exact Nat.ne_of_lt (blk_lt BK288.out) : gb288 ≠ gb326)); have n14_ := Aside0.mk ((by rw [hg]; exact Nat.ne_of_gt (blk_lt BK288.out) : gb326 ≠ gb288)); have n15_ := Aside0.mk ((by rw [hg]; exact Nat.ne_of_lt (blk_lt BK289.out) : gb289 ≠ gb326)); have n16_ := Aside0.mk ((by rw [hg]; exact Nat.ne_of_gt (blk_lt BK289.out) : gb326 ≠ gb289)); have n17_ := Aside0.mk ((by rw [hg]; exact Nat.ne_of_lt (blk_lt BK290.out) : gb290 ≠ gb326)); have n18_ := Aside0.mk ((by rw [hg]; exact Nat.ne_of_gt (blk_lt BK290.out) : gb326 ≠ gb290)); have n19_ := Aside0.mk ((by rw [hg]; exact Nat.ne_of_lt (blk_lt BK291.out) : gb291 ≠ gb326)); have n20_ := Aside0.mk ((by rw [hg]; exact Nat.ne_of_gt (blk_lt BK291.out) : gb326 ≠ gb291)); have n21_ := Aside0.mk ((by rw [hg]; exact Nat.ne_of_lt (IsS65.lt HI0.out) : g ≠ gb326)); have n22_ := Aside0.mk ((by rw [hg]; exact Nat.ne_of_gt (IsS65.lt HI0.out) : gb326 ≠ g)); clear BK287; clear BK288; clear BK289; clear BK290; clear BK291; clear HI0; clear HK; clear HB; have BK287 := n0_; have BK288 := n1_; have BK289 := n2_; have BK290 := n3_; have BK291 := n4_; have HI0 := n5_; have HK := n6_; have HB := n7_; have BK326 := n8_; have GW326 := n9_; have GE326 := n10_; have NB287_326 := n11_; have NB326_287 := n12_; have NB288_326 := n13_; have NB326_288 := n14_; have NB289_326 := n15_; have NB326_289 := n16_; have NB290_326 := n17_; have NB326_290 := n18_; have NB291_326 := n19_; have NB326_291 := n20_; have NB0_326 := n21_; have NB326_0 := n22_; clear n0_ n1_ n2_ n3_ n4_ n5_ n6_ n7_ n8_ n9_ n10_ n11_ n12_ n13_ n14_ n15_ n16_ n17_ n18_ n19_ n20_ n21_ n22_; clear hb hbox hg; have hnb128 := NB326_287.out; have hnc128 := NB287_326.out; have hnb129 := NB326_288.out; have hnc129 := NB288_326.out; have hnb130 := NB326_289.out; have hnc130 := NB289_326.out; have hnb131 := NB326_290.out; have hnc131 := NB290_326.out; have hnb132 := NB326_291.out; have hnc132 := NB291_326.out; have hnb133 := NB326_0.out; have hnc133 := NB0_326.out; have hcz134_0 := blk_cells3 (w := w127) (g := gb326) BK326.out; have hfz134_0 := blk_frozen BK326.out))
       (repeat (rw [drewN_self w127]; generalize hq_ : World.drewN w127 _ = w127; have n0_ := Aside0.mk (blk_at hq_ BK287.out); have n1_ := Aside0.mk (blk_at hq_ BK288.out); have n2_ := Aside0.mk (blk_at hq_ BK289.out); have n3_ := Aside0.mk (blk_at hq_ BK290.out); have n4_ := Aside0.mk (blk_at hq_ BK291.out); have n5_ := Aside0.mk (blk_at hq_ BK326.out); have n6_ := Aside0.mk (IsS65.at_ hq_ HI0.out); have n7_ := Aside0.mk (keep_at hq_ HK.out); have n8_ := Aside0.mk (below_at hq_ HB.out); clear hq_ BK287 BK288 BK289 BK290 BK291 BK326 HI0 HK HB; have BK287 := n0_; have BK288 := n1_; have BK289 := n2_; have BK290 := n3_; have BK291 := n4_; have BK326 := n5_; have HI0 := n6_; have HK := n7_; have HB := n8_; clear n0_ n1_ n2_ n3_ n4_ n5_ n6_ n7_ n8_))
       obtain ⟨w135, hW_⟩ : ∃ W_, W_ = (((w127.setCell ⟨gb326, 0, none⟩ (.bool false)).setCell ⟨gb326, 1, none⟩ (.int .i64 a1_7)).setCell ⟨gb326, 2, none⟩ (.int .i64 a1_8)) := ⟨_, rfl⟩
       have n0_ : Aside0 (w135.heap[gb287]? = some (.cells #[.bool a1_0, .int .i64 a1_1, .int .i64 a1_2, .bool a1_3, .int .i64 a1_4, .int .i64 a1_5, .bool false, .int .i64 a1_7, .int .i64 a1_8] 42 (0, 0))) := ⟨by rw [hW_]; repeat (first | exact BK287.out | refine blk_far ?_ NB287_326.out _ | (with_reducible first | refine blk_drewN ?_ _ | refine blk_drew ?_ | refine blk_alloc ?_ _))⟩
       have n1_ : Aside0 (w135.heap[gb288]? = some (.cells #[.int .i64 a2_0, .int .i64 a2_1, .int .i64 a2_2] 37 (0, 0))) := ⟨by rw [hW_]; repeat (first | exact BK288.out | refine blk_far ?_ NB288_326.out _ | (with_reducible first | refine blk_drewN ?_ _ | refine blk_drew ?_ | refine blk_alloc ?_ _))⟩
       have n2_ : Aside0 (w135.heap[gb289]? = some (.cells #[.int .i64 a3_0, .int .i64 a3_1, .int .i64 a3_2] 37 (0, 0))) := ⟨by rw [hW_]; repeat (first | exact BK289.out | refine blk_far ?_ NB289_326.out _ | (with_reducible first | refine blk_drewN ?_ _ | refine blk_drew ?_ | refine blk_alloc ?_ _))⟩
       have n3_ : Aside0 (w135.heap[gb290]? = some (.cells #[.int .i64 x291000_1, .int .i64 x291001_1, .int .i64 x291002_1] 37 (0, 0))) := ⟨by rw [hW_]; repeat (first | exact BK290.out | refine blk_far ?_ NB290_326.out _ | (with_reducible first | refine blk_drewN ?_ _ | refine blk_drew ?_ | refine blk_alloc ?_ _))⟩
       have n4_ : Aside0 (w135.heap[gb291]? = some (.cells #[.int .i64 x292000_1, .int .i64 x292001_1, .int .i64 x292002_1] 37 (0, 0))) := ⟨by rw [hW_]; repeat (first | exact BK291.out | refine blk_far ?_ NB291_326.out _ | (with_reducible first | refine blk_drewN ?_ _ | refine blk_drew ?_ | refine blk_alloc ?_ _))⟩
       have n5_ : Aside0 (w135.heap[gb326]? = some (.cells #[.bool false, .int .i64 a1_7, .int .i64 a1_8] 41 (0, 0))) := ⟨by rw [hW_]; (with_reducible repeat (first | refine blk_drewN ?_ _ | refine blk_drew ?_ | refine blk_alloc ?_ _)); refine blk_put (cs := #[.bool false, .int .i64 a1_7, .int .i64 0]) ?_ 2 _ rfl; (with_reducible repeat (first | refine blk_drewN ?_ _ | refine blk_drew ?_ | refine blk_alloc ?_ _)); refine blk_put (cs := #[.bool false, .int .i64 0, .int .i64 0]) ?_ 1 _ rfl; (with_reducible repeat (first | refine blk_drewN ?_ _ | refine blk_drew ?_ | refine blk_alloc ?_ _)); refine blk_put (cs := #[.bool false, .int .i64 0, .int .i64 0]) ?_ 0 _ rfl; (with_reducible repeat (first | refine blk_drewN ?_ _ | refine blk_drew ?_ | refine blk_alloc ?_ _)); exact BK326.out⟩
       have n6_ : Aside0 (IsS65 w0 w135 g x1000_1 x1001_1 x1002_1 x1003_1) := ⟨by rw [hW_]; repeat (first | (with_reducible first | exact HI0.out | apply IsS65.alloc | apply IsS65.drewN | apply IsS65.drew | apply IsS65.set_0 | apply IsS65.set_1 | apply IsS65.set_2 | apply IsS65.set_3 | apply IsS65.farb NB0_287.out | apply IsS65.farb NB0_288.out | apply IsS65.farb NB0_289.out | apply IsS65.farb NB0_290.out | apply IsS65.farb NB0_291.out | apply IsS65.farb NB0_326.out) | exact HI0.out)⟩
       have n7_ : Aside0 (KeepBut w w135 g none) := ⟨by rw [hW_]; repeat (first | (with_reducible first | exact HK.out | apply KeepBut.set_ | apply keep_drewN | apply keep_drew | apply keep_alloc | refine keep_far ?_ GW287.out _ | refine keep_far ?_ GW288.out _ | refine keep_far ?_ GW289.out _ | refine keep_far ?_ GW290.out _ | refine keep_far ?_ GW291.out _ | refine keep_far ?_ GW326.out _) | exact HK.out)⟩
       have n8_ : Aside0 (Below w0.heap.size w0 w135) := ⟨by rw [hW_]; repeat (first | (with_reducible first | exact HB.out | apply below_alloc | apply pw_below_drewN | apply below_drew1 | refine below_set ?_ (IsS65.ge HI0.out) | refine below_set ?_ GE287.out | refine below_set ?_ GE288.out | refine below_set ?_ GE289.out | refine below_set ?_ GE290.out | refine below_set ?_ GE291.out | refine below_set ?_ GE326.out) | exact HB.out)⟩
       (try clear BK287)
       (try clear BK288)
       (try clear BK289)
       (try clear BK290)
       (try clear BK291)
       (try clear BK326)
       (try clear HI0)
       (try clear HK)
       (try clear HB)
       rw [← hW_]
       clear hW_
       have BK287 := n0_
       have BK288 := n1_
       have BK289 := n2_
       have BK290 := n3_
       have BK291 := n4_
       have BK326 := n5_
       have HI0 := n6_
       have HK := n7_
       have HB := n8_
       clear n0_ n1_ n2_ n3_ n4_ n5_ n6_ n7_ n8_
       have n0_ := Aside0.mk (blk_drew BK287.out)
       have n1_ := Aside0.mk (blk_drew BK288.out)
       have n2_ := Aside0.mk (blk_drew BK289.out)
       have n3_ := Aside0.mk (blk_drew BK290.out)
       have n4_ := Aside0.mk (blk_drew BK291.out)
       have n5_ := Aside0.mk (blk_drew BK326.out)
       have n6_ := Aside0.mk (IsS65.drew HI0.out)
       have n7_ := Aside0.mk (keep_drew HK.out)
       have n8_ := Aside0.mk (below_drew1 HB.out)
       clear BK287
       clear BK288
       clear BK289
       clear BK290
       clear BK291
       clear BK326
       clear HI0
       clear HK
       clear HB
       have BK287 := n0_
       have BK288 := n1_
       have BK289 := n2_
       have BK290 := n3_
       have BK291 := n4_
       have BK326 := n5_
       have HI0 := n6_
       have HK := n7_
       have HB := n8_
       clear n0_ n1_ n2_ n3_ n4_ n5_ n6_ n7_ n8_
       refine start_ (n := 24) (S := fun w' => w'.cell? ⟨g, 0, none⟩ = some (.int .i64 x1000_1) ∧ w'.cell? ⟨g, 1, none⟩ = some (.int .i64 x1001_1) ∧ w'.cell? ⟨g, 2, none⟩ = some (.int .i64 x1002_1) ∧ w'.cell? ⟨g, 3, none⟩ = some (.int .i64 x1003_1) ∧ w'.cell? ⟨gb326, 0, none⟩ = some (.bool false) ∧ w'.cell? ⟨gb326, 1, none⟩ = some (.int .i64 a1_7) ∧ w'.cell? ⟨gb326, 2, none⟩ = some (.int .i64 a1_8) ∧ w'.cell? ⟨gb288, 0, none⟩ = some (.int .i64 a2_0) ∧ w'.cell? ⟨gb288, 1, none⟩ = some (.int .i64 a2_1) ∧ w'.cell? ⟨gb288, 2, none⟩ = some (.int .i64 a2_2)) (ds := [23]) (lb_ 24 0) (by kernel_rfl) rfl rfl ⟨(cellS65_0 HI0.out.1), (cellS65_1 HI0.out.1), (cellS65_2 HI0.out.1), (cellS65_3 HI0.out.1), (blk_cell BK326.out 0).trans rfl, (blk_cell BK326.out 1).trans rfl, (blk_cell BK326.out 2).trans rfl, (blk_cell BK288.out 0).trans rfl, (blk_cell BK288.out 1).trans rfl, (blk_cell BK288.out 2).trans rfl⟩ (fun hHeld => ?_); refine with_tabW control_Steer_Step.tab10 control_Steer_Step.bits10 (fun HT_ HW_ => ?_)
       generalize w135.drew = w136 at BK287 BK288 BK289 BK290 BK291 BK326 HI0 HK HB hHeld ⊢
       refine pure_ (i := 0) (N := some 23) (v := ?_) (a' := ?_) (lb_ 24 1) rfl rfl (any_of HT_.out (by kernel_rfl)) (fun _ _ _ h => h) (Or.inl ⟨by rfl, ?_⟩) ?_ ?_; rotate_left; (intro w'; go_simp; with_reducible rfl); rotate_left; (simp only [Act.put, List.setIfInBounds_toArray, List.set_cons_zero, List.set_cons_succ, i64_w, i32_w]; rfl)
       refine pure_ (i := 1) (N := some 24) (v := ?_) (a' := ?_) (lb_ 24 3) rfl rfl (any_of HT_.out (by kernel_rfl)) (fun _ _ _ h => h) (Or.inl ⟨by rfl, ?_⟩) ?_ ?_; rotate_left; (intro w'; go_simp; with_reducible rfl); rotate_left; (simp only [Act.put, List.setIfInBounds_toArray, List.set_cons_zero, List.set_cons_succ, i64_w, i32_w]; rfl)
       refine pure_ (i := 2) (N := some 25) (v := ?_) (a' := ?_) (lb_ 24 7) rfl rfl (any_of HT_.out (by kernel_rfl)) (fun _ _ _ h => h) (Or.inl ⟨by rfl, ?_⟩) ?_ ?_; rotate_left; (intro w'; go_simp; with_reducible rfl); rotate_left; (simp only [Act.put, List.setIfInBounds_toArray, List.set_cons_zero, List.set_cons_succ, i64_w, i32_w]; rfl)
       refine pure_ (i := 3) (N := some 26) (v := ?_) (a' := ?_) (lb_ 24 15) rfl rfl (any_of HT_.out (by kernel_rfl)) (fun _ _ _ h => h) (Or.inl ⟨by rfl, ?_⟩) ?_ ?_; rotate_left; (intro w'; go_simp; with_reducible rfl); rotate_left; (simp only [Act.put, List.setIfInBounds_toArray, List.set_cons_zero, List.set_cons_succ, i64_w, i32_w]; rfl)
       refine pure_ (i := 4) (N := some 27) (v := ?_) (a' := ?_) (lb_ 24 31) rfl rfl (any_of HT_.out (by kernel_rfl)) (fun _ _ _ h => h) (Or.inl ⟨by rfl, ?_⟩) ?_ ?_; rotate_left; (intro w'; go_simp; with_reducible rfl); rotate_left; (simp only [Act.put, List.setIfInBounds_toArray, List.set_cons_zero, List.set_cons_succ, i64_w, i32_w]; rfl)
       refine pure_ (i := 5) (N := some 28) (v := ?_) (a' := ?_) (lb_ 24 63) rfl rfl (any_of HT_.out (by kernel_rfl)) (fun _ _ _ h => h) (Or.inl ⟨by rfl, ?_⟩) ?_ ?_; rotate_left; (intro w'; go_simp; with_reducible rfl); rotate_left; (simp only [Act.put, List.setIfInBounds_toArray, List.set_cons_zero, List.set_cons_succ, i64_w, i32_w]; rfl)
       refine pure_ (i := 6) (N := some 29) (v := ?_) (a' := ?_) (lb_ 24 127) rfl rfl (any_of HT_.out (by kernel_rfl)) (fun _ _ _ h => h) (Or.inl ⟨by rfl, ?_⟩) ?_ ?_; rotate_left; (intro w'; go_simp; with_reducible rfl); rotate_left; (simp only [Act.put, List.setIfInBounds_toArray, List.set_cons_zero, List.set_cons_succ, i64_w, i32_w]; rfl)
       refine pure_ (i := 8) (N := some 31) (v := ?_) (a' := ?_) (lb_ 24 383) rfl rfl (any_of HT_.out (by kernel_rfl)) (fun _ _ _ h => h) (Or.inl ⟨by rfl, ?_⟩) ?_ ?_; rotate_left; (intro w'; go_simp; with_reducible rfl); rotate_left; (simp only [Act.put, List.setIfInBounds_toArray, List.set_cons_zero, List.set_cons_succ, i64_w, i32_w]; rfl)
       refine pure_ (i := 9) (N := some 32) (v := ?_) (a' := ?_) (lb_ 24 895) rfl rfl (any_of HT_.out (by kernel_rfl)) (fun _ _ _ h => h) (Or.inl ⟨by rfl, ?_⟩) ?_ ?_; rotate_left; (intro w'; go_simp; with_reducible rfl); rotate_left; (simp only [Act.put, List.setIfInBounds_toArray, List.set_cons_zero, List.set_cons_succ, i64_w, i32_w]; rfl)
       refine pure_ (i := 11) (N := some 34) (v := ?_) (a' := ?_) (lb_ 24 2943) rfl rfl (any_of HT_.out (by kernel_rfl)) (fun _ _ _ h => h) (Or.inl ⟨by rfl, ?_⟩) ?_ ?_; rotate_left; (intro w'; go_simp; with_reducible rfl); rotate_left; (simp only [Act.put, List.setIfInBounds_toArray, List.set_cons_zero, List.set_cons_succ, i64_w, i32_w]; rfl)
       refine pure_ (i := 12) (N := some 35) (v := ?_) (a' := ?_) (lb_ 24 7039) rfl rfl (any_of HT_.out (by kernel_rfl)) (fun _ _ _ h => h) (Or.inl ⟨by rfl, ?_⟩) ?_ ?_; rotate_left; (intro w'; go_simp; with_reducible rfl); rotate_left; (simp only [Act.put, List.setIfInBounds_toArray, List.set_cons_zero, List.set_cons_succ, i64_w, i32_w]; rfl)
       refine pure_ (i := 15) (N := some 38) (v := ?_) (a' := ?_) (lb_ 24 39807) rfl rfl (any_of HT_.out (by kernel_rfl)) (fun _ _ _ h => h) (Or.inl ⟨by rfl, ?_⟩) ?_ ?_; rotate_left; (intro w'; go_simp; with_reducible rfl); rotate_left; (simp only [Act.put, List.setIfInBounds_toArray, List.set_cons_zero, List.set_cons_succ, i64_w, i32_w]; rfl)
       refine pure_ (i := 16) (N := some 39) (v := ?_) (a' := ?_) (lb_ 24 105343) rfl rfl (any_of HT_.out (by kernel_rfl)) (fun _ _ _ h => h) (Or.inl ⟨by rfl, ?_⟩) ?_ ?_; rotate_left; (intro w'; go_simp; with_reducible rfl); rotate_left; (simp only [Act.put, List.setIfInBounds_toArray, List.set_cons_zero, List.set_cons_succ, i64_w, i32_w]; rfl)
       refine pure_ (i := 17) (N := some 40) (v := ?_) (a' := ?_) (lb_ 24 236415) rfl rfl (any_of HT_.out (by kernel_rfl)) (fun _ _ _ h => h) (Or.inl ⟨by rfl, ?_⟩) ?_ ?_; rotate_left; (intro w'; go_simp; with_reducible rfl); rotate_left; (simp only [Act.put, List.setIfInBounds_toArray, List.set_cons_zero, List.set_cons_succ, i64_w, i32_w]; rfl)
       refine pure_ (i := 20) (N := some 43) (v := ?_) (a' := ?_) (lb_ 24 1284991) rfl rfl (any_of HT_.out (by kernel_rfl)) (fun _ _ _ h => h) (Or.inl ⟨by rfl, ?_⟩) ?_ ?_; rotate_left; (intro w'; go_simp; with_reducible rfl); rotate_left; (simp only [Act.put, List.setIfInBounds_toArray, List.set_cons_zero, List.set_cons_succ, i64_w, i32_w]; rfl)
       refine pure_ (i := 21) (N := some 44) (v := ?_) (a' := ?_) (lb_ 24 3382143) rfl rfl (any_of HT_.out (by kernel_rfl)) (fun _ _ _ h => h) (Or.inl ⟨by rfl, ?_⟩) ?_ ?_; rotate_left; (intro w'; go_simp; with_reducible rfl); rotate_left; (simp only [Act.put, List.setIfInBounds_toArray, List.set_cons_zero, List.set_cons_succ, i64_w, i32_w]; rfl)
       refine take_ (i := 7) (N := some 30) (v := ?_) (a' := ?_) (lb_ 24 3382271) rfl rfl (take_ofW HT_.out HW_.out (by kernel_rfl)) (fun _ _ _ h => h) (Or.inl ⟨by rfl, ?_⟩) hHeld ?_ ?_; rotate_left; (rintro w' ⟨s0, s1, s2, s3, s4, s5, s6, s7, s8, s9⟩; go_simp; with_reducible rfl); rotate_left; (simp only [Act.put, List.setIfInBounds_toArray, List.set_cons_zero, List.set_cons_succ, i64_w, i32_w]; rfl)
       refine take_ (i := 10) (N := some 33) (v := ?_) (a' := ?_) (lb_ 24 3383295) rfl rfl (take_ofW HT_.out HW_.out (by kernel_rfl)) (fun _ _ _ h => h) (Or.inl ⟨by rfl, ?_⟩) hHeld ?_ ?_; rotate_left; (rintro w' ⟨s0, s1, s2, s3, s4, s5, s6, s7, s8, s9⟩; go_simp; with_reducible rfl); rotate_left; (simp only [Act.put, List.setIfInBounds_toArray, List.set_cons_zero, List.set_cons_succ, i64_w, i32_w]; rfl)
       refine take_ (i := 13) (N := some 36) (v := ?_) (a' := ?_) (lb_ 24 3391487) rfl rfl (take_ofW HT_.out HW_.out (by kernel_rfl)) (fun _ _ _ h => h) (Or.inl ⟨by rfl, ?_⟩) hHeld ?_ ?_; rotate_left; (rintro w' ⟨s0, s1, s2, s3, s4, s5, s6, s7, s8, s9⟩; go_simp; with_reducible rfl); rotate_left; (simp only [Act.put, List.setIfInBounds_toArray, List.set_cons_zero, List.set_cons_succ, i64_w, i32_w]; rfl)
       refine take_ (i := 18) (N := some 41) (v := ?_) (a' := ?_) (lb_ 24 3653631) rfl rfl (take_ofW HT_.out HW_.out (by kernel_rfl)) (fun _ _ _ h => h) (Or.inl ⟨by rfl, ?_⟩) hHeld ?_ ?_; rotate_left; (rintro w' ⟨s0, s1, s2, s3, s4, s5, s6, s7, s8, s9⟩; go_simp; with_reducible rfl); rotate_left; (simp only [Act.put, List.setIfInBounds_toArray, List.set_cons_zero, List.set_cons_succ, i64_w, i32_w]; rfl)
       refine one_ (i := 14) (N := some 37) (lb_ 24 3670015) rfl rfl (one_of HT_.out (by kernel_rfl)) (by decide) (fun K hK => ?_)
       refine goesv_ Try.func39 (by kernel_rfl) rfl #[.pointer (some ⟨g, 0, none⟩), .agg #[.bool false, .int .i64 a1_7, .int .i64 a1_8], .int .i64 a2_2] (by rfl) rfl rfl rfl (by (try simp only [List.map_toArray, List.map_cons, List.map_nil]); first | done | rfl | (simp only [List.length_drop, List.length_take]; rfl)) ?_
       with_reducible refine (control_Steer_drift.calls g x1000_1 x1001_1 x1002_1 x1003_1 false a1_7 a1_8 a2_2 t335 x1000_1 x1001_1 x1002_1 x1003_1 w0 _ ?side1 ?side2 A123.out).mono ?_
       (case side1 => repeat (first | (with_reducible first | exact HI0.out | apply IsS65.alloc | apply IsS65.drewN | apply IsS65.drew | apply IsS65.set_0 | apply IsS65.set_1 | apply IsS65.set_2 | apply IsS65.set_3 | apply IsS65.farb NB0_287.out | apply IsS65.farb NB0_288.out | apply IsS65.farb NB0_289.out | apply IsS65.farb NB0_290.out | apply IsS65.farb NB0_291.out | apply IsS65.farb NB0_326.out) | exact HI0.out))
       (case side2 => repeat (first | (with_reducible first | exact HB.out | apply below_alloc | apply pw_below_drewN | apply below_drew1 | refine below_set ?_ (IsS65.ge HI0.out) | refine below_set ?_ GE287.out | refine below_set ?_ GE288.out | refine below_set ?_ GE289.out | refine below_set ?_ GE290.out | refine below_set ?_ GE291.out | refine below_set ?_ GE326.out) | exact HB.out))
       rintro e w137 ⟨rfl, hi, hb, hk⟩
       refine ⟨_, rfl, ?_⟩
       have n0_ := Aside0.mk (KeepBut.blk hk BK287.out NB287_0.out (by simp))
       have n1_ := Aside0.mk (KeepBut.blk hk BK288.out NB288_0.out (by simp))
       have n2_ := Aside0.mk (KeepBut.blk hk BK289.out NB289_0.out (by simp))
       have n3_ := Aside0.mk (KeepBut.blk hk BK290.out NB290_0.out (by simp))
       have n4_ := Aside0.mk (KeepBut.blk hk BK291.out NB291_0.out (by simp))
       have n5_ := Aside0.mk (KeepBut.blk hk BK326.out NB326_0.out (by simp))
       have n6_ := Aside0.mk (KeepBut.trans HK.out hk (.inl rfl))
       have n7_ := Aside0.mk (hb)
       have n8_ := Aside0.mk (hi)
       clear BK287
       clear BK288
       clear BK289
       clear BK290
       clear BK291
       clear BK326
       clear HK
       clear HB
       clear HI0
       have BK287 := n0_
       have BK288 := n1_
       have BK289 := n2_
       have BK290 := n3_
       have BK291 := n4_
       have BK326 := n5_
       have HK := n6_
       have HB := n7_
       have HI0 := n8_
       clear n0_ n1_ n2_ n3_ n4_ n5_ n6_ n7_ n8_
       (try clear hb)
       (try clear hb2)
       (try clear hk)
       (try clear hi)
       refine hK.out _ _ ⟨(cellS65_0 HI0.out.1), (cellS65_1 HI0.out.1), (cellS65_2 HI0.out.1), (cellS65_3 HI0.out.1), (blk_cell BK326.out 0).trans rfl, (blk_cell BK326.out 1).trans rfl, (blk_cell BK326.out 2).trans rfl, (blk_cell BK288.out 0).trans rfl, (blk_cell BK288.out 1).trans rfl, (blk_cell BK288.out 2).trans rfl⟩ (fun hHeld => ?_)
       clear hK K
       refine norm_ (a' := ?_) ?_ ?_
       rotate_left
       ·show Act.put _ (some 37) _ = _
        simp only [Act.put, List.setIfInBounds_toArray, List.set_cons_zero, List.set_cons_succ, i64_w, i32_w]
        rfl
       refine one_ (i := 19) (N := some 42) (lb_ 24 4194303) rfl rfl (one_of HT_.out (by kernel_rfl)) (by decide) (fun K hK => ?_)
       refine goes_ Try.func41 (by kernel_rfl) rfl #[.int .i64 x1003_1, .int .i64 t335, .int .i64 x1000_1] (by rfl) rfl rfl (by (try simp only [List.map_toArray, List.map_cons, List.map_nil]); first | done | rfl | (simp only [List.length_drop, List.length_take]; rfl)) ?_
       with_reducible refine (fix_Slew.calls k1 x1003_1 t335 x1000_1 t340 _ A124.out).mono ?_
       rintro e w138 ⟨rfl, hb⟩
       refine ⟨_, rfl, ?_⟩
       have n0_ := Aside0.mk (blk_below BK287.out hb)
       have n1_ := Aside0.mk (blk_below BK288.out hb)
       have n2_ := Aside0.mk (blk_below BK289.out hb)
       have n3_ := Aside0.mk (blk_below BK290.out hb)
       have n4_ := Aside0.mk (blk_below BK291.out hb)
       have n5_ := Aside0.mk (IsS65.below HI0.out hb)
       have n6_ := Aside0.mk (blk_below BK326.out hb)
       have n7_ := Aside0.mk (KeepBut.trans HK.out (KeepBut.of_below hb g none) (.inl rfl))
       have n8_ := Aside0.mk (below_step HB.out hb)
       clear BK287
       clear BK288
       clear BK289
       clear BK290
       clear BK291
       clear HI0
       clear BK326
       clear HK
       clear HB
       have BK287 := n0_
       have BK288 := n1_
       have BK289 := n2_
       have BK290 := n3_
       have BK291 := n4_
       have HI0 := n5_
       have BK326 := n6_
       have HK := n7_
       have HB := n8_
       clear n0_ n1_ n2_ n3_ n4_ n5_ n6_ n7_ n8_
       (try clear hb)
       (try clear hb2)
       (try clear hk)
       (try clear hi)
       refine hK.out _ _ ⟨(cellS65_0 HI0.out.1), (cellS65_1 HI0.out.1), (cellS65_2 HI0.out.1), (cellS65_3 HI0.out.1), (blk_cell BK326.out 0).trans rfl, (blk_cell BK326.out 1).trans rfl, (blk_cell BK326.out 2).trans rfl, (blk_cell BK288.out 0).trans rfl, (blk_cell BK288.out 1).trans rfl, (blk_cell BK288.out 2).trans rfl⟩ (fun hHeld => ?_)
       clear hK K
       refine norm_ (a' := ?_) ?_ ?_
       rotate_left
       ·show Act.put _ (some 42) _ = _
        simp only [Act.put, List.setIfInBounds_toArray, List.set_cons_zero, List.set_cons_succ, i64_w, i32_w]
        rfl
       refine pure_ (i := 22) (N := some 45) (v := ?_) (a' := ?_) (lb_ 24 8388607) rfl rfl (any_of HT_.out (by kernel_rfl)) (fun _ _ _ h => h) (Or.inl ⟨by rfl, ?_⟩) ?_ ?_; rotate_left; (intro w'; go_simp; with_reducible rfl); rotate_left; (simp only [Act.put, List.setIfInBounds_toArray, List.set_cons_zero, List.set_cons_succ, i64_w, i32_w]; rfl)
       refine last_ (i := 23) (N := none) (lb_ 24 16777215) rfl rfl (one_of HT_.out (by kernel_rfl)) (by decide) (fun K hK => ?_)
       have hs139 := cellS65_3 HI0.out.1
       have hfs139 := blk_frozen HI0.out.1 3
       have hns139_0 := NB287_0.out
       have hns139_1 := NB288_0.out
       have hns139_2 := NB289_0.out
       have hns139_3 := NB290_0.out
       have hns139_4 := NB291_0.out
       have hns139_5 := NB326_0.out
       have hms139_0 := NB0_287.out
       have hms139_1 := NB0_288.out
       have hms139_2 := NB0_289.out
       have hms139_3 := NB0_290.out
       have hms139_4 := NB0_291.out
       have hms139_5 := NB0_326.out
       refine skip_ (w1 := ?_) (by rfl) rfl ?_ ?_
       rotate_left
       ·go_simp
        rfl
       refine hK.out _ _ ?_
       clear hK K
       refine done_ (done_of HT_.out (by kernel_rfl)) ?_
       try go_wp2
       (repeat (rw [drewN_self w138]; generalize hq_ : World.drewN w138 _ = w138; have n0_ := Aside0.mk (blk_at hq_ BK287.out); have n1_ := Aside0.mk (blk_at hq_ BK288.out); have n2_ := Aside0.mk (blk_at hq_ BK289.out); have n3_ := Aside0.mk (blk_at hq_ BK290.out); have n4_ := Aside0.mk (blk_at hq_ BK291.out); have n5_ := Aside0.mk (blk_at hq_ BK326.out); have n6_ := Aside0.mk (IsS65.at_ hq_ HI0.out); have n7_ := Aside0.mk (keep_at hq_ HK.out); have n8_ := Aside0.mk (below_at hq_ HB.out); clear hq_ BK287 BK288 BK289 BK290 BK291 BK326 HI0 HK HB; have BK287 := n0_; have BK288 := n1_; have BK289 := n2_; have BK290 := n3_; have BK291 := n4_; have BK326 := n5_; have HI0 := n6_; have HK := n7_; have HB := n8_; clear n0_ n1_ n2_ n3_ n4_ n5_ n6_ n7_ n8_))
       obtain ⟨w140, hW_⟩ : ∃ W_, W_ = (w138.setCell ⟨g, 3, none⟩ (.int .i64 t340)) := ⟨_, rfl⟩
       have n0_ : Aside0 (w140.heap[gb287]? = some (.cells #[.bool a1_0, .int .i64 a1_1, .int .i64 a1_2, .bool a1_3, .int .i64 a1_4, .int .i64 a1_5, .bool false, .int .i64 a1_7, .int .i64 a1_8] 42 (0, 0))) := ⟨by rw [hW_]; repeat (first | exact BK287.out | refine blk_far ?_ NB287_0.out _ | (with_reducible first | refine blk_drewN ?_ _ | refine blk_drew ?_ | refine blk_alloc ?_ _))⟩
       have n1_ : Aside0 (w140.heap[gb288]? = some (.cells #[.int .i64 a2_0, .int .i64 a2_1, .int .i64 a2_2] 37 (0, 0))) := ⟨by rw [hW_]; repeat (first | exact BK288.out | refine blk_far ?_ NB288_0.out _ | (with_reducible first | refine blk_drewN ?_ _ | refine blk_drew ?_ | refine blk_alloc ?_ _))⟩
       have n2_ : Aside0 (w140.heap[gb289]? = some (.cells #[.int .i64 a3_0, .int .i64 a3_1, .int .i64 a3_2] 37 (0, 0))) := ⟨by rw [hW_]; repeat (first | exact BK289.out | refine blk_far ?_ NB289_0.out _ | (with_reducible first | refine blk_drewN ?_ _ | refine blk_drew ?_ | refine blk_alloc ?_ _))⟩
       have n3_ : Aside0 (w140.heap[gb290]? = some (.cells #[.int .i64 x291000_1, .int .i64 x291001_1, .int .i64 x291002_1] 37 (0, 0))) := ⟨by rw [hW_]; repeat (first | exact BK290.out | refine blk_far ?_ NB290_0.out _ | (with_reducible first | refine blk_drewN ?_ _ | refine blk_drew ?_ | refine blk_alloc ?_ _))⟩
       have n4_ : Aside0 (w140.heap[gb291]? = some (.cells #[.int .i64 x292000_1, .int .i64 x292001_1, .int .i64 x292002_1] 37 (0, 0))) := ⟨by rw [hW_]; repeat (first | exact BK291.out | refine blk_far ?_ NB291_0.out _ | (with_reducible first | refine blk_drewN ?_ _ | refine blk_drew ?_ | refine blk_alloc ?_ _))⟩
       have n5_ : Aside0 (w140.heap[gb326]? = some (.cells #[.bool false, .int .i64 a1_7, .int .i64 a1_8] 41 (0, 0))) := ⟨by rw [hW_]; repeat (first | exact BK326.out | refine blk_far ?_ NB326_0.out _ | (with_reducible first | refine blk_drewN ?_ _ | refine blk_drew ?_ | refine blk_alloc ?_ _))⟩
       have n6_ : Aside0 (IsS65 w0 w140 g x1000_1 x1001_1 x1002_1 t340) := ⟨by rw [hW_]; repeat (first | (with_reducible first | exact HI0.out | apply IsS65.alloc | apply IsS65.drewN | apply IsS65.drew | apply IsS65.set_0 | apply IsS65.set_1 | apply IsS65.set_2 | apply IsS65.set_3 | apply IsS65.farb NB0_287.out | apply IsS65.farb NB0_288.out | apply IsS65.farb NB0_289.out | apply IsS65.farb NB0_290.out | apply IsS65.farb NB0_291.out | apply IsS65.farb NB0_326.out) | exact HI0.out)⟩
       have n7_ : Aside0 (KeepBut w w140 g none) := ⟨by rw [hW_]; repeat (first | (with_reducible first | exact HK.out | apply KeepBut.set_ | apply keep_drewN | apply keep_drew | apply keep_alloc | refine keep_far ?_ GW287.out _ | refine keep_far ?_ GW288.out _ | refine keep_far ?_ GW289.out _ | refine keep_far ?_ GW290.out _ | refine keep_far ?_ GW291.out _ | refine keep_far ?_ GW326.out _) | exact HK.out)⟩
       have n8_ : Aside0 (Below w0.heap.size w0 w140) := ⟨by rw [hW_]; repeat (first | (with_reducible first | exact HB.out | apply below_alloc | apply pw_below_drewN | apply below_drew1 | refine below_set ?_ (IsS65.ge HI0.out) | refine below_set ?_ GE287.out | refine below_set ?_ GE288.out | refine below_set ?_ GE289.out | refine below_set ?_ GE290.out | refine below_set ?_ GE291.out | refine below_set ?_ GE326.out) | exact HB.out)⟩
       (try clear BK287)
       (try clear BK288)
       (try clear BK289)
       (try clear BK290)
       (try clear BK291)
       (try clear BK326)
       (try clear HI0)
       (try clear HK)
       (try clear HB)
       rw [← hW_]
       clear hW_
       have BK287 := n0_
       have BK288 := n1_
       have BK289 := n2_
       have BK290 := n3_
       have BK291 := n4_
       have BK326 := n5_
       have HI0 := n6_
       have HK := n7_
       have HB := n8_
       clear n0_ n1_ n2_ n3_ n4_ n5_ n6_ n7_ n8_
       have n0_ := Aside0.mk (blk_drew BK287.out)
       have n1_ := Aside0.mk (blk_drew BK288.out)
       have n2_ := Aside0.mk (blk_drew BK289.out)
       have n3_ := Aside0.mk (blk_drew BK290.out)
       have n4_ := Aside0.mk (blk_drew BK291.out)
       have n5_ := Aside0.mk (blk_drew BK326.out)
       have n6_ := Aside0.mk (IsS65.drew HI0.out)
       have n7_ := Aside0.mk (keep_drew HK.out)
       have n8_ := Aside0.mk (below_drew1 HB.out)
       clear BK287
       clear BK288
       clear BK289
       clear BK290
       clear BK291
       clear BK326
       clear HI0
       clear HK
       clear HB
       have BK287 := n0_
       have BK288 := n1_
       have BK289 := n2_
       have BK290 := n3_
       have BK291 := n4_
       have BK326 := n5_
       have HI0 := n6_
       have HK := n7_
       have HB := n8_
       clear n0_ n1_ n2_ n3_ n4_ n5_ n6_ n7_ n8_
       refine start_ (n := 14) (S := fun w' => w'.cell? ⟨g, 0, none⟩ = some (.int .i64 x1000_1) ∧ w'.cell? ⟨g, 1, none⟩ = some (.int .i64 x1001_1) ∧ w'.cell? ⟨g, 2, none⟩ = some (.int .i64 x1002_1) ∧ w'.cell? ⟨g, 3, none⟩ = some (.int .i64 t340) ∧ w'.cell? ⟨gb289, 0, none⟩ = some (.int .i64 a3_0) ∧ w'.cell? ⟨gb289, 1, none⟩ = some (.int .i64 a3_1) ∧ w'.cell? ⟨gb289, 2, none⟩ = some (.int .i64 a3_2)) (ds := []) (lb_ 14 0) (by kernel_rfl) rfl rfl ⟨(cellS65_0 HI0.out.1), (cellS65_1 HI0.out.1), (cellS65_2 HI0.out.1), (cellS65_3 HI0.out.1), (blk_cell BK289.out 0).trans rfl, (blk_cell BK289.out 1).trans rfl, (blk_cell BK289.out 2).trans rfl⟩ (fun hHeld => ?_); refine with_tabW control_Steer_Step.tab11 control_Steer_Step.bits11 (fun HT_ HW_ => ?_)
       generalize w140.drew = w141 at BK287 BK288 BK289 BK290 BK291 BK326 HI0 HK HB hHeld ⊢
       refine pure_ (i := 0) (N := some 46) (v := ?_) (a' := ?_) (lb_ 14 1) rfl rfl (any_of HT_.out (by kernel_rfl)) (fun _ _ _ h => h) (Or.inl ⟨by rfl, ?_⟩) ?_ ?_; rotate_left; (intro w'; go_simp; with_reducible rfl); rotate_left; (simp only [Act.put, List.setIfInBounds_toArray, List.set_cons_zero, List.set_cons_succ, i64_w, i32_w]; rfl)
       refine pure_ (i := 1) (N := some 47) (v := ?_) (a' := ?_) (lb_ 14 3) rfl rfl (any_of HT_.out (by kernel_rfl)) (fun _ _ _ h => h) (Or.inl ⟨by rfl, ?_⟩) ?_ ?_; rotate_left; (intro w'; go_simp; with_reducible rfl); rotate_left; (simp only [Act.put, List.setIfInBounds_toArray, List.set_cons_zero, List.set_cons_succ, i64_w, i32_w]; rfl)
       refine pure_ (i := 2) (N := some 48) (v := ?_) (a' := ?_) (lb_ 14 7) rfl rfl (any_of HT_.out (by kernel_rfl)) (fun _ _ _ h => h) (Or.inl ⟨by rfl, ?_⟩) ?_ ?_; rotate_left; (intro w'; go_simp; with_reducible rfl); rotate_left; (simp only [Act.put, List.setIfInBounds_toArray, List.set_cons_zero, List.set_cons_succ, i64_w, i32_w]; rfl)
       refine pure_ (i := 3) (N := some 49) (v := ?_) (a' := ?_) (lb_ 14 15) rfl rfl (any_of HT_.out (by kernel_rfl)) (fun _ _ _ h => h) (Or.inl ⟨by rfl, ?_⟩) ?_ ?_; rotate_left; (intro w'; go_simp; with_reducible rfl); rotate_left; (simp only [Act.put, List.setIfInBounds_toArray, List.set_cons_zero, List.set_cons_succ, i64_w, i32_w]; rfl)
       refine pure_ (i := 4) (N := some 50) (v := ?_) (a' := ?_) (lb_ 14 31) rfl rfl (any_of HT_.out (by kernel_rfl)) (fun _ _ _ h => h) (Or.inl ⟨by rfl, ?_⟩) ?_ ?_; rotate_left; (intro w'; go_simp; with_reducible rfl); rotate_left; (simp only [Act.put, List.setIfInBounds_toArray, List.set_cons_zero, List.set_cons_succ, i64_w, i32_w]; rfl)
       refine pure_ (i := 5) (N := some 51) (v := ?_) (a' := ?_) (lb_ 14 63) rfl rfl (any_of HT_.out (by kernel_rfl)) (fun _ _ _ h => h) (Or.inl ⟨by rfl, ?_⟩) ?_ ?_; rotate_left; (intro w'; go_simp; with_reducible rfl); rotate_left; (simp only [Act.put, List.setIfInBounds_toArray, List.set_cons_zero, List.set_cons_succ, i64_w, i32_w]; rfl)
       refine pure_ (i := 7) (N := some 53) (v := ?_) (a' := ?_) (lb_ 14 191) rfl rfl (any_of HT_.out (by kernel_rfl)) (fun _ _ _ h => h) (Or.inl ⟨by rfl, ?_⟩) ?_ ?_; rotate_left; (intro w'; go_simp; with_reducible rfl); rotate_left; (simp only [Act.put, List.setIfInBounds_toArray, List.set_cons_zero, List.set_cons_succ, i64_w, i32_w]; rfl)
       refine pure_ (i := 8) (N := some 54) (v := ?_) (a' := ?_) (lb_ 14 447) rfl rfl (any_of HT_.out (by kernel_rfl)) (fun _ _ _ h => h) (Or.inl ⟨by rfl, ?_⟩) ?_ ?_; rotate_left; (intro w'; go_simp; with_reducible rfl); rotate_left; (simp only [Act.put, List.setIfInBounds_toArray, List.set_cons_zero, List.set_cons_succ, i64_w, i32_w]; rfl)
       refine take_ (i := 6) (N := some 52) (v := ?_) (a' := ?_) (lb_ 14 511) rfl rfl (take_ofW HT_.out HW_.out (by kernel_rfl)) (fun _ _ _ h => h) (Or.inl ⟨by rfl, ?_⟩) hHeld ?_ ?_; rotate_left; (rintro w' ⟨s0, s1, s2, s3, s4, s5, s6⟩; go_simp; with_reducible rfl); rotate_left; (simp only [Act.put, List.setIfInBounds_toArray, List.set_cons_zero, List.set_cons_succ, i64_w, i32_w]; rfl)
       refine take_ (i := 9) (N := some 55) (v := ?_) (a' := ?_) (lb_ 14 1023) rfl rfl (take_ofW HT_.out HW_.out (by kernel_rfl)) (fun _ _ _ h => h) (Or.inl ⟨by rfl, ?_⟩) hHeld ?_ ?_; rotate_left; (rintro w' ⟨s0, s1, s2, s3, s4, s5, s6⟩; go_simp; with_reducible rfl); rotate_left; (simp only [Act.put, List.setIfInBounds_toArray, List.set_cons_zero, List.set_cons_succ, i64_w, i32_w]; rfl)
       refine one_ (i := 10) (N := some 56) (lb_ 14 2047) rfl rfl (one_of HT_.out (by kernel_rfl)) (by decide) (fun K hK => ?_)
       refine goes_ Try.func27 (by kernel_rfl) rfl #[.int .i64 t340, .int .i64 a3_2] (by rfl) rfl rfl (by (try simp only [List.map_toArray, List.map_cons, List.map_nil]); first | done | rfl | (simp only [List.length_drop, List.length_take]; rfl)) ?_
       with_reducible refine (fix_Sub.calls k1 t340 a3_2 t341 _ A125.out).mono ?_
       rintro e w' ⟨rfl, ⟨nd, rfl⟩⟩
       refine ⟨_, rfl, ?_⟩
       refine hK.out _ _ ⟨(cellS65_0 HI0.out.1), (cellS65_1 HI0.out.1), (cellS65_2 HI0.out.1), (cellS65_3 HI0.out.1), (blk_cell BK289.out 0).trans rfl, (blk_cell BK289.out 1).trans rfl, (blk_cell BK289.out 2).trans rfl⟩ (fun hHeld => ?_)
       clear hK K
       refine norm_ (a' := ?_) ?_ ?_
       rotate_left
       ·show Act.put _ (some 56) _ = _
        simp only [Act.put, List.setIfInBounds_toArray, List.set_cons_zero, List.set_cons_succ, i64_w, i32_w]
        rfl
       refine one_ (i := 11) (N := some 57) (lb_ 14 4095) rfl rfl (one_of HT_.out (by kernel_rfl)) (by decide) (fun K hK => ?_)
       refine goes_ Try.func33 (by kernel_rfl) rfl #[.int .i64 t341, .int .i64 (-64), .int .i64 64] (by rfl) rfl rfl (by (try simp only [List.map_toArray, List.map_cons, List.map_nil]); first | done | rfl | (simp only [List.length_drop, List.length_take]; rfl)) ?_
       with_reducible refine (fix_Clamp.calls t341 (-64) 64 t342 _ A126.out).mono ?_
       rintro e w' ⟨rfl, ⟨nd, rfl⟩⟩
       refine ⟨_, rfl, ?_⟩
       refine hK.out _ _ ⟨(cellS65_0 HI0.out.1), (cellS65_1 HI0.out.1), (cellS65_2 HI0.out.1), (cellS65_3 HI0.out.1), (blk_cell BK289.out 0).trans rfl, (blk_cell BK289.out 1).trans rfl, (blk_cell BK289.out 2).trans rfl⟩ (fun hHeld => ?_)
       clear hK K
       refine norm_ (a' := ?_) ?_ ?_
       rotate_left
       ·show Act.put _ (some 57) _ = _
        simp only [Act.put, List.setIfInBounds_toArray, List.set_cons_zero, List.set_cons_succ, i64_w, i32_w]
        rfl
       refine pure_ (i := 12) (N := some 58) (v := ?_) (a' := ?_) (lb_ 14 8191) rfl rfl (any_of HT_.out (by kernel_rfl)) (fun _ _ _ h => h) (Or.inl ⟨by rfl, ?_⟩) ?_ ?_; rotate_left; (intro w'; go_simp; with_reducible rfl); rotate_left; (simp only [Act.put, List.setIfInBounds_toArray, List.set_cons_zero, List.set_cons_succ, i64_w, i32_w]; rfl)
       refine one_ (i := 13) (N := none) (lb_ 14 16383) rfl rfl (one_of HT_.out (by kernel_rfl)) (by decide) (fun K hK => ?_)
       have hs142 : w141.cell? ⟨gb291, 2, none⟩ = some (.int .i64 x292002_1) := (blk_cell BK291.out 2).trans rfl
       have hfs142 := blk_frozen BK291.out 2
       have hns142_0 := NB287_291.out
       have hns142_1 := NB288_291.out
       have hns142_2 := NB289_291.out
       have hns142_3 := NB290_291.out
       have hns142_5 := NB326_291.out
       have hms142_0 := NB291_287.out
       have hms142_1 := NB291_288.out
       have hms142_2 := NB291_289.out
       have hms142_3 := NB291_290.out
       have hms142_5 := NB291_326.out
       refine skip_ (w1 := ?_) (by rfl) rfl ?_ ?_
       rotate_left
       ·go_simp
        rfl
       refine hK.out _ _ ⟨((cell_far (p := ⟨gb291, _, none⟩) NB0_291.out _).trans (hHeld.1)), ((cell_far (p := ⟨gb291, _, none⟩) NB0_291.out _).trans (hHeld.2.1)), ((cell_far (p := ⟨gb291, _, none⟩) NB0_291.out _).trans (hHeld.2.2.1)), ((cell_far (p := ⟨gb291, _, none⟩) NB0_291.out _).trans (hHeld.2.2.2.1)), ((cell_far (p := ⟨gb291, _, none⟩) NB289_291.out _).trans (hHeld.2.2.2.2.1)), ((cell_far (p := ⟨gb291, _, none⟩) NB289_291.out _).trans (hHeld.2.2.2.2.2.1)), ((cell_far (p := ⟨gb291, _, none⟩) NB289_291.out _).trans (hHeld.2.2.2.2.2.2))⟩ (fun hHeld => ?_)
       clear hK K
       refine done_ (done_of HT_.out (by kernel_rfl)) ?_
       try go_wp2
       go_roundg k1
       case measure => have := HK1.out; omega
       case rel => exact ⟨(3), (x1000_1), (x1001_1), (x1002_1), (t340), (x291000_1), (x291001_1), (x291002_1), (x292000_1), (x292001_1), (t342), (by first | rfl | (simp; done) | (simp [*]; done)), H', ⟨by have := HK1.out; omega⟩, ⟨by (with_reducible repeat (first | refine blk_drewN ?_ _ | refine blk_drew ?_ | refine blk_alloc ?_ _)); refine blk_far ?_ NB287_291.out _; (with_reducible repeat (first | refine blk_drewN ?_ _ | refine blk_drew ?_ | refine blk_alloc ?_ _)); exact BK287.out⟩, ⟨by (with_reducible repeat (first | refine blk_drewN ?_ _ | refine blk_drew ?_ | refine blk_alloc ?_ _)); refine blk_far ?_ NB288_291.out _; (with_reducible repeat (first | refine blk_drewN ?_ _ | refine blk_drew ?_ | refine blk_alloc ?_ _)); exact BK288.out⟩, ⟨by (with_reducible repeat (first | refine blk_drewN ?_ _ | refine blk_drew ?_ | refine blk_alloc ?_ _)); refine blk_far ?_ NB289_291.out _; (with_reducible repeat (first | refine blk_drewN ?_ _ | refine blk_drew ?_ | refine blk_alloc ?_ _)); exact BK289.out⟩, ⟨by (with_reducible repeat (first | refine blk_drewN ?_ _ | refine blk_drew ?_ | refine blk_alloc ?_ _)); refine blk_far ?_ NB290_291.out _; (with_reducible repeat (first | refine blk_drewN ?_ _ | refine blk_drew ?_ | refine blk_alloc ?_ _)); exact BK290.out⟩, ⟨by (with_reducible repeat (first | refine blk_drewN ?_ _ | refine blk_drew ?_ | refine blk_alloc ?_ _)); refine blk_put (cs := #[.int .i64 x292000_1, .int .i64 x292001_1, .int .i64 x292002_1]) ?_ 2 _ rfl; (with_reducible repeat (first | refine blk_drewN ?_ _ | refine blk_drew ?_ | refine blk_alloc ?_ _)); exact BK291.out⟩, ⟨by repeat (first | (with_reducible first | exact HI0.out | apply IsS65.alloc | apply IsS65.drewN | apply IsS65.drew | apply IsS65.set_0 | apply IsS65.set_1 | apply IsS65.set_2 | apply IsS65.set_3 | apply IsS65.farb NB0_287.out | apply IsS65.farb NB0_288.out | apply IsS65.farb NB0_289.out | apply IsS65.farb NB0_290.out | apply IsS65.farb NB0_291.out | apply IsS65.farb NB0_326.out) | exact HI0.out)⟩, ⟨by repeat (first | (with_reducible first | exact HK.out | apply KeepBut.set_ | apply keep_drewN | apply keep_drew | apply keep_alloc | refine keep_far ?_ GW287.out _ | refine keep_far ?_ GW288.out _ | refine keep_far ?_ GW289.out _ | refine keep_far ?_ GW290.out _ | refine keep_far ?_ GW291.out _ | refine keep_far ?_ GW326.out _) | exact HK.out)⟩, ⟨by repeat (first | (with_reducible first | exact HB.out | apply below_alloc | apply pw_below_drewN | apply below_drew1 | refine below_set ?_ (IsS65.ge HI0.out) | refine below_set ?_ GE287.out | refine below_set ?_ GE288.out | refine below_set ?_ GE289.out | refine below_set ?_ GE290.out | refine below_set ?_ GE291.out | refine below_set ?_ GE326.out) | exact HB.out)⟩⟩
     rw [if_neg c101] at H
     exact absurd H (by simp)
    ·rw [if_neg c16] at H
     have c16b0 : decide (x17_1 < 3) = false := decide_eq_false c16
     clear c16
     simp only [Option.some.injEq, Prod.mk.injEq] at H
     obtain ⟨rfl, rfl, rfl, rfl, rfl, rfl, rfl⟩ := H
     have hnb143 := NB291_287.out
     have hnc143 := NB287_291.out
     have hnb144 := NB291_288.out
     have hnc144 := NB288_291.out
     have hnb145 := NB291_289.out
     have hnc145 := NB289_291.out
     have hnb146 := NB291_290.out
     have hnc146 := NB290_291.out
     have hnb147 := NB291_0.out
     have hnc147 := NB0_291.out
     have hcz148_0 := blk_cells3 (w := wr) (g := gb291) BK291.out
     have hfz148_0 := blk_frozen BK291.out
     have hnb149 := NB290_287.out
     have hnc149 := NB287_290.out
     have hnb150 := NB290_288.out
     have hnc150 := NB288_290.out
     have hnb151 := NB290_289.out
     have hnc151 := NB289_290.out
     have hnb152 := NB290_0.out
     have hnc152 := NB0_290.out
     have hcz153_0 := blk_cells3 (w := wr) (g := gb290) BK290.out
     have hfz153_0 := blk_frozen BK290.out
     go_wp2
     refine bodyPost_ret (results_cell_row rfl _ _ gb290 37 #[.int .i64 x292000_1, .int .i64 x292001_1, .int .i64 x292002_1] (0, 0) _ rfl (by (with_reducible repeat (first | refine blk_drewN ?_ _ | refine blk_drew ?_ | refine blk_alloc ?_ _)); refine blk_put (cs := #[.int .i64 x292000_1, .int .i64 x292001_1, .int .i64 x291002_1]) ?_ 2 _ rfl; (with_reducible repeat (first | refine blk_drewN ?_ _ | refine blk_drew ?_ | refine blk_alloc ?_ _)); refine blk_put (cs := #[.int .i64 x292000_1, .int .i64 x291001_1, .int .i64 x291002_1]) ?_ 1 _ rfl; (with_reducible repeat (first | refine blk_drewN ?_ _ | refine blk_drew ?_ | refine blk_alloc ?_ _)); refine blk_put (cs := #[.int .i64 x291000_1, .int .i64 x291001_1, .int .i64 x291002_1]) ?_ 0 _ rfl; (with_reducible repeat (first | refine blk_drewN ?_ _ | refine blk_drew ?_ | refine blk_alloc ?_ _)); exact BK290.out) Try.underlying37 rfl (by kernel_rfl)) rfl ?_
     exact ⟨by first | rfl | (simp [errW_none, errW_some] <;> rfl) | (simp [*, errW_none, errW_some] <;> rfl), by repeat (first | (with_reducible first | exact HI0.out | apply IsS65.alloc | apply IsS65.drewN | apply IsS65.drew | apply IsS65.set_0 | apply IsS65.set_1 | apply IsS65.set_2 | apply IsS65.set_3 | apply IsS65.farb NB0_287.out | apply IsS65.farb NB0_288.out | apply IsS65.farb NB0_289.out | apply IsS65.farb NB0_290.out | apply IsS65.farb NB0_291.out) | exact HI0.out), by repeat (first | (with_reducible first | exact HB.out | apply below_alloc | apply pw_below_drewN | apply below_drew1 | refine below_set ?_ (IsS65.ge HI0.out) | refine below_set ?_ GE287.out | refine below_set ?_ GE288.out | refine below_set ?_ GE289.out | refine below_set ?_ GE290.out | refine below_set ?_ GE291.out) | exact HB.out), by repeat (first | (with_reducible first | exact HK.out | apply KeepBut.set_ | apply keep_drewN | apply keep_drew | apply keep_alloc | refine keep_far ?_ GW287.out _ | refine keep_far ?_ GW288.out _ | refine keep_far ?_ GW289.out _ | refine keep_far ?_ GW290.out _ | refine keep_far ?_ GW291.out _) | exact HK.out)⟩

end Go.Proofs.Ytbnliflfkljbfaa.PControlNil
