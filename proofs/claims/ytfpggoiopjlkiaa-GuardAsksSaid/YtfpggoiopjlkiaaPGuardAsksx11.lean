-- WRITTEN BY wip/tools/aprint.py of this claim's repository over the kit's words: not typed by hand
import Derived.Test.YtfpggoiopjlkiaaPGuardAsksx0
import Derived.Test.YtfpggoiopjlkiaaPGuardAsksx2
import Derived.Test.YtfpggoiopjlkiaaPGuardAsksx6
import Derived.Test.YtfpggoiopjlkiaaPGuardAsksx10
namespace Go.Proofs.Ytfpggoiopjlkiaa.PGuardAsks
open Go.RowKit Go.Proofs.YtfpggoiopjlkiaaW.PrintWords Go.Proofs.YtfpggoiopjlkiaaW.PrintLast Go.Proofs.YtfpggoiopjlkiaaW.PrintMore
attribute [local go_sem] max2_int min2_int max_two min_two max_three min_three max_four min_four   -- for this text's walks alone
set_option linter.unusedVariables false
set_option linter.unusedSimpArgs false

attribute [local go_sem high] eqA39
/-! ### windhoverlaw18_GuardAsks: function 7 -/
mutual
def windhoverlaw18_GuardAsks.l0 : Nat → List (S49) → Int → Int → Int → Int → Option (Bool)
  | 0, _, _, _, _, _ => none
  | k + 1, x0, x4, x5, x301000, x301001 => if x5 < (x0.length : Int) then (if 0 ≤ x5 then ((guard_Backup_Step.f k x301000 x301001 ((rd_T49 x0 x5).f0) ((rd_T49 x0 x5).f1.f0) ((rd_T49 x0 x5).f1.f1) ((rd_T49 x0 x5).f1.f2) ((rd_T49 x0 x5).f2)).bind fun bt304 => ((windhoverref18_Step.f k x4 ((rd_T49 x0 x5).f0) ((rd_T49 x0 x5).f1.f0) ((rd_T49 x0 x5).f1.f1) ((rd_T49 x0 x5).f1.f2) ((rd_T49 x0 x5).f2)).bind fun bt311 => (windhoverlaw18_GuardAsks.l1 k x0 bt311.2.2.2 x5 true 0 bt304.2.2.2.1 bt304.2.2.2.2 ((rd_T49 x0 x5).f0) ((rd_T49 x0 x5).f1.f0) ((rd_T49 x0 x5).f1.f1) ((rd_T49 x0 x5).f1.f2) ((rd_T49 x0 x5).f2) bt304.1 bt304.2.1 bt304.2.2.1 bt311.1 bt311.2.1 bt311.2.2.1))) else (none)) else ((windhoverlaw18_awake.f k).bind fun t301 => (some t301))
def windhoverlaw18_GuardAsks.l1 : Nat → List (S49) → Int → Int → Bool → Int → Int → Int → Bool → Int → Int → Int → Int → Int → Int → Int → Int → Int → Int → Option (Bool)
  | 0, _, _, _, _, _, _, _, _, _, _, _, _, _, _, _, _, _, _ => none
  | k + 1, x0, x4, x5, x9, x10, x301000, x301001, x304000, x304001, x304002, x304003, x304004, x310000, x310001, x310002, x311000, x311001, x311002 => if x10 < 3 then (if x10 = 0 then (if x304001 < (-64) then (windhoverlaw18_GuardAsks.l1 k x0 x4 x5 false 1 x301000 x301001 x304000 x304001 x304002 x304003 x304004 x310000 x310001 x310002 x311000 x311001 x311002) else (if x304001 > 64 then (windhoverlaw18_GuardAsks.l1 k x0 x4 x5 false 1 x301000 x301001 x304000 x304001 x304002 x304003 x304004 x310000 x310001 x310002 x311000 x311001 x311002) else (windhoverlaw18_GuardAsks.l1 k x0 x4 x5 x9 1 x301000 x301001 x304000 x304001 x304002 x304003 x304004 x310000 x310001 x310002 x311000 x311001 x311002))) else (if x10 = 1 then (if x304002 < (-64) then (windhoverlaw18_GuardAsks.l1 k x0 x4 x5 false 2 x301000 x301001 x304000 x304001 x304002 x304003 x304004 x310000 x310001 x310002 x311000 x311001 x311002) else (if x304002 > 64 then (windhoverlaw18_GuardAsks.l1 k x0 x4 x5 false 2 x301000 x301001 x304000 x304001 x304002 x304003 x304004 x310000 x310001 x310002 x311000 x311001 x311002) else (windhoverlaw18_GuardAsks.l1 k x0 x4 x5 x9 2 x301000 x301001 x304000 x304001 x304002 x304003 x304004 x310000 x310001 x310002 x311000 x311001 x311002))) else (if x10 = 2 then (if x304003 < (-64) then (windhoverlaw18_GuardAsks.l1 k x0 x4 x5 false 3 x301000 x301001 x304000 x304001 x304002 x304003 x304004 x310000 x310001 x310002 x311000 x311001 x311002) else (if x304003 > 64 then (windhoverlaw18_GuardAsks.l1 k x0 x4 x5 false 3 x301000 x301001 x304000 x304001 x304002 x304003 x304004 x310000 x310001 x310002 x311000 x311001 x311002) else (windhoverlaw18_GuardAsks.l1 k x0 x4 x5 x9 3 x301000 x301001 x304000 x304001 x304002 x304003 x304004 x310000 x310001 x310002 x311000 x311001 x311002))) else (none)))) else (if (!(x310000 == x311000) || (!(x310001 == x311001) || (!(x310002 == x311002)))) = true then (none) else ((guard_Backup_Falling.f x301000 x301001 x304004).bind fun bt315 => (if (bt315.1 != (decide (x4 ≤ (wrap64 (-(mx x304004 0)))))) = true then (none) else ((guard_Slow.f k x304001 x304002 x304003).bind fun t318 => (if (t318 != x9) = true then (none) else (windhoverlaw18_GuardAsks.l0 k x0 x4 (wrap64 (x5 + 1)) bt315.2.1 bt315.2.2))))))
end
def windhoverlaw18_GuardAsks.f (k : Nat) (l0 : List (S49)) : Option (Bool) := (guard_NewBackup.f).bind fun bt298 => (windhoverlaw18_GuardAsks.l0 k l0 0 0 bt298.1 bt298.2)
theorem windhoverlaw18_GuardAsks.mono_l : ∀ k, (∀ y0 y1 y2 y3 y4, LeO (windhoverlaw18_GuardAsks.l0 k y0 y1 y2 y3 y4) (windhoverlaw18_GuardAsks.l0 (k + 1) y0 y1 y2 y3 y4)) ∧ (∀ y0 y1 y2 y3 y4 y5 y6 y7 y8 y9 y10 y11 y12 y13 y14 y15 y16 y17, LeO (windhoverlaw18_GuardAsks.l1 k y0 y1 y2 y3 y4 y5 y6 y7 y8 y9 y10 y11 y12 y13 y14 y15 y16 y17) (windhoverlaw18_GuardAsks.l1 (k + 1) y0 y1 y2 y3 y4 y5 y6 y7 y8 y9 y10 y11 y12 y13 y14 y15 y16 y17))
  | 0 => ⟨fun _ _ _ _ _ r h => by simp [windhoverlaw18_GuardAsks.l0] at h, fun _ _ _ _ _ _ _ _ _ _ _ _ _ _ _ _ _ _ r h => by simp [windhoverlaw18_GuardAsks.l1] at h⟩
  | k + 1 => by
    obtain ⟨ih0, ih1⟩ := windhoverlaw18_GuardAsks.mono_l k
    refine ⟨?_, ?_⟩
    · intro y0 y1 y2 y3 y4
      unfold windhoverlaw18_GuardAsks.l0
      repeat' first
      | (with_reducible exact ih0 _ _ _ _ _)
      | (with_reducible exact ih1 _ _ _ _ _ _ _ _ _ _ _ _ _ _ _ _ _ _)
      | (with_reducible exact guard_Backup_Step.mono _ _ _ _ _ _ _ _)
      | (with_reducible exact guard_Slow.mono _ _ _ _)
      | (with_reducible exact windhoverlaw18_awake.mono _)
      | (with_reducible exact windhoverref18_Step.mono _ _ _ _ _ _ _)
      | (with_reducible exact LeO.refl _)
      | (with_reducible exact LeO.none _)
      | (with_reducible refine LeO.ite ?_ ?_)
      | (with_reducible refine LeO.bind ?_ (fun _ => ?_))
      | exact ih0 _ _ _ _ _
      | exact ih1 _ _ _ _ _ _ _ _ _ _ _ _ _ _ _ _ _ _
      | exact guard_Backup_Step.mono _ _ _ _ _ _ _ _
      | exact guard_Slow.mono _ _ _ _
      | exact windhoverlaw18_awake.mono _
      | exact windhoverref18_Step.mono _ _ _ _ _ _ _
      | exact LeO.none _
      | refine LeO.ite ?_ ?_
      | refine LeO.bind ?_ (fun _ => ?_)
    · intro y0 y1 y2 y3 y4 y5 y6 y7 y8 y9 y10 y11 y12 y13 y14 y15 y16 y17
      unfold windhoverlaw18_GuardAsks.l1
      repeat' first
      | (with_reducible exact ih0 _ _ _ _ _)
      | (with_reducible exact ih1 _ _ _ _ _ _ _ _ _ _ _ _ _ _ _ _ _ _)
      | (with_reducible exact guard_Backup_Step.mono _ _ _ _ _ _ _ _)
      | (with_reducible exact guard_Slow.mono _ _ _ _)
      | (with_reducible exact windhoverlaw18_awake.mono _)
      | (with_reducible exact windhoverref18_Step.mono _ _ _ _ _ _ _)
      | (with_reducible exact LeO.refl _)
      | (with_reducible exact LeO.none _)
      | (with_reducible refine LeO.ite ?_ ?_)
      | (with_reducible refine LeO.bind ?_ (fun _ => ?_))
      | exact ih0 _ _ _ _ _
      | exact ih1 _ _ _ _ _ _ _ _ _ _ _ _ _ _ _ _ _ _
      | exact guard_Backup_Step.mono _ _ _ _ _ _ _ _
      | exact guard_Slow.mono _ _ _ _
      | exact windhoverlaw18_awake.mono _
      | exact windhoverref18_Step.mono _ _ _ _ _ _ _
      | exact LeO.none _
      | refine LeO.ite ?_ ?_
      | refine LeO.bind ?_ (fun _ => ?_)
theorem windhoverlaw18_GuardAsks.mono : ∀ a0 k, LeO (windhoverlaw18_GuardAsks.f k a0) (windhoverlaw18_GuardAsks.f (k + 1) a0) := by
  intro a0 k
  obtain ⟨ih0, ih1⟩ := windhoverlaw18_GuardAsks.mono_l k
  unfold windhoverlaw18_GuardAsks.f
  repeat' first
      | (with_reducible exact ih0 _ _ _ _ _)
      | (with_reducible exact ih1 _ _ _ _ _ _ _ _ _ _ _ _ _ _ _ _ _ _)
      | (with_reducible exact guard_Backup_Step.mono _ _ _ _ _ _ _ _)
      | (with_reducible exact guard_Slow.mono _ _ _ _)
      | (with_reducible exact windhoverlaw18_awake.mono _)
      | (with_reducible exact windhoverref18_Step.mono _ _ _ _ _ _ _)
      | (with_reducible exact LeO.refl _)
      | (with_reducible exact LeO.none _)
      | (with_reducible refine LeO.ite ?_ ?_)
      | (with_reducible refine LeO.bind ?_ (fun _ => ?_))
      | exact ih0 _ _ _ _ _
      | exact ih1 _ _ _ _ _ _ _ _ _ _ _ _ _ _ _ _ _ _
      | exact guard_Backup_Step.mono _ _ _ _ _ _ _ _
      | exact guard_Slow.mono _ _ _ _
      | exact windhoverlaw18_awake.mono _
      | exact windhoverref18_Step.mono _ _ _ _ _ _ _
      | exact LeO.none _
      | refine LeO.ite ?_ ?_
      | refine LeO.bind ?_ (fun _ => ?_)
def windhoverlaw18_GuardAsks.T18 : Bool × List (List Nat × List Nat) := (true, [([], []), ([], []), ([0, 1], [0, 1]), ([2], [2]), ([3], [3]), ([3], [3]), ([5, 3], [3, 5]), ([4, 6, 3, 3], [3, 4, 6]), ([3], [3]), ([3], [3]), ([9, 3], [3, 9]), ([10, 3], [3, 10]), ([11, 3], [3, 11]), ([8, 12, 3], [3, 8, 12]), ([7, 13, 3], [3, 7, 13]), ([3, 14], [3, 14]), ([15, 7], [15]), ([16], [16]), ([17, 16], [16, 17]), ([18, 16, 16], [16, 18]), ([16], [16]), ([19, 20, 16], [16, 19, 20]), ([16, 21], [16, 21])])
def windhoverlaw18_GuardAsks.B18 : List Nat := [0, 0, 3, 7, 15, 15, 47, 127, 15, 15, 527, 1551, 3599, 7951, 16383, 32767, 65535, 131071, 262143, 524287, 131071, 2097151, 4194303]
theorem windhoverlaw18_GuardAsks.tab18 : rtab .any (opsOf Try.f7 18) = windhoverlaw18_GuardAsks.T18 := by kernel_rfl
theorem windhoverlaw18_GuardAsks.bits18 : waitsOk windhoverlaw18_GuardAsks.T18.2 windhoverlaw18_GuardAsks.B18 = true := by kernel_rfl
set_option maxHeartbeats 8000000 in
set_option maxRecDepth 100000 in
theorem windhoverlaw18_GuardAsks.calls (k : Nat) (A0 : Option Addr) (c0 : Nat) (l0 : List (S49)) (r : Bool) (w : World) (hr0 : Kd.C k49 w A0 l0.length l0) (hc0 : l0.length ≤ c0) (h : windhoverlaw18_GuardAsks.f k l0 = some r) :
    Calls Try.prog 7 #[.slice A0 l0.length c0] w fun e w' => e = .returned (.bool r) ∧ Below w.heap.size w w' := by
  have hu49 := Try.underlying49
  have hu39 := Try.underlying39
  have HR0 := Aside0.mk hr0
  have HC0 := Aside0.mk hc0
  clear hr0 hc0
  have HB := Aside0.mk (Below.refl w.heap.size w)
  have H : ((guard_NewBackup.f).bind fun bt298 => (windhoverlaw18_GuardAsks.l0 k l0 0 0 bt298.1 bt298.2)) = some r := h
  clear h
  replace H := Option.bind_eq_some_iff.mp H
  obtain ⟨⟨t298, t299⟩, A20, H⟩ := H
  replace H : (windhoverlaw18_GuardAsks.l0 k l0 0 0 t298 t299) = some r := H
  have A2 := Aside0.mk A20
  clear A20
  have H' := Aside0.mk H
  clear H
  go_enter Try.func7, Try.ntmps7
  go_wp2_with (first | ((with_reducible refine gate_callee (f := 14) rfl ?_); refine goesL_ (some 11) rfl rfl Try.func14 (by kernel_rfl) rfl #[] rfl (by (try simp only [List.map_toArray, List.map_cons, List.map_nil]); first | done | rfl | (simp only [List.length_drop, List.length_take]; rfl)) ?_; (with_reducible refine (guard_NewBackup.calls  t298 t299 w _ ?side1 A2.out).mono ?_); (case side1 => repeat (first | (with_reducible first | exact HB.out | apply below_alloc | apply pw_below_drewN | apply below_drew1) | exact HB.out)); rintro e w3 ⟨g300, rfl, hi, hb, hb2⟩; refine ⟨_, rfl, ?_⟩; have n0_ := Aside0.mk (hb); have n1_ := Aside0.mk (hi); clear HB; have HB := n0_; have HI300 := n1_; clear n0_ n1_; (try clear hb); (try clear hb2); (try clear hk); (try clear hi)))
  go_loopg [4, 5] k (fun kq v4 v5 w' => ∃ (x4_1 : Int) (x5_1 : Int) (x301000_1 : Int) (x301001_1 : Int), v4 = .int .i64 x4_1 ∧ v5 = .int .i64 x5_1 ∧ Aside0 (windhoverlaw18_GuardAsks.l0 kq l0 x4_1 x5_1 x301000_1 x301001_1 = some r) ∧ Aside0 (kq ≤ k) ∧ Aside0 (IsS70 w w' g300 x301000_1 x301001_1) ∧ Aside0 (Below w.heap.size w w'))
  case atStart => exact ⟨(0), (0), (t298), (t299), (by first | rfl | (simp; done) | (simp [*]; done)), (by first | rfl | (simp; done) | (simp [*]; done)), H', ⟨Nat.le_refl _⟩, ⟨by repeat (first | (with_reducible first | exact HI300.out | apply IsS70.alloc | apply IsS70.drewN | apply IsS70.drew | apply IsS70.set_0 | apply IsS70.set_1) | exact HI300.out)⟩, ⟨by repeat (first | (with_reducible first | exact HB.out | apply below_alloc | apply pw_below_drewN | apply below_drew1 | refine below_set ?_ (IsS70.ge HI300.out)) | exact HB.out)⟩⟩
  case round =>
    clear H'
    try clear c1
    try clear p2
    obtain ⟨x4_1, x5_1, x301000_1, x301001_1, rfl, rfl, HA, HK1, HI300, HB⟩ := hrel
    cases gk with
    | zero => exact absurd HA.out (by simp [windhoverlaw18_GuardAsks.l0])
    | succ k1 =>
      have H := HA.out
      clear HA
      simp only [windhoverlaw18_GuardAsks.l0] at H
      by_cases c4 : x5_1 < (l0.length : Int)
      · rw [if_pos c4] at H
        have c4b0 : decide (x5_1 < (l0.length : Int)) = true := decide_eq_true c4
        clear c4
        by_cases c5 : 0 ≤ x5_1
        · rw [if_pos c5] at H
          have c5b0 : decide (0 ≤ x5_1) = true := decide_eq_true c5
          clear c5
          replace H := Option.bind_eq_some_iff.mp H
          obtain ⟨⟨t304, t305, t306, t307, t308⟩, A60, H⟩ := H
          replace H : ((windhoverref18_Step.f k1 x4_1 ((rd_T49 l0 x5_1).f0) ((rd_T49 l0 x5_1).f1.f0) ((rd_T49 l0 x5_1).f1.f1) ((rd_T49 l0 x5_1).f1.f2) ((rd_T49 l0 x5_1).f2)).bind fun bt311 => (windhoverlaw18_GuardAsks.l1 k1 l0 bt311.2.2.2 x5_1 true 0 t307 t308 ((rd_T49 l0 x5_1).f0) ((rd_T49 l0 x5_1).f1.f0) ((rd_T49 l0 x5_1).f1.f1) ((rd_T49 l0 x5_1).f1.f2) ((rd_T49 l0 x5_1).f2) t304 t305 t306 bt311.1 bt311.2.1 bt311.2.2.1)) = some r := H
          have A6 := Aside0.mk A60
          clear A60
          replace H := Option.bind_eq_some_iff.mp H
          obtain ⟨⟨t311, t312, t313, t314⟩, A70, H⟩ := H
          replace H : (windhoverlaw18_GuardAsks.l1 k1 l0 t314 x5_1 true 0 t307 t308 ((rd_T49 l0 x5_1).f0) ((rd_T49 l0 x5_1).f1.f0) ((rd_T49 l0 x5_1).f1.f1) ((rd_T49 l0 x5_1).f1.f2) ((rd_T49 l0 x5_1).f2) t304 t305 t306 t311 t312 t313) = some r := H
          have A7 := Aside0.mk A70
          clear A70
          have H' := Aside0.mk H
          clear H
          have p302 : 0 ≤ (x5_1 : Int) := of_decide_eq_true (by first | (with_reducible assumption) | assumption)
          have q302 : x5_1 < (l0.length : Int) := of_decide_eq_true (by first | (with_reducible assumption) | assumption)
          obtain ⟨ad302, e302, hx302_0, hx302_1, hx302_2, hx302_3, hx302_4⟩ := at_T49 HR0.out x5_1 p302 q302
          cases e302
          replace hx302_0 := (HB.out.cell (World.block_lt_of_cell? w _ hx302_0)).trans hx302_0
          replace hx302_1 := (HB.out.cell (World.block_lt_of_cell? w _ hx302_1)).trans hx302_1
          replace hx302_2 := (HB.out.cell (World.block_lt_of_cell? w _ hx302_2)).trans hx302_2
          replace hx302_3 := (HB.out.cell (World.block_lt_of_cell? w _ hx302_3)).trans hx302_3
          replace hx302_4 := (HB.out.cell (World.block_lt_of_cell? w _ hx302_4)).trans hx302_4
          replace p302 := eq_true p302
          replace q302 := eq_true q302
          go_wp2_with (first | ((with_reducible refine gate_dst (N := 6) rfl ?_); (try (refine gate_guard (by rfl) ?_; dsimp only)); refine box_event ?hg (N := 6) ?hd (cs := #[.bool false, .int .i64 0, .int .i64 0, .int .i64 0, .int .i64 0]) (t := 49) ?hr ?_; (case hd => rfl); (case hg => rfl); (case hr => first | (go_simp; done) | (go_simp; rfl)); intro gb303 hg w8 hbox hb; have n0_ := Aside0.mk (IsS70.below (by repeat (first | (with_reducible first | exact HI300.out | apply IsS70.alloc | apply IsS70.drewN | apply IsS70.drew | apply IsS70.set_0 | apply IsS70.set_1) | exact HI300.out)) hb); have n1_ := Aside0.mk (below_step (by repeat (first | (with_reducible first | exact HB.out | apply below_alloc | apply pw_below_drewN | apply below_drew1 | refine below_set ?_ (IsS70.ge HI300.out)) | exact HB.out)) hb); have n2_ := Aside0.mk (hbox); have n3_ := Aside0.mk ((by rw [hg]; exact (below_size (by repeat (first | (with_reducible first | exact HB.out | apply below_alloc | apply pw_below_drewN | apply below_drew1 | refine below_set ?_ (IsS70.ge HI300.out)) | exact HB.out))) : w.heap.size ≤ gb303)); have n4_ := Aside0.mk ((by rw [hg]; exact (below_size (by repeat (first | (with_reducible first | exact HB.out | apply below_alloc | apply pw_below_drewN | apply below_drew1 | refine below_set ?_ (IsS70.ge HI300.out)) | exact HB.out))) : w.heap.size ≤ gb303)); have n5_ := Aside0.mk ((by rw [hg]; exact Nat.ne_of_lt (IsS70.lt (show IsS70 w _ g300 x301000_1 x301001_1 from by repeat (first | (with_reducible first | exact HI300.out | apply IsS70.alloc | apply IsS70.drewN | apply IsS70.drew | apply IsS70.set_0 | apply IsS70.set_1) | exact HI300.out))) : g300 ≠ gb303)); have n6_ := Aside0.mk ((by rw [hg]; exact Nat.ne_of_gt (IsS70.lt (show IsS70 w _ g300 x301000_1 x301001_1 from by repeat (first | (with_reducible first | exact HI300.out | apply IsS70.alloc | apply IsS70.drewN | apply IsS70.drew | apply IsS70.set_0 | apply IsS70.set_1) | exact HI300.out))) : gb303 ≠ g300)); clear HI300; clear HB; have HI300 := n0_; have HB := n1_; have BK303 := n2_; have GW303 := n3_; have GE303 := n4_; have NB300_303 := n5_; have NB303_300 := n6_; clear n0_ n1_ n2_ n3_ n4_ n5_ n6_; clear hb hbox hg; have hnb9 := NB303_300.out; have hnc9 := NB300_303.out; have hcz10_0 := blk_cells5 (w := w8) (g := gb303) BK303.out; have hfz10_0 := blk_frozen BK303.out) | ((with_reducible refine gate_callee (f := 16) rfl ?_); refine goesL_ (some 31) rfl rfl Try.func16 (by kernel_rfl) rfl #[.pointer (some ⟨g300, 0, none⟩), .bool ((rd_T49 l0 x5_1).f0), .agg #[.int .i64 ((rd_T49 l0 x5_1).f1.f0), .int .i64 ((rd_T49 l0 x5_1).f1.f1), .int .i64 ((rd_T49 l0 x5_1).f1.f2)], .int .i64 ((rd_T49 l0 x5_1).f2)] rfl (by (try simp only [List.map_toArray, List.map_cons, List.map_nil]); first | done | rfl | (simp only [List.length_drop, List.length_take]; rfl)) ?_; (with_reducible refine (guard_Backup_Step.calls k1 g300 x301000_1 x301001_1 ((rd_T49 l0 x5_1).f0) ((rd_T49 l0 x5_1).f1.f0) ((rd_T49 l0 x5_1).f1.f1) ((rd_T49 l0 x5_1).f1.f2) ((rd_T49 l0 x5_1).f2) t304 t305 t306 t307 t308 w _ ?side1 ?side2 A6.out).mono ?_); (case side1 => repeat (first | (with_reducible first | exact HI300.out | apply IsS70.alloc | apply IsS70.drewN | apply IsS70.drew | apply IsS70.set_0 | apply IsS70.set_1 | refine IsS70.far ?_ NB300_303.out _) | exact HI300.out)); (case side2 => repeat (first | (with_reducible first | exact HB.out | apply below_alloc | apply pw_below_drewN | apply below_drew1 | refine below_set ?_ (IsS70.ge HI300.out) | refine below_set ?_ GE303.out) | exact HB.out)); rintro e w11 ⟨rfl, hi, hb, hk⟩; refine ⟨_, rfl, ?_⟩; have n0_ := Aside0.mk (KeepBut.blk hk (g' := gb303) (o := .cells #[.bool ((rd_T49 l0 x5_1).f0), .int .i64 ((rd_T49 l0 x5_1).f1.f0), .int .i64 ((rd_T49 l0 x5_1).f1.f1), .int .i64 ((rd_T49 l0 x5_1).f1.f2), .int .i64 ((rd_T49 l0 x5_1).f2)] 49 (0, 0)) (by (with_reducible repeat (first | refine blk_drewN ?_ _ | refine blk_drew ?_ | refine blk_alloc ?_ _)); refine blk_put (cs := #[.bool ((rd_T49 l0 x5_1).f0), .int .i64 ((rd_T49 l0 x5_1).f1.f0), .int .i64 ((rd_T49 l0 x5_1).f1.f1), .int .i64 ((rd_T49 l0 x5_1).f1.f2), .int .i64 0]) ?_ 4 _ rfl; (with_reducible repeat (first | refine blk_drewN ?_ _ | refine blk_drew ?_ | refine blk_alloc ?_ _)); refine blk_put (cs := #[.bool ((rd_T49 l0 x5_1).f0), .int .i64 ((rd_T49 l0 x5_1).f1.f0), .int .i64 ((rd_T49 l0 x5_1).f1.f1), .int .i64 0, .int .i64 0]) ?_ 3 _ rfl; (with_reducible repeat (first | refine blk_drewN ?_ _ | refine blk_drew ?_ | refine blk_alloc ?_ _)); refine blk_put (cs := #[.bool ((rd_T49 l0 x5_1).f0), .int .i64 ((rd_T49 l0 x5_1).f1.f0), .int .i64 0, .int .i64 0, .int .i64 0]) ?_ 2 _ rfl; (with_reducible repeat (first | refine blk_drewN ?_ _ | refine blk_drew ?_ | refine blk_alloc ?_ _)); refine blk_put (cs := #[.bool ((rd_T49 l0 x5_1).f0), .int .i64 0, .int .i64 0, .int .i64 0, .int .i64 0]) ?_ 1 _ rfl; (with_reducible repeat (first | refine blk_drewN ?_ _ | refine blk_drew ?_ | refine blk_alloc ?_ _)); refine blk_put (cs := #[.bool false, .int .i64 0, .int .i64 0, .int .i64 0, .int .i64 0]) ?_ 0 _ rfl; (with_reducible repeat (first | refine blk_drewN ?_ _ | refine blk_drew ?_ | refine blk_alloc ?_ _)); exact BK303.out) NB303_300.out (by simp)); have n1_ := Aside0.mk (hb); have n2_ := Aside0.mk (hi); clear BK303; clear HB; clear HI300; have BK303 := n0_; have HB := n1_; have HI300 := n2_; clear n0_ n1_ n2_; (try clear hb); (try clear hb2); (try clear hk); (try clear hi)) | ((with_reducible refine gate_dst (N := 7) rfl ?_); (try (refine gate_guard (by rfl) ?_; dsimp only)); refine box_event ?hg (N := 7) ?hd (cs := #[.int .i64 0, .int .i64 0, .int .i64 0]) (t := 39) ?hr ?_; (case hd => rfl); (case hg => rfl); (case hr => first | (go_simp; done) | (go_simp; rfl)); intro gb309 hg w12 hbox hb; have n0_ := Aside0.mk (IsS70.below (by repeat (first | (with_reducible first | exact HI300.out | apply IsS70.alloc | apply IsS70.drewN | apply IsS70.drew | apply IsS70.set_0 | apply IsS70.set_1 | refine IsS70.far ?_ NB300_303.out _) | exact HI300.out)) hb); have n1_ := Aside0.mk (blk_below (g := gb303) (o := .cells #[.bool ((rd_T49 l0 x5_1).f0), .int .i64 ((rd_T49 l0 x5_1).f1.f0), .int .i64 ((rd_T49 l0 x5_1).f1.f1), .int .i64 ((rd_T49 l0 x5_1).f1.f2), .int .i64 ((rd_T49 l0 x5_1).f2)] 49 (0, 0)) (by (with_reducible repeat (first | refine blk_drewN ?_ _ | refine blk_drew ?_ | refine blk_alloc ?_ _)); exact BK303.out) hb); have n2_ := Aside0.mk (below_step (by repeat (first | (with_reducible first | exact HB.out | apply below_alloc | apply pw_below_drewN | apply below_drew1 | refine below_set ?_ (IsS70.ge HI300.out) | refine below_set ?_ GE303.out) | exact HB.out)) hb); have n3_ := Aside0.mk (hbox); have n4_ := Aside0.mk ((by rw [hg]; exact (below_size (by repeat (first | (with_reducible first | exact HB.out | apply below_alloc | apply pw_below_drewN | apply below_drew1 | refine below_set ?_ (IsS70.ge HI300.out) | refine below_set ?_ GE303.out) | exact HB.out))) : w.heap.size ≤ gb309)); have n5_ := Aside0.mk ((by rw [hg]; exact (below_size (by repeat (first | (with_reducible first | exact HB.out | apply below_alloc | apply pw_below_drewN | apply below_drew1 | refine below_set ?_ (IsS70.ge HI300.out) | refine below_set ?_ GE303.out) | exact HB.out))) : w.heap.size ≤ gb309)); have n6_ := Aside0.mk ((by rw [hg]; exact Nat.ne_of_lt (blk_lt (g := gb303) (o := .cells #[.bool ((rd_T49 l0 x5_1).f0), .int .i64 ((rd_T49 l0 x5_1).f1.f0), .int .i64 ((rd_T49 l0 x5_1).f1.f1), .int .i64 ((rd_T49 l0 x5_1).f1.f2), .int .i64 ((rd_T49 l0 x5_1).f2)] 49 (0, 0)) (by (with_reducible repeat (first | refine blk_drewN ?_ _ | refine blk_drew ?_ | refine blk_alloc ?_ _)); exact BK303.out)) : gb303 ≠ gb309)); have n7_ := Aside0.mk ((by rw [hg]; exact Nat.ne_of_gt (blk_lt (g := gb303) (o := .cells #[.bool ((rd_T49 l0 x5_1).f0), .int .i64 ((rd_T49 l0 x5_1).f1.f0), .int .i64 ((rd_T49 l0 x5_1).f1.f1), .int .i64 ((rd_T49 l0 x5_1).f1.f2), .int .i64 ((rd_T49 l0 x5_1).f2)] 49 (0, 0)) (by (with_reducible repeat (first | refine blk_drewN ?_ _ | refine blk_drew ?_ | refine blk_alloc ?_ _)); exact BK303.out)) : gb309 ≠ gb303)); have n8_ := Aside0.mk ((by rw [hg]; exact Nat.ne_of_lt (IsS70.lt (show IsS70 w _ g300 t307 t308 from by repeat (first | (with_reducible first | exact HI300.out | apply IsS70.alloc | apply IsS70.drewN | apply IsS70.drew | apply IsS70.set_0 | apply IsS70.set_1 | refine IsS70.far ?_ NB300_303.out _) | exact HI300.out))) : g300 ≠ gb309)); have n9_ := Aside0.mk ((by rw [hg]; exact Nat.ne_of_gt (IsS70.lt (show IsS70 w _ g300 t307 t308 from by repeat (first | (with_reducible first | exact HI300.out | apply IsS70.alloc | apply IsS70.drewN | apply IsS70.drew | apply IsS70.set_0 | apply IsS70.set_1 | refine IsS70.far ?_ NB300_303.out _) | exact HI300.out))) : gb309 ≠ g300)); clear HI300; clear BK303; clear HB; have HI300 := n0_; have BK303 := n1_; have HB := n2_; have BK309 := n3_; have GW309 := n4_; have GE309 := n5_; have NB303_309 := n6_; have NB309_303 := n7_; have NB300_309 := n8_; have NB309_300 := n9_; clear n0_ n1_ n2_ n3_ n4_ n5_ n6_ n7_ n8_ n9_; clear hb hbox hg; have hnb13 := NB309_303.out; have hnc13 := NB303_309.out; have hnb14 := NB309_300.out; have hnc14 := NB300_309.out; have hcz15_0 := blk_cells3 (w := w12) (g := gb309) BK309.out; have hfz15_0 := blk_frozen BK309.out) | ((with_reducible refine gate_dst (N := 8) rfl ?_); (try (refine gate_guard (by rfl) ?_; dsimp only)); refine box_event ?hg (N := 8) ?hd (cs := #[.int .i64 0, .int .i64 0, .int .i64 0]) (t := 39) ?hr ?_; (case hd => rfl); (case hg => rfl); (case hr => first | (go_simp; done) | (go_simp; rfl)); intro gb310 hg w16 hbox hb; have n0_ := Aside0.mk (IsS70.below (show IsS70 w (((w12.setCell ⟨gb309, 0, none⟩ (.int .i64 t304)).setCell ⟨gb309, 1, none⟩ (.int .i64 t305)).setCell ⟨gb309, 2, none⟩ (.int .i64 t306)) g300 t307 t308 from by repeat (first | (with_reducible first | exact HI300.out | apply IsS70.alloc | apply IsS70.drewN | apply IsS70.drew | apply IsS70.set_0 | apply IsS70.set_1 | refine IsS70.far ?_ NB300_303.out _ | refine IsS70.far ?_ NB300_309.out _) | exact HI300.out)) hb); have n1_ := Aside0.mk (blk_below (g := gb303) (o := .cells #[.bool ((rd_T49 l0 x5_1).f0), .int .i64 ((rd_T49 l0 x5_1).f1.f0), .int .i64 ((rd_T49 l0 x5_1).f1.f1), .int .i64 ((rd_T49 l0 x5_1).f1.f2), .int .i64 ((rd_T49 l0 x5_1).f2)] 49 (0, 0)) (by (with_reducible repeat (first | refine blk_drewN ?_ _ | refine blk_drew ?_ | refine blk_alloc ?_ _)); refine blk_far ?_ NB303_309.out _; (with_reducible repeat (first | refine blk_drewN ?_ _ | refine blk_drew ?_ | refine blk_alloc ?_ _)); refine blk_far ?_ NB303_309.out _; (with_reducible repeat (first | refine blk_drewN ?_ _ | refine blk_drew ?_ | refine blk_alloc ?_ _)); refine blk_far ?_ NB303_309.out _; (with_reducible repeat (first | refine blk_drewN ?_ _ | refine blk_drew ?_ | refine blk_alloc ?_ _)); exact BK303.out) hb); have n2_ := Aside0.mk (blk_below (g := gb309) (o := .cells #[.int .i64 t304, .int .i64 t305, .int .i64 t306] 39 (0, 0)) (by (with_reducible repeat (first | refine blk_drewN ?_ _ | refine blk_drew ?_ | refine blk_alloc ?_ _)); refine blk_put (cs := #[.int .i64 t304, .int .i64 t305, .int .i64 0]) ?_ 2 _ rfl; (with_reducible repeat (first | refine blk_drewN ?_ _ | refine blk_drew ?_ | refine blk_alloc ?_ _)); refine blk_put (cs := #[.int .i64 t304, .int .i64 0, .int .i64 0]) ?_ 1 _ rfl; (with_reducible repeat (first | refine blk_drewN ?_ _ | refine blk_drew ?_ | refine blk_alloc ?_ _)); refine blk_put (cs := #[.int .i64 0, .int .i64 0, .int .i64 0]) ?_ 0 _ rfl; (with_reducible repeat (first | refine blk_drewN ?_ _ | refine blk_drew ?_ | refine blk_alloc ?_ _)); exact BK309.out) hb); have n3_ := Aside0.mk (below_step (by repeat (first | (with_reducible first | exact HB.out | apply below_alloc | apply pw_below_drewN | apply below_drew1 | refine below_set ?_ (IsS70.ge HI300.out) | refine below_set ?_ GE303.out | refine below_set ?_ GE309.out) | exact HB.out)) hb); have n4_ := Aside0.mk (hbox); have n5_ := Aside0.mk ((by rw [hg]; exact (below_size (by repeat (first | (with_reducible first | exact HB.out | apply below_alloc | apply pw_below_drewN | apply below_drew1 | refine below_set ?_ (IsS70.ge HI300.out) | refine below_set ?_ GE303.out | refine below_set ?_ GE309.out) | exact HB.out))) : w.heap.size ≤ gb310)); have n6_ := Aside0.mk ((by rw [hg]; exact (below_size (by repeat (first | (with_reducible first | exact HB.out | apply below_alloc | apply pw_below_drewN | apply below_drew1 | refine below_set ?_ (IsS70.ge HI300.out) | refine below_set ?_ GE303.out | refine below_set ?_ GE309.out) | exact HB.out))) : w.heap.size ≤ gb310)); have n7_ := Aside0.mk ((by rw [hg]; exact Nat.ne_of_lt (blk_lt (g := gb303) (o := .cells #[.bool ((rd_T49 l0 x5_1).f0), .int .i64 ((rd_T49 l0 x5_1).f1.f0), .int .i64 ((rd_T49 l0 x5_1).f1.f1), .int .i64 ((rd_T49 l0 x5_1).f1.f2), .int .i64 ((rd_T49 l0 x5_1).f2)] 49 (0, 0)) (by (with_reducible repeat (first | refine blk_drewN ?_ _ | refine blk_drew ?_ | refine blk_alloc ?_ _)); refine blk_far ?_ NB303_309.out _; (with_reducible repeat (first | refine blk_drewN ?_ _ | refine blk_drew ?_ | refine blk_alloc ?_ _)); refine blk_far ?_ NB303_309.out _; (with_reducible repeat (first | refine blk_drewN ?_ _ | refine blk_drew ?_ | refine blk_alloc ?_ _)); refine blk_far ?_ NB303_309.out _; (with_reducible repeat (first | refine blk_drewN ?_ _ | refine blk_drew ?_ | refine blk_alloc ?_ _)); exact BK303.out)) : gb303 ≠ gb310)); have n8_ := Aside0.mk ((by rw [hg]; exact Nat.ne_of_gt (blk_lt (g := gb303) (o := .cells #[.bool ((rd_T49 l0 x5_1).f0), .int .i64 ((rd_T49 l0 x5_1).f1.f0), .int .i64 ((rd_T49 l0 x5_1).f1.f1), .int .i64 ((rd_T49 l0 x5_1).f1.f2), .int .i64 ((rd_T49 l0 x5_1).f2)] 49 (0, 0)) (by (with_reducible repeat (first | refine blk_drewN ?_ _ | refine blk_drew ?_ | refine blk_alloc ?_ _)); refine blk_far ?_ NB303_309.out _; (with_reducible repeat (first | refine blk_drewN ?_ _ | refine blk_drew ?_ | refine blk_alloc ?_ _)); refine blk_far ?_ NB303_309.out _; (with_reducible repeat (first | refine blk_drewN ?_ _ | refine blk_drew ?_ | refine blk_alloc ?_ _)); refine blk_far ?_ NB303_309.out _; (with_reducible repeat (first | refine blk_drewN ?_ _ | refine blk_drew ?_ | refine blk_alloc ?_ _)); exact BK303.out)) : gb310 ≠ gb303)); have n9_ := Aside0.mk ((by rw [hg]; exact Nat.ne_of_lt (blk_lt (g := gb309) (o := .cells #[.int .i64 t304, .int .i64 t305, .int .i64 t306] 39 (0, 0)) (by (with_reducible repeat (first | refine blk_drewN ?_ _ | refine blk_drew ?_ | refine blk_alloc ?_ _)); refine blk_put (cs := #[.int .i64 t304, .int .i64 t305, .int .i64 0]) ?_ 2 _ rfl; (with_reducible repeat (first | refine blk_drewN ?_ _ | refine blk_drew ?_ | refine blk_alloc ?_ _)); refine blk_put (cs := #[.int .i64 t304, .int .i64 0, .int .i64 0]) ?_ 1 _ rfl; (with_reducible repeat (first | refine blk_drewN ?_ _ | refine blk_drew ?_ | refine blk_alloc ?_ _)); refine blk_put (cs := #[.int .i64 0, .int .i64 0, .int .i64 0]) ?_ 0 _ rfl; (with_reducible repeat (first | refine blk_drewN ?_ _ | refine blk_drew ?_ | refine blk_alloc ?_ _)); exact BK309.out)) : gb309 ≠ gb310)); have n10_ := Aside0.mk ((by rw [hg]; exact Nat.ne_of_gt (blk_lt (g := gb309) (o := .cells #[.int .i64 t304, .int .i64 t305, .int .i64 t306] 39 (0, 0)) (by (with_reducible repeat (first | refine blk_drewN ?_ _ | refine blk_drew ?_ | refine blk_alloc ?_ _)); refine blk_put (cs := #[.int .i64 t304, .int .i64 t305, .int .i64 0]) ?_ 2 _ rfl; (with_reducible repeat (first | refine blk_drewN ?_ _ | refine blk_drew ?_ | refine blk_alloc ?_ _)); refine blk_put (cs := #[.int .i64 t304, .int .i64 0, .int .i64 0]) ?_ 1 _ rfl; (with_reducible repeat (first | refine blk_drewN ?_ _ | refine blk_drew ?_ | refine blk_alloc ?_ _)); refine blk_put (cs := #[.int .i64 0, .int .i64 0, .int .i64 0]) ?_ 0 _ rfl; (with_reducible repeat (first | refine blk_drewN ?_ _ | refine blk_drew ?_ | refine blk_alloc ?_ _)); exact BK309.out)) : gb310 ≠ gb309)); have n11_ := Aside0.mk ((by rw [hg]; exact Nat.ne_of_lt (IsS70.lt (show IsS70 w _ g300 t307 t308 from by repeat (first | (with_reducible first | exact HI300.out | apply IsS70.alloc | apply IsS70.drewN | apply IsS70.drew | apply IsS70.set_0 | apply IsS70.set_1 | refine IsS70.far ?_ NB300_303.out _ | refine IsS70.far ?_ NB300_309.out _) | exact HI300.out))) : g300 ≠ gb310)); have n12_ := Aside0.mk ((by rw [hg]; exact Nat.ne_of_gt (IsS70.lt (show IsS70 w _ g300 t307 t308 from by repeat (first | (with_reducible first | exact HI300.out | apply IsS70.alloc | apply IsS70.drewN | apply IsS70.drew | apply IsS70.set_0 | apply IsS70.set_1 | refine IsS70.far ?_ NB300_303.out _ | refine IsS70.far ?_ NB300_309.out _) | exact HI300.out))) : gb310 ≠ g300)); clear HI300; clear BK303; clear BK309; clear HB; have HI300 := n0_; have BK303 := n1_; have BK309 := n2_; have HB := n3_; have BK310 := n4_; have GW310 := n5_; have GE310 := n6_; have NB303_310 := n7_; have NB310_303 := n8_; have NB309_310 := n9_; have NB310_309 := n10_; have NB300_310 := n11_; have NB310_300 := n12_; clear n0_ n1_ n2_ n3_ n4_ n5_ n6_ n7_ n8_ n9_ n10_ n11_ n12_; clear hb hbox hg; have hnb17 := NB303_310.out; have hnc17 := NB310_303.out; have hcz18_0 := blk_cells5 (w := w16) (g := gb303) BK303.out; have hfz18_0 := blk_frozen BK303.out) | ((with_reducible refine gate_callee (f := 17) rfl ?_); refine goesL_ (some 40) rfl rfl Try.func17 (by kernel_rfl) rfl #[.int .i64 x4_1, .bool ((rd_T49 l0 x5_1).f0), .agg #[.int .i64 ((rd_T49 l0 x5_1).f1.f0), .int .i64 ((rd_T49 l0 x5_1).f1.f1), .int .i64 ((rd_T49 l0 x5_1).f1.f2)], .int .i64 ((rd_T49 l0 x5_1).f2)] rfl (by (try simp only [List.map_toArray, List.map_cons, List.map_nil]); first | done | rfl | (simp only [List.length_drop, List.length_take]; rfl)) ?_; (with_reducible refine (windhoverref18_Step.calls k1 x4_1 ((rd_T49 l0 x5_1).f0) ((rd_T49 l0 x5_1).f1.f0) ((rd_T49 l0 x5_1).f1.f1) ((rd_T49 l0 x5_1).f1.f2) ((rd_T49 l0 x5_1).f2) t311 t312 t313 t314 _ A7.out).mono ?_); rintro e w19 ⟨rfl, hb⟩; refine ⟨_, rfl, ?_⟩; have n0_ := Aside0.mk (IsS70.below (by repeat (first | (with_reducible first | exact HI300.out | apply IsS70.alloc | apply IsS70.drewN | apply IsS70.drew | apply IsS70.set_0 | apply IsS70.set_1 | refine IsS70.far ?_ NB300_303.out _ | refine IsS70.far ?_ NB300_309.out _ | refine IsS70.far ?_ NB300_310.out _) | exact HI300.out)) hb); have n1_ := Aside0.mk (blk_below (g := gb303) (o := .cells #[.bool ((rd_T49 l0 x5_1).f0), .int .i64 ((rd_T49 l0 x5_1).f1.f0), .int .i64 ((rd_T49 l0 x5_1).f1.f1), .int .i64 ((rd_T49 l0 x5_1).f1.f2), .int .i64 ((rd_T49 l0 x5_1).f2)] 49 (0, 0)) (by (with_reducible repeat (first | refine blk_drewN ?_ _ | refine blk_drew ?_ | refine blk_alloc ?_ _)); exact BK303.out) hb); have n2_ := Aside0.mk (blk_below (g := gb309) (o := .cells #[.int .i64 t304, .int .i64 t305, .int .i64 t306] 39 (0, 0)) (by (with_reducible repeat (first | refine blk_drewN ?_ _ | refine blk_drew ?_ | refine blk_alloc ?_ _)); exact BK309.out) hb); have n3_ := Aside0.mk (blk_below (g := gb310) (o := .cells #[.int .i64 0, .int .i64 0, .int .i64 0] 39 (0, 0)) (by (with_reducible repeat (first | refine blk_drewN ?_ _ | refine blk_drew ?_ | refine blk_alloc ?_ _)); exact BK310.out) hb); have n4_ := Aside0.mk (below_step (by repeat (first | (with_reducible first | exact HB.out | apply below_alloc | apply pw_below_drewN | apply below_drew1 | refine below_set ?_ (IsS70.ge HI300.out) | refine below_set ?_ GE303.out | refine below_set ?_ GE309.out | refine below_set ?_ GE310.out) | exact HB.out)) hb); clear HI300; clear BK303; clear BK309; clear BK310; clear HB; have HI300 := n0_; have BK303 := n1_; have BK309 := n2_; have BK310 := n3_; have HB := n4_; clear n0_ n1_ n2_ n3_ n4_; (try clear hb); (try clear hb2); (try clear hk); (try clear hi); have hnb20 := NB310_309.out; have hnc20 := NB309_310.out; have hnb21 := NB310_300.out; have hnc21 := NB300_310.out; have hcz22_0 := blk_cells3 (w := w19) (g := gb310) BK310.out; have hfz22_0 := blk_frozen BK310.out))
          go_loopg [9, 10] k1 (fun kq v9 v10 w' => ∃ (x9_2 : Bool) (x10_2 : Int), v9 = .bool x9_2 ∧ v10 = .int .i64 x10_2 ∧ Aside0 (windhoverlaw18_GuardAsks.l1 kq l0 t314 x5_1 x9_2 x10_2 t307 t308 ((rd_T49 l0 x5_1).f0) ((rd_T49 l0 x5_1).f1.f0) ((rd_T49 l0 x5_1).f1.f1) ((rd_T49 l0 x5_1).f1.f2) ((rd_T49 l0 x5_1).f2) t304 t305 t306 t311 t312 t313 = some r) ∧ Aside0 (kq ≤ k1) ∧ Aside0 (w'.heap[gb303]? = some (.cells #[.bool ((rd_T49 l0 x5_1).f0), .int .i64 ((rd_T49 l0 x5_1).f1.f0), .int .i64 ((rd_T49 l0 x5_1).f1.f1), .int .i64 ((rd_T49 l0 x5_1).f1.f2), .int .i64 ((rd_T49 l0 x5_1).f2)] 49 (0, 0))) ∧ Aside0 (w'.heap[gb309]? = some (.cells #[.int .i64 t304, .int .i64 t305, .int .i64 t306] 39 (0, 0))) ∧ Aside0 (w'.heap[gb310]? = some (.cells #[.int .i64 t311, .int .i64 t312, .int .i64 t313] 39 (0, 0))) ∧ Aside0 (IsS70 w w' g300 t307 t308) ∧ Aside0 (Below w.heap.size w w'))
          case atStart => exact ⟨(true), (0), (by first | rfl | (simp; done) | (simp [*]; done)), (by first | rfl | (simp; done) | (simp [*]; done)), H', ⟨Nat.le_refl _⟩, ⟨by (with_reducible repeat (first | refine blk_drewN ?_ _ | refine blk_drew ?_ | refine blk_alloc ?_ _)); refine blk_far ?_ NB303_310.out _; (with_reducible repeat (first | refine blk_drewN ?_ _ | refine blk_drew ?_ | refine blk_alloc ?_ _)); refine blk_far ?_ NB303_310.out _; (with_reducible repeat (first | refine blk_drewN ?_ _ | refine blk_drew ?_ | refine blk_alloc ?_ _)); refine blk_far ?_ NB303_310.out _; (with_reducible repeat (first | refine blk_drewN ?_ _ | refine blk_drew ?_ | refine blk_alloc ?_ _)); exact BK303.out⟩, ⟨by (with_reducible repeat (first | refine blk_drewN ?_ _ | refine blk_drew ?_ | refine blk_alloc ?_ _)); refine blk_far ?_ NB309_310.out _; (with_reducible repeat (first | refine blk_drewN ?_ _ | refine blk_drew ?_ | refine blk_alloc ?_ _)); refine blk_far ?_ NB309_310.out _; (with_reducible repeat (first | refine blk_drewN ?_ _ | refine blk_drew ?_ | refine blk_alloc ?_ _)); refine blk_far ?_ NB309_310.out _; (with_reducible repeat (first | refine blk_drewN ?_ _ | refine blk_drew ?_ | refine blk_alloc ?_ _)); exact BK309.out⟩, ⟨by (with_reducible repeat (first | refine blk_drewN ?_ _ | refine blk_drew ?_ | refine blk_alloc ?_ _)); refine blk_put (cs := #[.int .i64 t311, .int .i64 t312, .int .i64 0]) ?_ 2 _ rfl; (with_reducible repeat (first | refine blk_drewN ?_ _ | refine blk_drew ?_ | refine blk_alloc ?_ _)); refine blk_put (cs := #[.int .i64 t311, .int .i64 0, .int .i64 0]) ?_ 1 _ rfl; (with_reducible repeat (first | refine blk_drewN ?_ _ | refine blk_drew ?_ | refine blk_alloc ?_ _)); refine blk_put (cs := #[.int .i64 0, .int .i64 0, .int .i64 0]) ?_ 0 _ rfl; (with_reducible repeat (first | refine blk_drewN ?_ _ | refine blk_drew ?_ | refine blk_alloc ?_ _)); exact BK310.out⟩, ⟨by repeat (first | (with_reducible first | exact HI300.out | apply IsS70.alloc | apply IsS70.drewN | apply IsS70.drew | apply IsS70.set_0 | apply IsS70.set_1 | refine IsS70.far ?_ NB300_303.out _ | refine IsS70.far ?_ NB300_309.out _ | refine IsS70.far ?_ NB300_310.out _) | exact HI300.out)⟩, ⟨by repeat (first | (with_reducible first | exact HB.out | apply below_alloc | apply pw_below_drewN | apply below_drew1 | refine below_set ?_ (IsS70.ge HI300.out) | refine below_set ?_ GE303.out | refine below_set ?_ GE309.out | refine below_set ?_ GE310.out) | exact HB.out)⟩⟩
          case round =>
            clear H'
            try clear c1
            try clear c2
            try clear p2
            try clear p3
            try clear q3
            try clear hx3
            try clear c4
            try clear c4b0
            try clear c5
            try clear c5b0
            try clear c7
            try clear c9
            try clear c13
            try clear c14
            try clear c16
            try clear c17
            try clear c20
            try clear c21
            try clear hcz10_0
            try clear hcz15_0
            try clear hcz18_0
            try clear hcz22_0
            try clear hfz10_0
            try clear hfz15_0
            try clear hfz18_0
            try clear hfz22_0
            try clear hx302_0
            try clear hx302_1
            try clear hx302_2
            try clear hx302_3
            try clear hx302_4
            try clear p2
            try clear p302
            try clear q302
            obtain ⟨x9_2, x10_2, rfl, rfl, HA, HK2, BK303, BK309, BK310, HI300, HB⟩ := hrel
            cases gk with
            | zero => exact absurd HA.out (by simp [windhoverlaw18_GuardAsks.l1])
            | succ k2 =>
              have H := HA.out
              clear HA
              simp only [windhoverlaw18_GuardAsks.l1] at H
              by_cases c23 : x10_2 < 3
              · rw [if_pos c23] at H
                have c23b0 : decide (x10_2 < 3) = true := decide_eq_true c23
                clear c23
                by_cases c24 : x10_2 = 0
                · subst c24
                  have H1 : (if ((rd_T49 l0 x5_1).f1.f0) < (-64) then (windhoverlaw18_GuardAsks.l1 k2 l0 t314 x5_1 false 1 t307 t308 ((rd_T49 l0 x5_1).f0) ((rd_T49 l0 x5_1).f1.f0) ((rd_T49 l0 x5_1).f1.f1) ((rd_T49 l0 x5_1).f1.f2) ((rd_T49 l0 x5_1).f2) t304 t305 t306 t311 t312 t313) else (if ((rd_T49 l0 x5_1).f1.f0) > 64 then (windhoverlaw18_GuardAsks.l1 k2 l0 t314 x5_1 false 1 t307 t308 ((rd_T49 l0 x5_1).f0) ((rd_T49 l0 x5_1).f1.f0) ((rd_T49 l0 x5_1).f1.f1) ((rd_T49 l0 x5_1).f1.f2) ((rd_T49 l0 x5_1).f2) t304 t305 t306 t311 t312 t313) else (windhoverlaw18_GuardAsks.l1 k2 l0 t314 x5_1 x9_2 1 t307 t308 ((rd_T49 l0 x5_1).f0) ((rd_T49 l0 x5_1).f1.f0) ((rd_T49 l0 x5_1).f1.f1) ((rd_T49 l0 x5_1).f1.f2) ((rd_T49 l0 x5_1).f2) t304 t305 t306 t311 t312 t313))) = some r := by rw [if_pos rfl] at H; exact H
                  clear H
                  have H := H1
                  clear H1
                  by_cases c25 : ((rd_T49 l0 x5_1).f1.f0) < (-64)
                  · rw [if_pos c25] at H
                    have c25b0 : decide (((rd_T49 l0 x5_1).f1.f0) < (-64)) = true := decide_eq_true c25
                    clear c25
                    have H' := Aside0.mk H
                    clear H
                    have hnb26 := NB303_309.out
                    have hnc26 := NB309_303.out
                    have hnb27 := NB303_310.out
                    have hnc27 := NB310_303.out
                    have hnb28 := NB303_300.out
                    have hnc28 := NB300_303.out
                    have hcz29_0 := blk_cells5 (w := wr) (g := gb303) BK303.out
                    have hfz29_0 := blk_frozen BK303.out
                    go_wp2
                    go_roundg k2
                    case measure => have := HK1.out; have := HK2.out; omega
                    case rel => exact ⟨(false), (1), (by first | rfl | (simp; done) | (simp [*]; done)), (by first | rfl | (simp; done) | (simp [*]; done)), H', ⟨by have := HK1.out; have := HK2.out; omega⟩, ⟨by (with_reducible repeat (first | refine blk_drewN ?_ _ | refine blk_drew ?_ | refine blk_alloc ?_ _)); exact BK303.out⟩, ⟨by (with_reducible repeat (first | refine blk_drewN ?_ _ | refine blk_drew ?_ | refine blk_alloc ?_ _)); exact BK309.out⟩, ⟨by (with_reducible repeat (first | refine blk_drewN ?_ _ | refine blk_drew ?_ | refine blk_alloc ?_ _)); exact BK310.out⟩, ⟨by repeat (first | (with_reducible first | exact HI300.out | apply IsS70.alloc | apply IsS70.drewN | apply IsS70.drew | apply IsS70.set_0 | apply IsS70.set_1 | refine IsS70.far ?_ NB300_303.out _ | refine IsS70.far ?_ NB300_309.out _ | refine IsS70.far ?_ NB300_310.out _) | exact HI300.out)⟩, ⟨by repeat (first | (with_reducible first | exact HB.out | apply below_alloc | apply pw_below_drewN | apply below_drew1 | refine below_set ?_ (IsS70.ge HI300.out) | refine below_set ?_ GE303.out | refine below_set ?_ GE309.out | refine below_set ?_ GE310.out) | exact HB.out)⟩⟩
                  · rw [if_neg c25] at H
                    have c25b0 : decide (((rd_T49 l0 x5_1).f1.f0) < (-64)) = false := decide_eq_false c25
                    clear c25
                    by_cases c30 : ((rd_T49 l0 x5_1).f1.f0) > 64
                    · rw [if_pos c30] at H
                      have c30b0 : decide (64 < ((rd_T49 l0 x5_1).f1.f0)) = true := decide_eq_true c30
                      clear c30
                      have H' := Aside0.mk H
                      clear H
                      have hnb31 := NB303_309.out
                      have hnc31 := NB309_303.out
                      have hnb32 := NB303_310.out
                      have hnc32 := NB310_303.out
                      have hnb33 := NB303_300.out
                      have hnc33 := NB300_303.out
                      have hcz34_0 := blk_cells5 (w := wr) (g := gb303) BK303.out
                      have hfz34_0 := blk_frozen BK303.out
                      go_wp2
                      go_roundg k2
                      case measure => have := HK1.out; have := HK2.out; omega
                      case rel => exact ⟨(false), (1), (by first | rfl | (simp; done) | (simp [*]; done)), (by first | rfl | (simp; done) | (simp [*]; done)), H', ⟨by have := HK1.out; have := HK2.out; omega⟩, ⟨by (with_reducible repeat (first | refine blk_drewN ?_ _ | refine blk_drew ?_ | refine blk_alloc ?_ _)); exact BK303.out⟩, ⟨by (with_reducible repeat (first | refine blk_drewN ?_ _ | refine blk_drew ?_ | refine blk_alloc ?_ _)); exact BK309.out⟩, ⟨by (with_reducible repeat (first | refine blk_drewN ?_ _ | refine blk_drew ?_ | refine blk_alloc ?_ _)); exact BK310.out⟩, ⟨by repeat (first | (with_reducible first | exact HI300.out | apply IsS70.alloc | apply IsS70.drewN | apply IsS70.drew | apply IsS70.set_0 | apply IsS70.set_1 | refine IsS70.far ?_ NB300_303.out _ | refine IsS70.far ?_ NB300_309.out _ | refine IsS70.far ?_ NB300_310.out _) | exact HI300.out)⟩, ⟨by repeat (first | (with_reducible first | exact HB.out | apply below_alloc | apply pw_below_drewN | apply below_drew1 | refine below_set ?_ (IsS70.ge HI300.out) | refine below_set ?_ GE303.out | refine below_set ?_ GE309.out | refine below_set ?_ GE310.out) | exact HB.out)⟩⟩
                    · rw [if_neg c30] at H
                      have c30b0 : decide (64 < ((rd_T49 l0 x5_1).f1.f0)) = false := decide_eq_false c30
                      clear c30
                      have H' := Aside0.mk H
                      clear H
                      have hnb35 := NB303_309.out
                      have hnc35 := NB309_303.out
                      have hnb36 := NB303_310.out
                      have hnc36 := NB310_303.out
                      have hnb37 := NB303_300.out
                      have hnc37 := NB300_303.out
                      have hcz38_0 := blk_cells5 (w := wr) (g := gb303) BK303.out
                      have hfz38_0 := blk_frozen BK303.out
                      go_wp2
                      go_roundg k2
                      case measure => have := HK1.out; have := HK2.out; omega
                      case rel => exact ⟨(x9_2), (1), (by first | rfl | (simp; done) | (simp [*]; done)), (by first | rfl | (simp; done) | (simp [*]; done)), H', ⟨by have := HK1.out; have := HK2.out; omega⟩, ⟨by (with_reducible repeat (first | refine blk_drewN ?_ _ | refine blk_drew ?_ | refine blk_alloc ?_ _)); exact BK303.out⟩, ⟨by (with_reducible repeat (first | refine blk_drewN ?_ _ | refine blk_drew ?_ | refine blk_alloc ?_ _)); exact BK309.out⟩, ⟨by (with_reducible repeat (first | refine blk_drewN ?_ _ | refine blk_drew ?_ | refine blk_alloc ?_ _)); exact BK310.out⟩, ⟨by repeat (first | (with_reducible first | exact HI300.out | apply IsS70.alloc | apply IsS70.drewN | apply IsS70.drew | apply IsS70.set_0 | apply IsS70.set_1 | refine IsS70.far ?_ NB300_303.out _ | refine IsS70.far ?_ NB300_309.out _ | refine IsS70.far ?_ NB300_310.out _) | exact HI300.out)⟩, ⟨by repeat (first | (with_reducible first | exact HB.out | apply below_alloc | apply pw_below_drewN | apply below_drew1 | refine below_set ?_ (IsS70.ge HI300.out) | refine below_set ?_ GE303.out | refine below_set ?_ GE309.out | refine below_set ?_ GE310.out) | exact HB.out)⟩⟩
                rw [if_neg c24] at H
                by_cases c39 : x10_2 = 1
                · subst c39
                  have H1 : (if ((rd_T49 l0 x5_1).f1.f1) < (-64) then (windhoverlaw18_GuardAsks.l1 k2 l0 t314 x5_1 false 2 t307 t308 ((rd_T49 l0 x5_1).f0) ((rd_T49 l0 x5_1).f1.f0) ((rd_T49 l0 x5_1).f1.f1) ((rd_T49 l0 x5_1).f1.f2) ((rd_T49 l0 x5_1).f2) t304 t305 t306 t311 t312 t313) else (if ((rd_T49 l0 x5_1).f1.f1) > 64 then (windhoverlaw18_GuardAsks.l1 k2 l0 t314 x5_1 false 2 t307 t308 ((rd_T49 l0 x5_1).f0) ((rd_T49 l0 x5_1).f1.f0) ((rd_T49 l0 x5_1).f1.f1) ((rd_T49 l0 x5_1).f1.f2) ((rd_T49 l0 x5_1).f2) t304 t305 t306 t311 t312 t313) else (windhoverlaw18_GuardAsks.l1 k2 l0 t314 x5_1 x9_2 2 t307 t308 ((rd_T49 l0 x5_1).f0) ((rd_T49 l0 x5_1).f1.f0) ((rd_T49 l0 x5_1).f1.f1) ((rd_T49 l0 x5_1).f1.f2) ((rd_T49 l0 x5_1).f2) t304 t305 t306 t311 t312 t313))) = some r := by rw [if_pos rfl] at H; exact H
                  clear H
                  have H := H1
                  clear H1
                  by_cases c40 : ((rd_T49 l0 x5_1).f1.f1) < (-64)
                  · rw [if_pos c40] at H
                    have c40b0 : decide (((rd_T49 l0 x5_1).f1.f1) < (-64)) = true := decide_eq_true c40
                    clear c40
                    have H' := Aside0.mk H
                    clear H
                    have hnb41 := NB303_309.out
                    have hnc41 := NB309_303.out
                    have hnb42 := NB303_310.out
                    have hnc42 := NB310_303.out
                    have hnb43 := NB303_300.out
                    have hnc43 := NB300_303.out
                    have hcz44_0 := blk_cells5 (w := wr) (g := gb303) BK303.out
                    have hfz44_0 := blk_frozen BK303.out
                    go_wp2
                    go_roundg k2
                    case measure => have := HK1.out; have := HK2.out; omega
                    case rel => exact ⟨(false), (2), (by first | rfl | (simp; done) | (simp [*]; done)), (by first | rfl | (simp; done) | (simp [*]; done)), H', ⟨by have := HK1.out; have := HK2.out; omega⟩, ⟨by (with_reducible repeat (first | refine blk_drewN ?_ _ | refine blk_drew ?_ | refine blk_alloc ?_ _)); exact BK303.out⟩, ⟨by (with_reducible repeat (first | refine blk_drewN ?_ _ | refine blk_drew ?_ | refine blk_alloc ?_ _)); exact BK309.out⟩, ⟨by (with_reducible repeat (first | refine blk_drewN ?_ _ | refine blk_drew ?_ | refine blk_alloc ?_ _)); exact BK310.out⟩, ⟨by repeat (first | (with_reducible first | exact HI300.out | apply IsS70.alloc | apply IsS70.drewN | apply IsS70.drew | apply IsS70.set_0 | apply IsS70.set_1 | refine IsS70.far ?_ NB300_303.out _ | refine IsS70.far ?_ NB300_309.out _ | refine IsS70.far ?_ NB300_310.out _) | exact HI300.out)⟩, ⟨by repeat (first | (with_reducible first | exact HB.out | apply below_alloc | apply pw_below_drewN | apply below_drew1 | refine below_set ?_ (IsS70.ge HI300.out) | refine below_set ?_ GE303.out | refine below_set ?_ GE309.out | refine below_set ?_ GE310.out) | exact HB.out)⟩⟩
                  · rw [if_neg c40] at H
                    have c40b0 : decide (((rd_T49 l0 x5_1).f1.f1) < (-64)) = false := decide_eq_false c40
                    clear c40
                    by_cases c45 : ((rd_T49 l0 x5_1).f1.f1) > 64
                    · rw [if_pos c45] at H
                      have c45b0 : decide (64 < ((rd_T49 l0 x5_1).f1.f1)) = true := decide_eq_true c45
                      clear c45
                      have H' := Aside0.mk H
                      clear H
                      have hnb46 := NB303_309.out
                      have hnc46 := NB309_303.out
                      have hnb47 := NB303_310.out
                      have hnc47 := NB310_303.out
                      have hnb48 := NB303_300.out
                      have hnc48 := NB300_303.out
                      have hcz49_0 := blk_cells5 (w := wr) (g := gb303) BK303.out
                      have hfz49_0 := blk_frozen BK303.out
                      go_wp2
                      go_roundg k2
                      case measure => have := HK1.out; have := HK2.out; omega
                      case rel => exact ⟨(false), (2), (by first | rfl | (simp; done) | (simp [*]; done)), (by first | rfl | (simp; done) | (simp [*]; done)), H', ⟨by have := HK1.out; have := HK2.out; omega⟩, ⟨by (with_reducible repeat (first | refine blk_drewN ?_ _ | refine blk_drew ?_ | refine blk_alloc ?_ _)); exact BK303.out⟩, ⟨by (with_reducible repeat (first | refine blk_drewN ?_ _ | refine blk_drew ?_ | refine blk_alloc ?_ _)); exact BK309.out⟩, ⟨by (with_reducible repeat (first | refine blk_drewN ?_ _ | refine blk_drew ?_ | refine blk_alloc ?_ _)); exact BK310.out⟩, ⟨by repeat (first | (with_reducible first | exact HI300.out | apply IsS70.alloc | apply IsS70.drewN | apply IsS70.drew | apply IsS70.set_0 | apply IsS70.set_1 | refine IsS70.far ?_ NB300_303.out _ | refine IsS70.far ?_ NB300_309.out _ | refine IsS70.far ?_ NB300_310.out _) | exact HI300.out)⟩, ⟨by repeat (first | (with_reducible first | exact HB.out | apply below_alloc | apply pw_below_drewN | apply below_drew1 | refine below_set ?_ (IsS70.ge HI300.out) | refine below_set ?_ GE303.out | refine below_set ?_ GE309.out | refine below_set ?_ GE310.out) | exact HB.out)⟩⟩
                    · rw [if_neg c45] at H
                      have c45b0 : decide (64 < ((rd_T49 l0 x5_1).f1.f1)) = false := decide_eq_false c45
                      clear c45
                      have H' := Aside0.mk H
                      clear H
                      have hnb50 := NB303_309.out
                      have hnc50 := NB309_303.out
                      have hnb51 := NB303_310.out
                      have hnc51 := NB310_303.out
                      have hnb52 := NB303_300.out
                      have hnc52 := NB300_303.out
                      have hcz53_0 := blk_cells5 (w := wr) (g := gb303) BK303.out
                      have hfz53_0 := blk_frozen BK303.out
                      go_wp2
                      go_roundg k2
                      case measure => have := HK1.out; have := HK2.out; omega
                      case rel => exact ⟨(x9_2), (2), (by first | rfl | (simp; done) | (simp [*]; done)), (by first | rfl | (simp; done) | (simp [*]; done)), H', ⟨by have := HK1.out; have := HK2.out; omega⟩, ⟨by (with_reducible repeat (first | refine blk_drewN ?_ _ | refine blk_drew ?_ | refine blk_alloc ?_ _)); exact BK303.out⟩, ⟨by (with_reducible repeat (first | refine blk_drewN ?_ _ | refine blk_drew ?_ | refine blk_alloc ?_ _)); exact BK309.out⟩, ⟨by (with_reducible repeat (first | refine blk_drewN ?_ _ | refine blk_drew ?_ | refine blk_alloc ?_ _)); exact BK310.out⟩, ⟨by repeat (first | (with_reducible first | exact HI300.out | apply IsS70.alloc | apply IsS70.drewN | apply IsS70.drew | apply IsS70.set_0 | apply IsS70.set_1 | refine IsS70.far ?_ NB300_303.out _ | refine IsS70.far ?_ NB300_309.out _ | refine IsS70.far ?_ NB300_310.out _) | exact HI300.out)⟩, ⟨by repeat (first | (with_reducible first | exact HB.out | apply below_alloc | apply pw_below_drewN | apply below_drew1 | refine below_set ?_ (IsS70.ge HI300.out) | refine below_set ?_ GE303.out | refine below_set ?_ GE309.out | refine below_set ?_ GE310.out) | exact HB.out)⟩⟩
                rw [if_neg c39] at H
                by_cases c54 : x10_2 = 2
                · subst c54
                  have H1 : (if ((rd_T49 l0 x5_1).f1.f2) < (-64) then (windhoverlaw18_GuardAsks.l1 k2 l0 t314 x5_1 false 3 t307 t308 ((rd_T49 l0 x5_1).f0) ((rd_T49 l0 x5_1).f1.f0) ((rd_T49 l0 x5_1).f1.f1) ((rd_T49 l0 x5_1).f1.f2) ((rd_T49 l0 x5_1).f2) t304 t305 t306 t311 t312 t313) else (if ((rd_T49 l0 x5_1).f1.f2) > 64 then (windhoverlaw18_GuardAsks.l1 k2 l0 t314 x5_1 false 3 t307 t308 ((rd_T49 l0 x5_1).f0) ((rd_T49 l0 x5_1).f1.f0) ((rd_T49 l0 x5_1).f1.f1) ((rd_T49 l0 x5_1).f1.f2) ((rd_T49 l0 x5_1).f2) t304 t305 t306 t311 t312 t313) else (windhoverlaw18_GuardAsks.l1 k2 l0 t314 x5_1 x9_2 3 t307 t308 ((rd_T49 l0 x5_1).f0) ((rd_T49 l0 x5_1).f1.f0) ((rd_T49 l0 x5_1).f1.f1) ((rd_T49 l0 x5_1).f1.f2) ((rd_T49 l0 x5_1).f2) t304 t305 t306 t311 t312 t313))) = some r := by rw [if_pos rfl] at H; exact H
                  clear H
                  have H := H1
                  clear H1
                  by_cases c55 : ((rd_T49 l0 x5_1).f1.f2) < (-64)
                  · rw [if_pos c55] at H
                    have c55b0 : decide (((rd_T49 l0 x5_1).f1.f2) < (-64)) = true := decide_eq_true c55
                    clear c55
                    have H' := Aside0.mk H
                    clear H
                    have hnb56 := NB303_309.out
                    have hnc56 := NB309_303.out
                    have hnb57 := NB303_310.out
                    have hnc57 := NB310_303.out
                    have hnb58 := NB303_300.out
                    have hnc58 := NB300_303.out
                    have hcz59_0 := blk_cells5 (w := wr) (g := gb303) BK303.out
                    have hfz59_0 := blk_frozen BK303.out
                    go_wp2
                    go_roundg k2
                    case measure => have := HK1.out; have := HK2.out; omega
                    case rel => exact ⟨(false), (3), (by first | rfl | (simp; done) | (simp [*]; done)), (by first | rfl | (simp; done) | (simp [*]; done)), H', ⟨by have := HK1.out; have := HK2.out; omega⟩, ⟨by (with_reducible repeat (first | refine blk_drewN ?_ _ | refine blk_drew ?_ | refine blk_alloc ?_ _)); exact BK303.out⟩, ⟨by (with_reducible repeat (first | refine blk_drewN ?_ _ | refine blk_drew ?_ | refine blk_alloc ?_ _)); exact BK309.out⟩, ⟨by (with_reducible repeat (first | refine blk_drewN ?_ _ | refine blk_drew ?_ | refine blk_alloc ?_ _)); exact BK310.out⟩, ⟨by repeat (first | (with_reducible first | exact HI300.out | apply IsS70.alloc | apply IsS70.drewN | apply IsS70.drew | apply IsS70.set_0 | apply IsS70.set_1 | refine IsS70.far ?_ NB300_303.out _ | refine IsS70.far ?_ NB300_309.out _ | refine IsS70.far ?_ NB300_310.out _) | exact HI300.out)⟩, ⟨by repeat (first | (with_reducible first | exact HB.out | apply below_alloc | apply pw_below_drewN | apply below_drew1 | refine below_set ?_ (IsS70.ge HI300.out) | refine below_set ?_ GE303.out | refine below_set ?_ GE309.out | refine below_set ?_ GE310.out) | exact HB.out)⟩⟩
                  · rw [if_neg c55] at H
                    have c55b0 : decide (((rd_T49 l0 x5_1).f1.f2) < (-64)) = false := decide_eq_false c55
                    clear c55
                    by_cases c60 : ((rd_T49 l0 x5_1).f1.f2) > 64
                    · rw [if_pos c60] at H
                      have c60b0 : decide (64 < ((rd_T49 l0 x5_1).f1.f2)) = true := decide_eq_true c60
                      clear c60
                      have H' := Aside0.mk H
                      clear H
                      have hnb61 := NB303_309.out
                      have hnc61 := NB309_303.out
                      have hnb62 := NB303_310.out
                      have hnc62 := NB310_303.out
                      have hnb63 := NB303_300.out
                      have hnc63 := NB300_303.out
                      have hcz64_0 := blk_cells5 (w := wr) (g := gb303) BK303.out
                      have hfz64_0 := blk_frozen BK303.out
                      go_wp2
                      go_roundg k2
                      case measure => have := HK1.out; have := HK2.out; omega
                      case rel => exact ⟨(false), (3), (by first | rfl | (simp; done) | (simp [*]; done)), (by first | rfl | (simp; done) | (simp [*]; done)), H', ⟨by have := HK1.out; have := HK2.out; omega⟩, ⟨by (with_reducible repeat (first | refine blk_drewN ?_ _ | refine blk_drew ?_ | refine blk_alloc ?_ _)); exact BK303.out⟩, ⟨by (with_reducible repeat (first | refine blk_drewN ?_ _ | refine blk_drew ?_ | refine blk_alloc ?_ _)); exact BK309.out⟩, ⟨by (with_reducible repeat (first | refine blk_drewN ?_ _ | refine blk_drew ?_ | refine blk_alloc ?_ _)); exact BK310.out⟩, ⟨by repeat (first | (with_reducible first | exact HI300.out | apply IsS70.alloc | apply IsS70.drewN | apply IsS70.drew | apply IsS70.set_0 | apply IsS70.set_1 | refine IsS70.far ?_ NB300_303.out _ | refine IsS70.far ?_ NB300_309.out _ | refine IsS70.far ?_ NB300_310.out _) | exact HI300.out)⟩, ⟨by repeat (first | (with_reducible first | exact HB.out | apply below_alloc | apply pw_below_drewN | apply below_drew1 | refine below_set ?_ (IsS70.ge HI300.out) | refine below_set ?_ GE303.out | refine below_set ?_ GE309.out | refine below_set ?_ GE310.out) | exact HB.out)⟩⟩
                    · rw [if_neg c60] at H
                      have c60b0 : decide (64 < ((rd_T49 l0 x5_1).f1.f2)) = false := decide_eq_false c60
                      clear c60
                      have H' := Aside0.mk H
                      clear H
                      have hnb65 := NB303_309.out
                      have hnc65 := NB309_303.out
                      have hnb66 := NB303_310.out
                      have hnc66 := NB310_303.out
                      have hnb67 := NB303_300.out
                      have hnc67 := NB300_303.out
                      have hcz68_0 := blk_cells5 (w := wr) (g := gb303) BK303.out
                      have hfz68_0 := blk_frozen BK303.out
                      go_wp2
                      go_roundg k2
                      case measure => have := HK1.out; have := HK2.out; omega
                      case rel => exact ⟨(x9_2), (3), (by first | rfl | (simp; done) | (simp [*]; done)), (by first | rfl | (simp; done) | (simp [*]; done)), H', ⟨by have := HK1.out; have := HK2.out; omega⟩, ⟨by (with_reducible repeat (first | refine blk_drewN ?_ _ | refine blk_drew ?_ | refine blk_alloc ?_ _)); exact BK303.out⟩, ⟨by (with_reducible repeat (first | refine blk_drewN ?_ _ | refine blk_drew ?_ | refine blk_alloc ?_ _)); exact BK309.out⟩, ⟨by (with_reducible repeat (first | refine blk_drewN ?_ _ | refine blk_drew ?_ | refine blk_alloc ?_ _)); exact BK310.out⟩, ⟨by repeat (first | (with_reducible first | exact HI300.out | apply IsS70.alloc | apply IsS70.drewN | apply IsS70.drew | apply IsS70.set_0 | apply IsS70.set_1 | refine IsS70.far ?_ NB300_303.out _ | refine IsS70.far ?_ NB300_309.out _ | refine IsS70.far ?_ NB300_310.out _) | exact HI300.out)⟩, ⟨by repeat (first | (with_reducible first | exact HB.out | apply below_alloc | apply pw_below_drewN | apply below_drew1 | refine below_set ?_ (IsS70.ge HI300.out) | refine below_set ?_ GE303.out | refine below_set ?_ GE309.out | refine below_set ?_ GE310.out) | exact HB.out)⟩⟩
                rw [if_neg c54] at H
                exact absurd H (by simp)
              · rw [if_neg c23] at H
                have c23b0 : decide (x10_2 < 3) = false := decide_eq_false c23
                clear c23
                by_cases c69 : (!(t304 == t311) || (!(t305 == t312) || (!(t306 == t313)))) = true
                · rw [if_pos c69] at H
                  have c69b0 : (!(t304 == t311) || (!(t305 == t312) || (!(t306 == t313)))) = true := c69
                  clear c69
                  exact absurd H (by simp)
                · rw [if_neg c69] at H
                  have c69b0 : (!(t304 == t311) || (!(t305 == t312) || (!(t306 == t313)))) = false := by simpa using c69
                  clear c69
                  replace H := Option.bind_eq_some_iff.mp H
                  obtain ⟨⟨t315, t316, t317⟩, A700, H⟩ := H
                  replace H : (if (t315 != (decide (t314 ≤ (wrap64 (-(mx ((rd_T49 l0 x5_1).f2) 0)))))) = true then (none) else ((guard_Slow.f k2 ((rd_T49 l0 x5_1).f1.f0) ((rd_T49 l0 x5_1).f1.f1) ((rd_T49 l0 x5_1).f1.f2)).bind fun t318 => (if (t318 != x9_2) = true then (none) else (windhoverlaw18_GuardAsks.l0 k2 l0 t314 (wrap64 (x5_1 + 1)) t316 t317)))) = some r := H
                  have A70 := Aside0.mk A700
                  clear A700
                  obtain ⟨ji71, hji71⟩ : ∃ j_ : Int, (mx ((rd_T49 l0 x5_1).f2) 0) = j_ := ⟨_, rfl⟩
                  replace H : (if (t315 != (decide (t314 ≤ (wrap64 (-(ji71)))))) = true then (none) else ((guard_Slow.f k2 ((rd_T49 l0 x5_1).f1.f0) ((rd_T49 l0 x5_1).f1.f1) ((rd_T49 l0 x5_1).f1.f2)).bind fun t318 => (if (t318 != x9_2) = true then (none) else (windhoverlaw18_GuardAsks.l0 k2 l0 t314 (wrap64 (x5_1 + 1)) t316 t317)))) = some r := by first | (rw [hji71] at H; exact H) | (simp only [hji71] at H ⊢; exact H)
                  (try rw [hji71] at A70)
                  have hji71_ : (if ((rd_T49 l0 x5_1).f2) < 0 then 0 else ((rd_T49 l0 x5_1).f2)) = ji71 := hji71
                  by_cases c72 : (t315 != (decide (t314 ≤ (wrap64 (-(ji71)))))) = true
                  · rw [if_pos c72] at H
                    have c72b0 : (t315 != (decide (t314 ≤ (wrap64 (-(ji71)))))) = true := c72
                    (try (have c72b1 : decide (t315 = (decide (t314 ≤ (wrap64 (-(ji71)))))) = false := by simpa using c72))
                    (try (have c72b2 : (t315 == (decide (t314 ≤ (wrap64 (-(ji71)))))) = false := by simpa using c72))
                    (try (have c72b3 : ¬ (t315 = (decide (t314 ≤ (wrap64 (-(ji71)))))) := by simpa using c72))
                    clear c72
                    exact absurd H (by simp)
                  · rw [if_neg c72] at H
                    have c72b0 : (t315 != (decide (t314 ≤ (wrap64 (-(ji71)))))) = false := by simpa using c72
                    (try (have c72b1 : decide (t315 = (decide (t314 ≤ (wrap64 (-(ji71)))))) = true := by simpa using c72))
                    (try (have c72b2 : (t315 == (decide (t314 ≤ (wrap64 (-(ji71)))))) = true := by simpa using c72))
                    clear c72
                    replace H := Option.bind_eq_some_iff.mp H
                    obtain ⟨t318, A730, H⟩ := H
                    replace H : (if (t318 != x9_2) = true then (none) else (windhoverlaw18_GuardAsks.l0 k2 l0 t314 (wrap64 (x5_1 + 1)) t316 t317)) = some r := H
                    have A73 := Aside0.mk A730
                    clear A730
                    by_cases c74 : (t318 != x9_2) = true
                    · rw [if_pos c74] at H
                      exact absurd H (by simp)
                    · rw [if_neg c74] at H
                      have c74b0 : (t318 != x9_2) = false := by simpa using c74
                      (try (have c74b1 : decide (t318 = x9_2) = true := by simpa using c74))
                      (try (have c74b2 : (t318 == x9_2) = true := by simpa using c74))
                      clear c74
                      have H' := Aside0.mk H
                      clear H
                      try go_wp2
                      have n0_ := Aside0.mk (blk_drew BK303.out)
                      have n1_ := Aside0.mk (blk_drew BK309.out)
                      have n2_ := Aside0.mk (blk_drew BK310.out)
                      have n3_ := Aside0.mk (IsS70.drew HI300.out)
                      have n4_ := Aside0.mk (below_drew1 HB.out)
                      clear BK303
                      clear BK309
                      clear BK310
                      clear HI300
                      clear HB
                      have BK303 := n0_
                      have BK309 := n1_
                      have BK310 := n2_
                      have HI300 := n3_
                      have HB := n4_
                      clear n0_ n1_ n2_ n3_ n4_
                      refine start_ (n := 23) (S := fun w' => w'.cell? ⟨gb309, 0, none⟩ = some (.int .i64 t304) ∧ w'.cell? ⟨gb309, 1, none⟩ = some (.int .i64 t305) ∧ w'.cell? ⟨gb309, 2, none⟩ = some (.int .i64 t306) ∧ w'.cell? ⟨gb310, 0, none⟩ = some (.int .i64 t311) ∧ w'.cell? ⟨gb310, 1, none⟩ = some (.int .i64 t312) ∧ w'.cell? ⟨gb310, 2, none⟩ = some (.int .i64 t313) ∧ w'.cell? ⟨gb303, 0, none⟩ = some (.bool ((rd_T49 l0 x5_1).f0)) ∧ w'.cell? ⟨gb303, 1, none⟩ = some (.int .i64 ((rd_T49 l0 x5_1).f1.f0)) ∧ w'.cell? ⟨gb303, 2, none⟩ = some (.int .i64 ((rd_T49 l0 x5_1).f1.f1)) ∧ w'.cell? ⟨gb303, 3, none⟩ = some (.int .i64 ((rd_T49 l0 x5_1).f1.f2)) ∧ w'.cell? ⟨gb303, 4, none⟩ = some (.int .i64 ((rd_T49 l0 x5_1).f2))) (ds := []) #[false, false, false, false, false, false, false, false, false, false, false, false, false, false, false, false, false, false, false, false, false, false, false] (by kernel_rfl) rfl rfl ⟨(blk_cell BK309.out 0).trans rfl, (blk_cell BK309.out 1).trans rfl, (blk_cell BK309.out 2).trans rfl, (blk_cell BK310.out 0).trans rfl, (blk_cell BK310.out 1).trans rfl, (blk_cell BK310.out 2).trans rfl, (blk_cell BK303.out 0).trans rfl, (blk_cell BK303.out 1).trans rfl, (blk_cell BK303.out 2).trans rfl, (blk_cell BK303.out 3).trans rfl, (blk_cell BK303.out 4).trans rfl⟩ (fun hHeld => ?_); refine with_tabW windhoverlaw18_GuardAsks.tab18 windhoverlaw18_GuardAsks.bits18 (fun HT_ HW_ => ?_)
                      generalize wr.drew = w75 at BK303 BK309 BK310 HI300 HB hHeld ⊢
                      refine take_ (i := 0) (N := some 59) (v := ?_) (a' := ?_) #[true, false, false, false, false, false, false, false, false, false, false, false, false, false, false, false, false, false, false, false, false, false, false] rfl rfl (take_ofW HT_.out HW_.out (by kernel_rfl)) (fun _ _ _ h => h) (Or.inl ⟨by rfl, ?_⟩) hHeld ?_ ?_
                      rotate_left
                      · rintro w' ⟨s0, s1, s2, s3, s4, s5, s6, s7, s8, s9, s10⟩
                        go_simp
                        with_reducible rfl
                      rotate_left
                      · simp only [Act.put, List.setIfInBounds_toArray, List.set_cons_zero, List.set_cons_succ, i64_w, i32_w]
                        rfl
                      refine take_ (i := 1) (N := some 60) (v := ?_) (a' := ?_) #[true, true, false, false, false, false, false, false, false, false, false, false, false, false, false, false, false, false, false, false, false, false, false] rfl rfl (take_ofW HT_.out HW_.out (by kernel_rfl)) (fun _ _ _ h => h) (Or.inl ⟨by rfl, ?_⟩) hHeld ?_ ?_
                      rotate_left
                      · rintro w' ⟨s0, s1, s2, s3, s4, s5, s6, s7, s8, s9, s10⟩
                        go_simp
                        with_reducible rfl
                      rotate_left
                      · simp only [Act.put, List.setIfInBounds_toArray, List.set_cons_zero, List.set_cons_succ, i64_w, i32_w]
                        rfl
                      refine pure_ (i := 2) (N := some 61) (v := ?_) (a' := ?_) #[true, true, true, false, false, false, false, false, false, false, false, false, false, false, false, false, false, false, false, false, false, false, false] rfl rfl (any_of HT_.out (by kernel_rfl)) (fun _ _ _ h => h) (Or.inl ⟨by rfl, ?_⟩) ?_ ?_
                      rotate_left
                      · intro w'
                        go_simp
                        with_reducible rfl
                      rotate_left
                      · simp only [Act.put, List.setIfInBounds_toArray, List.set_cons_zero, List.set_cons_succ, i64_w, i32_w]
                        rfl
                      refine pure_ (i := 3) (N := some 62) (v := ?_) (a' := ?_) #[true, true, true, true, false, false, false, false, false, false, false, false, false, false, false, false, false, false, false, false, false, false, false] rfl rfl (any_of HT_.out (by kernel_rfl)) (fun _ _ _ h => h) (Or.inl ⟨by rfl, ?_⟩) ?_ ?_
                      rotate_left
                      · intro w'
                        go_simp
                        with_reducible rfl
                      rotate_left
                      · simp only [Act.put, List.setIfInBounds_toArray, List.set_cons_zero, List.set_cons_succ, i64_w, i32_w]
                        rfl
                      refine pure_ (i := 4) (N := some 63) (v := ?_) (a' := ?_) #[true, true, true, true, true, false, false, false, false, false, false, false, false, false, false, false, false, false, false, false, false, false, false] rfl rfl (any_of HT_.out (by kernel_rfl)) (fun _ _ _ h => h) (Or.inl ⟨by rfl, ?_⟩) ?_ ?_
                      rotate_left
                      · intro w'
                        go_simp
                        with_reducible rfl
                      rotate_left
                      · simp only [Act.put, List.setIfInBounds_toArray, List.set_cons_zero, List.set_cons_succ, i64_w, i32_w]
                        rfl
                      refine pure_ (i := 5) (N := some 64) (v := ?_) (a' := ?_) #[true, true, true, true, true, true, false, false, false, false, false, false, false, false, false, false, false, false, false, false, false, false, false] rfl rfl (any_of HT_.out (by kernel_rfl)) (fun _ _ _ h => h) (Or.inl ⟨by rfl, ?_⟩) ?_ ?_
                      rotate_left
                      · intro w'
                        go_simp
                        with_reducible rfl
                      rotate_left
                      · simp only [Act.put, List.setIfInBounds_toArray, List.set_cons_zero, List.set_cons_succ, i64_w, i32_w]
                        rfl
                      refine pure_ (i := 8) (N := some 67) (v := ?_) (a' := ?_) #[true, true, true, true, true, true, false, false, true, false, false, false, false, false, false, false, false, false, false, false, false, false, false] rfl rfl (any_of HT_.out (by kernel_rfl)) (fun _ _ _ h => h) (Or.inl ⟨by rfl, ?_⟩) ?_ ?_
                      rotate_left
                      · intro w'
                        go_simp
                        with_reducible rfl
                      rotate_left
                      · simp only [Act.put, List.setIfInBounds_toArray, List.set_cons_zero, List.set_cons_succ, i64_w, i32_w]
                        rfl
                      refine pure_ (i := 9) (N := some 68) (v := ?_) (a' := ?_) #[true, true, true, true, true, true, false, false, true, true, false, false, false, false, false, false, false, false, false, false, false, false, false] rfl rfl (any_of HT_.out (by kernel_rfl)) (fun _ _ _ h => h) (Or.inl ⟨by rfl, ?_⟩) ?_ ?_
                      rotate_left
                      · intro w'
                        go_simp
                        with_reducible rfl
                      rotate_left
                      · simp only [Act.put, List.setIfInBounds_toArray, List.set_cons_zero, List.set_cons_succ, i64_w, i32_w]
                        rfl
                      refine take_ (i := 6) (N := some 65) (v := ?_) (a' := ?_) #[true, true, true, true, true, true, true, false, true, true, false, false, false, false, false, false, false, false, false, false, false, false, false] rfl rfl (take_ofW HT_.out HW_.out (by kernel_rfl)) (fun _ _ _ h => h) (Or.inl ⟨by rfl, ?_⟩) hHeld ?_ ?_
                      rotate_left
                      · rintro w' ⟨s0, s1, s2, s3, s4, s5, s6, s7, s8, s9, s10⟩
                        go_simp
                        with_reducible rfl
                      rotate_left
                      · simp only [Act.put, List.setIfInBounds_toArray, List.set_cons_zero, List.set_cons_succ, i64_w, i32_w]
                        rfl
                      refine take_ (i := 10) (N := some 69) (v := ?_) (a' := ?_) #[true, true, true, true, true, true, true, false, true, true, true, false, false, false, false, false, false, false, false, false, false, false, false] rfl rfl (take_ofW HT_.out HW_.out (by kernel_rfl)) (fun _ _ _ h => h) (Or.inl ⟨by rfl, ?_⟩) hHeld ?_ ?_
                      rotate_left
                      · rintro w' ⟨s0, s1, s2, s3, s4, s5, s6, s7, s8, s9, s10⟩
                        go_simp
                        with_reducible rfl
                      rotate_left
                      · simp only [Act.put, List.setIfInBounds_toArray, List.set_cons_zero, List.set_cons_succ, i64_w, i32_w]
                        rfl
                      refine pure_ (i := 11) (N := some 70) (v := ?_) (a' := ?_) #[true, true, true, true, true, true, true, false, true, true, true, true, false, false, false, false, false, false, false, false, false, false, false] rfl rfl (any_of HT_.out (by kernel_rfl)) (fun _ _ _ h => h) (Or.inl ⟨by rfl, ?_⟩) ?_ ?_
                      rotate_left
                      · intro w'
                        go_simp
                        with_reducible rfl
                      rotate_left
                      · simp only [Act.put, List.setIfInBounds_toArray, List.set_cons_zero, List.set_cons_succ, i64_w, i32_w]
                        rfl
                      refine pure_ (i := 12) (N := some 71) (v := ?_) (a' := ?_) #[true, true, true, true, true, true, true, false, true, true, true, true, true, false, false, false, false, false, false, false, false, false, false] rfl rfl (any_of HT_.out (by kernel_rfl)) (fun _ _ _ h => h) (Or.inl ⟨by rfl, ?_⟩) ?_ ?_
                      rotate_left
                      · intro w'
                        go_simp
                        with_reducible rfl
                      rotate_left
                      · simp only [Act.put, List.setIfInBounds_toArray, List.set_cons_zero, List.set_cons_succ, i64_w, i32_w]
                        rfl
                      refine pure_ (i := 13) (N := some 72) (v := ?_) (a' := ?_) #[true, true, true, true, true, true, true, false, true, true, true, true, true, true, false, false, false, false, false, false, false, false, false] rfl rfl (any_of HT_.out (by kernel_rfl)) (fun _ _ _ h => h) (Or.inl ⟨by rfl, ?_⟩) ?_ ?_
                      rotate_left
                      · intro w'
                        go_simp
                        with_reducible rfl
                      rotate_left
                      · simp only [Act.put, List.setIfInBounds_toArray, List.set_cons_zero, List.set_cons_succ, i64_w, i32_w]
                        rfl
                      refine one_ (i := 7) (N := some 66) #[true, true, true, true, true, true, true, true, true, true, true, true, true, true, false, false, false, false, false, false, false, false, false] rfl rfl (one_of HT_.out (by kernel_rfl)) (by decide) (fun K hK => ?_)
                      refine goes_ Try.func18 (by kernel_rfl) rfl #[.pointer (some ⟨g300, 0, none⟩), .int .i64 ((rd_T49 l0 x5_1).f2)] (by rfl) rfl rfl (by (try simp only [List.map_toArray, List.map_cons, List.map_nil]); first | done | rfl | (simp only [List.length_drop, List.length_take]; rfl)) ?_
                      with_reducible refine (guard_Backup_Falling.calls g300 t307 t308 ((rd_T49 l0 x5_1).f2) t315 t316 t317 w _ ?side1 ?side2 A70.out).mono ?_
                      (case side1 => repeat (first | (with_reducible first | exact HI300.out | apply IsS70.alloc | apply IsS70.drewN | apply IsS70.drew | apply IsS70.set_0 | apply IsS70.set_1 | refine IsS70.far ?_ NB300_303.out _ | refine IsS70.far ?_ NB300_309.out _ | refine IsS70.far ?_ NB300_310.out _) | exact HI300.out))
                      (case side2 => repeat (first | (with_reducible first | exact HB.out | apply below_alloc | apply pw_below_drewN | apply below_drew1 | refine below_set ?_ (IsS70.ge HI300.out) | refine below_set ?_ GE303.out | refine below_set ?_ GE309.out | refine below_set ?_ GE310.out) | exact HB.out))
                      rintro e w76 ⟨rfl, hi, hb, hk⟩
                      refine ⟨_, rfl, ?_⟩
                      have n0_ := Aside0.mk (KeepBut.blk hk (g' := gb303) (o := .cells #[.bool ((rd_T49 l0 x5_1).f0), .int .i64 ((rd_T49 l0 x5_1).f1.f0), .int .i64 ((rd_T49 l0 x5_1).f1.f1), .int .i64 ((rd_T49 l0 x5_1).f1.f2), .int .i64 ((rd_T49 l0 x5_1).f2)] 49 (0, 0)) (by (with_reducible repeat (first | refine blk_drewN ?_ _ | refine blk_drew ?_ | refine blk_alloc ?_ _)); exact BK303.out) NB303_300.out (by simp))
                      have n1_ := Aside0.mk (KeepBut.blk hk (g' := gb309) (o := .cells #[.int .i64 t304, .int .i64 t305, .int .i64 t306] 39 (0, 0)) (by (with_reducible repeat (first | refine blk_drewN ?_ _ | refine blk_drew ?_ | refine blk_alloc ?_ _)); exact BK309.out) NB309_300.out (by simp))
                      have n2_ := Aside0.mk (KeepBut.blk hk (g' := gb310) (o := .cells #[.int .i64 t311, .int .i64 t312, .int .i64 t313] 39 (0, 0)) (by (with_reducible repeat (first | refine blk_drewN ?_ _ | refine blk_drew ?_ | refine blk_alloc ?_ _)); exact BK310.out) NB310_300.out (by simp))
                      have n3_ := Aside0.mk (hb)
                      have n4_ := Aside0.mk (hi)
                      clear BK303
                      clear BK309
                      clear BK310
                      clear HB
                      clear HI300
                      have BK303 := n0_
                      have BK309 := n1_
                      have BK310 := n2_
                      have HB := n3_
                      have HI300 := n4_
                      clear n0_ n1_ n2_ n3_ n4_
                      (try clear hb)
                      (try clear hb2)
                      (try clear hk)
                      (try clear hi)
                      refine hK.out _ _ ⟨(blk_cell BK309.out 0).trans rfl, (blk_cell BK309.out 1).trans rfl, (blk_cell BK309.out 2).trans rfl, (blk_cell BK310.out 0).trans rfl, (blk_cell BK310.out 1).trans rfl, (blk_cell BK310.out 2).trans rfl, (blk_cell BK303.out 0).trans rfl, (blk_cell BK303.out 1).trans rfl, (blk_cell BK303.out 2).trans rfl, (blk_cell BK303.out 3).trans rfl, (blk_cell BK303.out 4).trans rfl⟩ (fun hHeld => ?_)
                      clear hK K
                      refine norm_ (a' := ?_) ?_ ?_
                      rotate_left
                      · show Act.put _ (some 66) _ = _
                        simp only [Act.put, List.setIfInBounds_toArray, List.set_cons_zero, List.set_cons_succ, i64_w, i32_w]
                        rfl
                      refine pure_ (i := 14) (N := some 73) (v := ?_) (a' := ?_) #[true, true, true, true, true, true, true, true, true, true, true, true, true, true, true, false, false, false, false, false, false, false, false] rfl rfl (any_of HT_.out (by kernel_rfl)) (fun _ _ _ h => h) (Or.inl ⟨by rfl, ?_⟩) ?_ ?_
                      rotate_left
                      · intro w'
                        go_simp
                        with_reducible rfl
                      rotate_left
                      · simp only [Act.put, List.setIfInBounds_toArray, List.set_cons_zero, List.set_cons_succ, i64_w, i32_w]
                        rfl
                      refine pure_ (i := 15) (N := some 74) (v := ?_) (a' := ?_) #[true, true, true, true, true, true, true, true, true, true, true, true, true, true, true, true, false, false, false, false, false, false, false] rfl rfl (any_of HT_.out (by kernel_rfl)) (fun _ _ _ h => h) (Or.inl ⟨by rfl, ?_⟩) ?_ ?_
                      rotate_left
                      · intro w'
                        go_simp
                        with_reducible rfl
                      rotate_left
                      · simp only [Act.put, List.setIfInBounds_toArray, List.set_cons_zero, List.set_cons_succ, i64_w, i32_w]
                        rfl
                      refine pure_ (i := 16) (N := some 75) (v := ?_) (a' := ?_) #[true, true, true, true, true, true, true, true, true, true, true, true, true, true, true, true, true, false, false, false, false, false, false] rfl rfl (any_of HT_.out (by kernel_rfl)) (fun _ _ _ h => h) (Or.inl ⟨by rfl, ?_⟩) ?_ ?_
                      rotate_left
                      · intro w'
                        go_simp
                        with_reducible rfl
                      rotate_left
                      · simp only [Act.put, List.setIfInBounds_toArray, List.set_cons_zero, List.set_cons_succ, i64_w, i32_w]
                        rfl
                      refine pure_ (i := 17) (N := some 76) (v := ?_) (a' := ?_) #[true, true, true, true, true, true, true, true, true, true, true, true, true, true, true, true, true, true, false, false, false, false, false] rfl rfl (any_of HT_.out (by kernel_rfl)) (fun _ _ _ h => h) (Or.inl ⟨by rfl, ?_⟩) ?_ ?_
                      rotate_left
                      · intro w'
                        go_simp
                        with_reducible rfl
                      rotate_left
                      · simp only [Act.put, List.setIfInBounds_toArray, List.set_cons_zero, List.set_cons_succ, i64_w, i32_w]
                        rfl
                      refine pure_ (i := 20) (N := some 79) (v := ?_) (a' := ?_) #[true, true, true, true, true, true, true, true, true, true, true, true, true, true, true, true, true, true, false, false, true, false, false] rfl rfl (any_of HT_.out (by kernel_rfl)) (fun _ _ _ h => h) (Or.inl ⟨by rfl, ?_⟩) ?_ ?_
                      rotate_left
                      · intro w'
                        go_simp
                        with_reducible rfl
                      rotate_left
                      · simp only [Act.put, List.setIfInBounds_toArray, List.set_cons_zero, List.set_cons_succ, i64_w, i32_w]
                        rfl
                      refine take_ (i := 18) (N := some 77) (v := ?_) (a' := ?_) #[true, true, true, true, true, true, true, true, true, true, true, true, true, true, true, true, true, true, true, false, true, false, false] rfl rfl (take_ofW HT_.out HW_.out (by kernel_rfl)) (fun _ _ _ h => h) (Or.inl ⟨by rfl, ?_⟩) hHeld ?_ ?_
                      rotate_left
                      · rintro w' ⟨s0, s1, s2, s3, s4, s5, s6, s7, s8, s9, s10⟩
                        go_simp
                        with_reducible rfl
                      rotate_left
                      · simp only [Act.put, List.setIfInBounds_toArray, List.set_cons_zero, List.set_cons_succ, i64_w, i32_w]
                        rfl
                      refine one_ (i := 19) (N := some 78) #[true, true, true, true, true, true, true, true, true, true, true, true, true, true, true, true, true, true, true, true, true, false, false] rfl rfl (one_of HT_.out (by kernel_rfl)) (by decide) (fun K hK => ?_)
                      refine goes_ Try.func19 (by kernel_rfl) rfl #[.agg #[.int .i64 ((rd_T49 l0 x5_1).f1.f0), .int .i64 ((rd_T49 l0 x5_1).f1.f1), .int .i64 ((rd_T49 l0 x5_1).f1.f2)]] (by rfl) rfl rfl (by (try simp only [List.map_toArray, List.map_cons, List.map_nil]); first | done | rfl | (simp only [List.length_drop, List.length_take]; rfl)) ?_
                      with_reducible refine (guard_Slow.calls k2 ((rd_T49 l0 x5_1).f1.f0) ((rd_T49 l0 x5_1).f1.f1) ((rd_T49 l0 x5_1).f1.f2) t318 _ A73.out).mono ?_
                      rintro e w77 ⟨rfl, hb⟩
                      refine ⟨_, rfl, ?_⟩
                      have n0_ := Aside0.mk (blk_below (g := gb303) (o := .cells #[.bool ((rd_T49 l0 x5_1).f0), .int .i64 ((rd_T49 l0 x5_1).f1.f0), .int .i64 ((rd_T49 l0 x5_1).f1.f1), .int .i64 ((rd_T49 l0 x5_1).f1.f2), .int .i64 ((rd_T49 l0 x5_1).f2)] 49 (0, 0)) (by (with_reducible repeat (first | refine blk_drewN ?_ _ | refine blk_drew ?_ | refine blk_alloc ?_ _)); exact BK303.out) hb)
                      have n1_ := Aside0.mk (blk_below (g := gb309) (o := .cells #[.int .i64 t304, .int .i64 t305, .int .i64 t306] 39 (0, 0)) (by (with_reducible repeat (first | refine blk_drewN ?_ _ | refine blk_drew ?_ | refine blk_alloc ?_ _)); exact BK309.out) hb)
                      have n2_ := Aside0.mk (blk_below (g := gb310) (o := .cells #[.int .i64 t311, .int .i64 t312, .int .i64 t313] 39 (0, 0)) (by (with_reducible repeat (first | refine blk_drewN ?_ _ | refine blk_drew ?_ | refine blk_alloc ?_ _)); exact BK310.out) hb)
                      have n3_ := Aside0.mk (IsS70.below (by repeat (first | (with_reducible first | exact HI300.out | apply IsS70.alloc | apply IsS70.drewN | apply IsS70.drew | apply IsS70.set_0 | apply IsS70.set_1 | refine IsS70.far ?_ NB300_303.out _ | refine IsS70.far ?_ NB300_309.out _ | refine IsS70.far ?_ NB300_310.out _) | exact HI300.out)) hb)
                      have n4_ := Aside0.mk (below_step (by repeat (first | (with_reducible first | exact HB.out | apply below_alloc | apply pw_below_drewN | apply below_drew1 | refine below_set ?_ (IsS70.ge HI300.out) | refine below_set ?_ GE303.out | refine below_set ?_ GE309.out | refine below_set ?_ GE310.out) | exact HB.out)) hb)
                      clear BK303
                      clear BK309
                      clear BK310
                      clear HI300
                      clear HB
                      have BK303 := n0_
                      have BK309 := n1_
                      have BK310 := n2_
                      have HI300 := n3_
                      have HB := n4_
                      clear n0_ n1_ n2_ n3_ n4_
                      (try clear hb)
                      (try clear hb2)
                      (try clear hk)
                      (try clear hi)
                      refine hK.out _ _ ⟨(blk_cell BK309.out 0).trans rfl, (blk_cell BK309.out 1).trans rfl, (blk_cell BK309.out 2).trans rfl, (blk_cell BK310.out 0).trans rfl, (blk_cell BK310.out 1).trans rfl, (blk_cell BK310.out 2).trans rfl, (blk_cell BK303.out 0).trans rfl, (blk_cell BK303.out 1).trans rfl, (blk_cell BK303.out 2).trans rfl, (blk_cell BK303.out 3).trans rfl, (blk_cell BK303.out 4).trans rfl⟩ (fun hHeld => ?_)
                      clear hK K
                      refine norm_ (a' := ?_) ?_ ?_
                      rotate_left
                      · show Act.put _ (some 78) _ = _
                        simp only [Act.put, List.setIfInBounds_toArray, List.set_cons_zero, List.set_cons_succ, i64_w, i32_w]
                        rfl
                      refine pure_ (i := 21) (N := some 80) (v := ?_) (a' := ?_) #[true, true, true, true, true, true, true, true, true, true, true, true, true, true, true, true, true, true, true, true, true, true, false] rfl rfl (any_of HT_.out (by kernel_rfl)) (fun _ _ _ h => h) (Or.inl ⟨by rfl, ?_⟩) ?_ ?_
                      rotate_left
                      · intro w'
                        go_simp
                        with_reducible rfl
                      rotate_left
                      · simp only [Act.put, List.setIfInBounds_toArray, List.set_cons_zero, List.set_cons_succ, i64_w, i32_w]
                        rfl
                      refine pure_ (i := 22) (N := some 81) (v := ?_) (a' := ?_) #[true, true, true, true, true, true, true, true, true, true, true, true, true, true, true, true, true, true, true, true, true, true, true] rfl rfl (any_of HT_.out (by kernel_rfl)) (fun _ _ _ h => h) (Or.inl ⟨by rfl, ?_⟩) ?_ ?_
                      rotate_left
                      · intro w'
                        go_simp
                        with_reducible rfl
                      rotate_left
                      · simp only [Act.put, List.setIfInBounds_toArray, List.set_cons_zero, List.set_cons_succ, i64_w, i32_w]
                        rfl
                      refine done_ (done_of HT_.out (by kernel_rfl)) ?_
                      try go_wp2
                      go_roundg k2
                      case measure => have := HK1.out; have := HK2.out; omega
                      case rel => exact ⟨(t314), (wrap64 (x5_1 + 1)), (t316), (t317), (by first | rfl | (simp; done) | (simp [*]; done)), (by first | rfl | (simp; done) | (simp [*]; done)), H', ⟨by have := HK1.out; have := HK2.out; omega⟩, ⟨by repeat (first | (with_reducible first | exact HI300.out | apply IsS70.alloc | apply IsS70.drewN | apply IsS70.drew | apply IsS70.set_0 | apply IsS70.set_1 | refine IsS70.far ?_ NB300_303.out _ | refine IsS70.far ?_ NB300_309.out _ | refine IsS70.far ?_ NB300_310.out _) | exact HI300.out)⟩, ⟨by repeat (first | (with_reducible first | exact HB.out | apply below_alloc | apply pw_below_drewN | apply below_drew1 | refine below_set ?_ (IsS70.ge HI300.out) | refine below_set ?_ GE303.out | refine below_set ?_ GE309.out | refine below_set ?_ GE310.out) | exact HB.out)⟩⟩
        · rw [if_neg c5] at H
          exact absurd H (by simp)
      · rw [if_neg c4] at H
        have c4b0 : decide (x5_1 < (l0.length : Int)) = false := decide_eq_false c4
        clear c4
        replace H := Option.bind_eq_some_iff.mp H
        obtain ⟨t301, A780, H⟩ := H
        replace H : (some t301) = some r := H
        have A78 := Aside0.mk A780
        clear A780
        obtain rfl := Option.some.inj H
        go_wp2_with (first | ((with_reducible refine gate_callee (f := 11) rfl ?_); refine goesL_ (some 82) rfl rfl Try.func11 (by kernel_rfl) rfl #[] rfl (by (try simp only [List.map_toArray, List.map_cons, List.map_nil]); first | done | rfl | (simp only [List.length_drop, List.length_take]; rfl)) ?_; (with_reducible refine (windhoverlaw18_awake.calls k1  t301 _ A78.out).mono ?_); rintro e w79 ⟨rfl, hb⟩; refine ⟨_, rfl, ?_⟩; have n0_ := Aside0.mk (IsS70.below (by repeat (first | (with_reducible first | exact HI300.out | apply IsS70.alloc | apply IsS70.drewN | apply IsS70.drew | apply IsS70.set_0 | apply IsS70.set_1) | exact HI300.out)) hb); have n1_ := Aside0.mk (below_step (by repeat (first | (with_reducible first | exact HB.out | apply below_alloc | apply pw_below_drewN | apply below_drew1 | refine below_set ?_ (IsS70.ge HI300.out)) | exact HB.out)) hb); clear HI300; clear HB; have HI300 := n0_; have HB := n1_; clear n0_ n1_; (try clear hb); (try clear hb2); (try clear hk); (try clear hi)))
        go_ret
        exact ⟨by first | rfl | (simp [errW_none, errW_some] <;> rfl) | (simp [*, errW_none, errW_some] <;> rfl), by repeat (first | (with_reducible first | exact HB.out | apply below_alloc | apply pw_below_drewN | apply below_drew1 | refine below_set ?_ (IsS70.ge HI300.out)) | exact HB.out)⟩

/-- THE ONE PURE STATEMENT of windhoverlaw18_GuardAsks: yours. -/
def windhoverlaw18_GuardAsks.Pure : Prop := ∀ (l0 : List (S49)), (l0.length ≤ maxLen) → (∀ p_ ∈ l0, (Lit.int .i64 p_.f1.f0).wf = true ∧ (Lit.int .i64 p_.f1.f1).wf = true ∧ (Lit.int .i64 p_.f1.f2).wf = true ∧ (Lit.int .i64 p_.f2).wf = true) → ∃ k, windhoverlaw18_GuardAsks.f k l0 = some true
theorem windhoverlaw18_GuardAsks.walk (P : windhoverlaw18_GuardAsks.Pure) (A0 : Option Addr) (c0 : Nat) (l0 : List (S49)) (w : World) (m0 : l0.length ≤ maxLen) (w0 : ∀ p_ ∈ l0, (Lit.int .i64 p_.f1.f0).wf = true ∧ (Lit.int .i64 p_.f1.f1).wf = true ∧ (Lit.int .i64 p_.f1.f2).wf = true ∧ (Lit.int .i64 p_.f2).wf = true) (hr0 : Kd.C k49 w A0 l0.length l0) (hc0 : l0.length ≤ c0) :
    Calls Try.prog 7 #[.slice A0 l0.length c0] w fun e w' => e = .returned (.bool true) ∧ Below w.heap.size w w' := by
  obtain ⟨k, h⟩ := P l0 m0 w0
  refine (windhoverlaw18_GuardAsks.calls k A0 c0 l0 true w hr0 hc0 h).mono ?_
  rintro e w' ⟨rfl, hd⟩
  exact ⟨rfl, hd⟩

end Go.Proofs.Ytfpggoiopjlkiaa.PGuardAsks
