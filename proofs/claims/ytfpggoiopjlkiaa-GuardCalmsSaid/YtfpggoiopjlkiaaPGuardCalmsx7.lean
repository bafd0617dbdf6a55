-- WRITTEN BY wip/tools/aprint.py of this claim's repository over the kit's words: not typed by hand
import Derived.Test.YtfpggoiopjlkiaaPGuardCalmsx0
import Derived.Test.YtfpggoiopjlkiaaPGuardCalmsx6
namespace Go.Proofs.Ytfpggoiopjlkiaa.PGuardCalms
open Go.RowKit Go.Proofs.YtfpggoiopjlkiaaW.PrintWords Go.Proofs.YtfpggoiopjlkiaaW.PrintLast Go.Proofs.YtfpggoiopjlkiaaW.PrintMore
attribute [local go_sem] max2_int min2_int max_two min_two max_three min_three max_four min_four   -- for this text's walks alone
set_option linter.unusedVariables false
set_option linter.unusedSimpArgs false

/-! ### windhoverlaw18_GuardCalms: function 6 -/
mutual
def windhoverlaw18_GuardCalms.j0 : Nat → Int → Int → Int → List Int → Bool → Int → Int → Option (Bool)
  | 0, _, _, _, _, _, _, _ => none
  | k + 1, x3, x4, x5, x6, x56, x180000, x180001 => if x56 = true then ((windhoverlaw18_awake.f k).bind fun t180 => (some t180)) else (windhoverlaw18_GuardCalms.l0 k x3 x4 x5 x6 (mx x3 (wrap64 (-x3))) 0 x180000 x180001)
def windhoverlaw18_GuardCalms.l0 : Nat → Int → Int → Int → List Int → Int → Int → Int → Int → Option (Bool)
  | 0, _, _, _, _, _, _, _, _ => none
  | k + 1, x3, x4, x5, x6, x8, x9, x180000, x180001 => if (wrap64 (x9 + 1)) < (x6.length : Int) then (if 0 ≤ x9 then (if x9 < (x6.length : Int) then ((windhoverref01_Clamp.f (rd x6 x9) (wrap64 (-x4)) x4).bind fun t183 => (if 0 ≤ (wrap64 (x9 + 1)) then ((windhoverref01_Clamp.f (rd x6 (wrap64 (x9 + 1))) (wrap64 (-x5)) x5).bind fun t185 => ((guard_Backup_Step.f k x180000 x180001 false (wrap64 (x3 + t183)) 0 (wrap64 (x3 + t183)) 8000).bind fun bt186 => (if bt186.1 = bt186.2.2.1 then (if (wrap64 (64 - x5)) = 0 then (none) else (if (wrap64 ((wrap64 (Int.tdiv x9 2)) + 1)) ≥ (wrap64 ((wrap64 (Int.tdiv x8 (wrap64 (64 - x5)))) + 2)) then (if (wrap64 ((wrap64 (x3 + bt186.1)) + t185)) > (wrap64 (x4 + x5)) then (none) else (if (wrap64 ((wrap64 (x3 + bt186.1)) + t185)) < (wrap64 ((wrap64 (-x4)) - x5)) then (none) else (windhoverlaw18_GuardCalms.l0 k (wrap64 ((wrap64 (x3 + bt186.1)) + t185)) x4 x5 x6 x8 (wrap64 (x9 + 2)) bt186.2.2.2.1 bt186.2.2.2.2))) else (windhoverlaw18_GuardCalms.l0 k (wrap64 ((wrap64 (x3 + bt186.1)) + t185)) x4 x5 x6 x8 (wrap64 (x9 + 2)) bt186.2.2.2.1 bt186.2.2.2.2))) else (none)))) else (none))) else (none)) else (none)) else ((windhoverlaw18_awake.f k).bind fun t181 => (some t181))
end
def windhoverlaw18_GuardCalms.f (k : Nat) (a0_0 : Int) (a0_1 : Int) (a0_2 : Int) (l0_3 : List Int) : Option (Bool) := (guard_NewBackup.f).bind fun bt177 => (if a0_1 < 0 then (windhoverlaw18_GuardCalms.j0 k a0_0 a0_1 a0_2 l0_3 true bt177.1 bt177.2) else (if a0_2 < 0 then (windhoverlaw18_GuardCalms.j0 k a0_0 a0_1 a0_2 l0_3 true bt177.1 bt177.2) else (if a0_1 > 63 then (windhoverlaw18_GuardCalms.j0 k a0_0 a0_1 a0_2 l0_3 true bt177.1 bt177.2) else (if a0_2 > 63 then (windhoverlaw18_GuardCalms.j0 k a0_0 a0_1 a0_2 l0_3 true bt177.1 bt177.2) else (if (wrap64 (a0_1 + a0_2)) ≥ 64 then (windhoverlaw18_GuardCalms.j0 k a0_0 a0_1 a0_2 l0_3 true bt177.1 bt177.2) else (if a0_0 < (-1099511627776) then (windhoverlaw18_GuardCalms.j0 k a0_0 a0_1 a0_2 l0_3 true bt177.1 bt177.2) else (if a0_0 > 1099511627776 then (windhoverlaw18_GuardCalms.j0 k a0_0 a0_1 a0_2 l0_3 true bt177.1 bt177.2) else (windhoverlaw18_GuardCalms.j0 k a0_0 a0_1 a0_2 l0_3 (decide ((l0_3.length : Int) > 65536)) bt177.1 bt177.2))))))))
theorem windhoverlaw18_GuardCalms.mono_l : ∀ k, (∀ y0 y1 y2 y3 y4 y5 y6, LeO (windhoverlaw18_GuardCalms.j0 k y0 y1 y2 y3 y4 y5 y6) (windhoverlaw18_GuardCalms.j0 (k + 1) y0 y1 y2 y3 y4 y5 y6)) ∧ (∀ y0 y1 y2 y3 y4 y5 y6 y7, LeO (windhoverlaw18_GuardCalms.l0 k y0 y1 y2 y3 y4 y5 y6 y7) (windhoverlaw18_GuardCalms.l0 (k + 1) y0 y1 y2 y3 y4 y5 y6 y7))
  | 0 => ⟨fun _ _ _ _ _ _ _ r h => by simp [windhoverlaw18_GuardCalms.j0] at h, fun _ _ _ _ _ _ _ _ r h => by simp [windhoverlaw18_GuardCalms.l0] at h⟩
  | k + 1 => by
    obtain ⟨ih0, ih1⟩ := windhoverlaw18_GuardCalms.mono_l k
    refine ⟨?_, ?_⟩
    · intro y0 y1 y2 y3 y4 y5 y6
      unfold windhoverlaw18_GuardCalms.j0
      repeat' first
      | (with_reducible exact ih0 _ _ _ _ _ _ _)
      | (with_reducible exact ih1 _ _ _ _ _ _ _ _)
      | (with_reducible exact guard_Backup_Step.mono _ _ _ _ _ _ _ _)
      | (with_reducible exact windhoverlaw18_awake.mono _)
      | (with_reducible exact LeO.refl _)
      | (with_reducible exact LeO.none _)
      | (with_reducible refine LeO.ite ?_ ?_)
      | (with_reducible refine LeO.bind ?_ (fun _ => ?_))
      | exact ih0 _ _ _ _ _ _ _
      | exact ih1 _ _ _ _ _ _ _ _
      | exact guard_Backup_Step.mono _ _ _ _ _ _ _ _
      | exact windhoverlaw18_awake.mono _
      | exact LeO.none _
      | refine LeO.ite ?_ ?_
      | refine LeO.bind ?_ (fun _ => ?_)
    · intro y0 y1 y2 y3 y4 y5 y6 y7
      unfold windhoverlaw18_GuardCalms.l0
      repeat' first
      | (with_reducible exact ih0 _ _ _ _ _ _ _)
      | (with_reducible exact ih1 _ _ _ _ _ _ _ _)
      | (with_reducible exact guard_Backup_Step.mono _ _ _ _ _ _ _ _)
      | (with_reducible exact windhoverlaw18_awake.mono _)
      | (with_reducible exact LeO.refl _)
      | (with_reducible exact LeO.none _)
      | (with_reducible refine LeO.ite ?_ ?_)
      | (with_reducible refine LeO.bind ?_ (fun _ => ?_))
      | exact ih0 _ _ _ _ _ _ _
      | exact ih1 _ _ _ _ _ _ _ _
      | exact guard_Backup_Step.mono _ _ _ _ _ _ _ _
      | exact windhoverlaw18_awake.mono _
      | exact LeO.none _
      | refine LeO.ite ?_ ?_
      | refine LeO.bind ?_ (fun _ => ?_)
theorem windhoverlaw18_GuardCalms.mono : ∀ a0 a1 a2 a3 k, LeO (windhoverlaw18_GuardCalms.f k a0 a1 a2 a3) (windhoverlaw18_GuardCalms.f (k + 1) a0 a1 a2 a3) := by
  intro a0 a1 a2 a3 k
  obtain ⟨ih0, ih1⟩ := windhoverlaw18_GuardCalms.mono_l k
  unfold windhoverlaw18_GuardCalms.f
  repeat' first
      | (with_reducible exact ih0 _ _ _ _ _ _ _)
      | (with_reducible exact ih1 _ _ _ _ _ _ _ _)
      | (with_reducible exact guard_Backup_Step.mono _ _ _ _ _ _ _ _)
      | (with_reducible exact windhoverlaw18_awake.mono _)
      | (with_reducible exact LeO.refl _)
      | (with_reducible exact LeO.none _)
      | (with_reducible refine LeO.ite ?_ ?_)
      | (with_reducible refine LeO.bind ?_ (fun _ => ?_))
      | exact ih0 _ _ _ _ _ _ _
      | exact ih1 _ _ _ _ _ _ _ _
      | exact guard_Backup_Step.mono _ _ _ _ _ _ _ _
      | exact windhoverlaw18_awake.mono _
      | exact LeO.none _
      | refine LeO.ite ?_ ?_
      | refine LeO.bind ?_ (fun _ => ?_)
set_option maxHeartbeats 8000000 in
set_option maxRecDepth 100000 in
theorem windhoverlaw18_GuardCalms.calls (k : Nat) (a0_0 : Int) (a0_1 : Int) (a0_2 : Int) (A0_3 : Option Addr) (c0_3 : Nat) (l0_3 : List Int) (r : Bool) (w : World) (hr0_3 : Kd.C (Kd.int .i64) w A0_3 l0_3.length l0_3) (hc0_3 : l0_3.length ≤ c0_3) (h : windhoverlaw18_GuardCalms.f k a0_0 a0_1 a0_2 l0_3 = some r) :
    Calls Try.prog 6 #[.agg #[.int .i64 a0_0, .int .i64 a0_1, .int .i64 a0_2, .slice A0_3 l0_3.length c0_3]] w fun e w' => e = .returned (.bool r) ∧ Below w.heap.size w w' := by
  have hu41 := Try.underlying41
  have hu39 := Try.underlying39
  have HR0_3 := Aside0.mk hr0_3
  have HC0_3 := Aside0.mk hc0_3
  clear hr0_3 hc0_3
  have HB := Aside0.mk (Below.refl w.heap.size w)
  have H : ((guard_NewBackup.f).bind fun bt177 => (if a0_1 < 0 then (windhoverlaw18_GuardCalms.j0 k a0_0 a0_1 a0_2 l0_3 true bt177.1 bt177.2) else (if a0_2 < 0 then (windhoverlaw18_GuardCalms.j0 k a0_0 a0_1 a0_2 l0_3 true bt177.1 bt177.2) else (if a0_1 > 63 then (windhoverlaw18_GuardCalms.j0 k a0_0 a0_1 a0_2 l0_3 true bt177.1 bt177.2) else (if a0_2 > 63 then (windhoverlaw18_GuardCalms.j0 k a0_0 a0_1 a0_2 l0_3 true bt177.1 bt177.2) else (if (wrap64 (a0_1 + a0_2)) ≥ 64 then (windhoverlaw18_GuardCalms.j0 k a0_0 a0_1 a0_2 l0_3 true bt177.1 bt177.2) else (if a0_0 < (-1099511627776) then (windhoverlaw18_GuardCalms.j0 k a0_0 a0_1 a0_2 l0_3 true bt177.1 bt177.2) else (if a0_0 > 1099511627776 then (windhoverlaw18_GuardCalms.j0 k a0_0 a0_1 a0_2 l0_3 true bt177.1 bt177.2) else (windhoverlaw18_GuardCalms.j0 k a0_0 a0_1 a0_2 l0_3 (decide ((l0_3.length : Int) > 65536)) bt177.1 bt177.2))))))))) = some r := h
  clear h
  replace H := Option.bind_eq_some_iff.mp H
  obtain ⟨⟨t177, t178⟩, A20, H⟩ := H
  replace H : (if a0_1 < 0 then (windhoverlaw18_GuardCalms.j0 k a0_0 a0_1 a0_2 l0_3 true t177 t178) else (if a0_2 < 0 then (windhoverlaw18_GuardCalms.j0 k a0_0 a0_1 a0_2 l0_3 true t177 t178) else (if a0_1 > 63 then (windhoverlaw18_GuardCalms.j0 k a0_0 a0_1 a0_2 l0_3 true t177 t178) else (if a0_2 > 63 then (windhoverlaw18_GuardCalms.j0 k a0_0 a0_1 a0_2 l0_3 true t177 t178) else (if (wrap64 (a0_1 + a0_2)) ≥ 64 then (windhoverlaw18_GuardCalms.j0 k a0_0 a0_1 a0_2 l0_3 true t177 t178) else (if a0_0 < (-1099511627776) then (windhoverlaw18_GuardCalms.j0 k a0_0 a0_1 a0_2 l0_3 true t177 t178) else (if a0_0 > 1099511627776 then (windhoverlaw18_GuardCalms.j0 k a0_0 a0_1 a0_2 l0_3 true t177 t178) else (windhoverlaw18_GuardCalms.j0 k a0_0 a0_1 a0_2 l0_3 (decide ((l0_3.length : Int) > 65536)) t177 t178)))))))) = some r := H
  have A2 := Aside0.mk A20
  clear A20
  have HC3 := Aside0.mk H
  clear H
  go_enter Try.func6, Try.ntmps6
  go_upto_region 8 with (first | ((with_reducible refine gate_dst (N := 1) rfl ?_); (try (refine gate_guard (by rfl) ?_; dsimp only)); refine box_event ?hg (N := 1) ?hd (cs := #[.int .i64 a0_0, .int .i64 a0_1, .int .i64 a0_2, .slice A0_3 l0_3.length c0_3]) (t := 41) ?hr ?_; (case hd => rfl); (case hg => rfl); (case hr => first | (go_simp; done) | (go_simp; rfl)); intro gb176 hg w4 hbox hb; have n0_ := Aside0.mk (below_step (by repeat (first | (with_reducible first | exact HB.out | apply below_alloc | apply pw_below_drewN | apply below_drew1) | exact HB.out)) hb); have n1_ := Aside0.mk (hbox); have n2_ := Aside0.mk ((by rw [hg]; exact (below_size (by repeat (first | (with_reducible first | exact HB.out | apply below_alloc | apply pw_below_drewN | apply below_drew1) | exact HB.out))) : w.heap.size ≤ gb176)); have n3_ := Aside0.mk ((by rw [hg]; exact (below_size (by repeat (first | (with_reducible first | exact HB.out | apply below_alloc | apply pw_below_drewN | apply below_drew1) | exact HB.out))) : w.heap.size ≤ gb176)); clear HB; have HB := n0_; have BK176 := n1_; have GW176 := n2_; have GE176 := n3_; clear n0_ n1_ n2_ n3_; clear hb hbox hg; have hcz5_0 := blk_cells4 (w := w4) (g := gb176) BK176.out; have hfz5_0 := blk_frozen BK176.out) | ((with_reducible refine gate_callee (f := 14) rfl ?_); refine goesL_ (some 21) rfl rfl Try.func14 (by kernel_rfl) rfl #[] rfl (by (try simp only [List.map_toArray, List.map_cons, List.map_nil]); first | done | rfl | (simp only [List.length_drop, List.length_take]; rfl)) ?_; (with_reducible refine (guard_NewBackup.calls  t177 t178 w _ ?side1 A2.out).mono ?_); (case side1 => repeat (first | (with_reducible first | exact HB.out | apply below_alloc | apply pw_below_drewN | apply below_drew1 | refine below_set ?_ GE176.out) | exact HB.out)); rintro e w6 ⟨g179, rfl, hi, hb, hb2⟩; refine ⟨_, rfl, ?_⟩; have n0_ := Aside0.mk (blk_below (g := gb176) (o := .cells #[.int .i64 a0_0, .int .i64 a0_1, .int .i64 a0_2, .slice A0_3 l0_3.length c0_3] 41 (0, 0)) (by (with_reducible repeat (first | refine blk_drewN ?_ _ | refine blk_drew ?_ | refine blk_alloc ?_ _)); exact BK176.out) hb2); have n1_ := Aside0.mk (hb); have n2_ := Aside0.mk (hi); have n3_ := Aside0.mk (IsS70.ne_blk hi (blk_below (g := gb176) (o := .cells #[.int .i64 a0_0, .int .i64 a0_1, .int .i64 a0_2, .slice A0_3 l0_3.length c0_3] 41 (0, 0)) (by (with_reducible repeat (first | refine blk_drewN ?_ _ | refine blk_drew ?_ | refine blk_alloc ?_ _)); exact BK176.out) hb2) (by decide)); have n4_ := Aside0.mk (Ne.symm (IsS70.ne_blk hi (blk_below (g := gb176) (o := .cells #[.int .i64 a0_0, .int .i64 a0_1, .int .i64 a0_2, .slice A0_3 l0_3.length c0_3] 41 (0, 0)) (by (with_reducible repeat (first | refine blk_drewN ?_ _ | refine blk_drew ?_ | refine blk_alloc ?_ _)); exact BK176.out) hb2) (by decide))); clear BK176; clear HB; have BK176 := n0_; have HB := n1_; have HI179 := n2_; have NB179_176 := n3_; have NB176_179 := n4_; clear n0_ n1_ n2_ n3_ n4_; (try clear hb); (try clear hb2); (try clear hk); (try clear hi)))
  (try simp only [Act.put, List.setIfInBounds_toArray, List.set_cons_zero, List.set_cons_succ])
  go_cut [56] (fun v56 wc => ∃ (kq : Nat) (x56_2 : Bool), v56 = .bool x56_2 ∧ Aside0 (windhoverlaw18_GuardCalms.j0 kq a0_0 a0_1 a0_2 l0_3 x56_2 t177 t178 = some r) ∧ Aside0 (kq ≤ k) ∧ Aside0 (wc.heap[gb176]? = some (.cells #[.int .i64 a0_0, .int .i64 a0_1, .int .i64 a0_2, (.slice A0_3 l0_3.length c0_3)] 41 (0, 0))) ∧ Aside0 (IsS70 w wc g179 t177 t178) ∧ Aside0 (Below w.heap.size w wc))
  case first =>
    have H := HC3.out
    clear HC3
    by_cases c7 : a0_1 < 0
    · rw [if_pos c7] at H
      have c7b0 : decide (a0_1 < 0) = true := decide_eq_true c7
      clear c7
      (first | rw [c7b0] | (simp only [i64_w, i32_w]; rw [c7b0]) | skip)
      have H' := Aside0.mk H
      clear H
      go_wp2
      go_meet
      case rel => exact ⟨_, (true), (by first | rfl | (simp; done) | (simp [*]; done)), H', ⟨by first | omega | exact Nat.le_refl _⟩, ⟨by (with_reducible repeat (first | refine blk_drewN ?_ _ | refine blk_drew ?_ | refine blk_alloc ?_ _)); exact BK176.out⟩, ⟨by repeat (first | (with_reducible first | exact HI179.out | apply IsS70.alloc | apply IsS70.drewN | apply IsS70.drew | apply IsS70.set_0 | apply IsS70.set_1 | refine IsS70.far ?_ NB179_176.out _) | exact HI179.out)⟩, ⟨by repeat (first | (with_reducible first | exact HB.out | apply below_alloc | apply pw_below_drewN | apply below_drew1 | refine below_set ?_ (IsS70.ge HI179.out) | refine below_set ?_ GE176.out) | exact HB.out)⟩⟩
    · rw [if_neg c7] at H
      have c7b0 : decide (a0_1 < 0) = false := decide_eq_false c7
      clear c7
      (first | rw [c7b0] | (simp only [i64_w, i32_w]; rw [c7b0]) | skip)
      by_cases c8 : a0_2 < 0
      · rw [if_pos c8] at H
        have c8b0 : decide (a0_2 < 0) = true := decide_eq_true c8
        clear c8
        have H' := Aside0.mk H
        clear H
        go_wp2
        go_meet
        case rel => exact ⟨_, (true), (by first | rfl | (simp; done) | (simp [*]; done)), H', ⟨by first | omega | exact Nat.le_refl _⟩, ⟨by (with_reducible repeat (first | refine blk_drewN ?_ _ | refine blk_drew ?_ | refine blk_alloc ?_ _)); exact BK176.out⟩, ⟨by repeat (first | (with_reducible first | exact HI179.out | apply IsS70.alloc | apply IsS70.drewN | apply IsS70.drew | apply IsS70.set_0 | apply IsS70.set_1 | refine IsS70.far ?_ NB179_176.out _) | exact HI179.out)⟩, ⟨by repeat (first | (with_reducible first | exact HB.out | apply below_alloc | apply pw_below_drewN | apply below_drew1 | refine below_set ?_ (IsS70.ge HI179.out) | refine below_set ?_ GE176.out) | exact HB.out)⟩⟩
      · rw [if_neg c8] at H
        have c8b0 : decide (a0_2 < 0) = false := decide_eq_false c8
        clear c8
        by_cases c9 : a0_1 > 63
        · rw [if_pos c9] at H
          have c9b0 : decide (63 < a0_1) = true := decide_eq_true c9
          clear c9
          have H' := Aside0.mk H
          clear H
          go_wp2
          go_meet
          case rel => exact ⟨_, (true), (by first | rfl | (simp; done) | (simp [*]; done)), H', ⟨by first | omega | exact Nat.le_refl _⟩, ⟨by (with_reducible repeat (first | refine blk_drewN ?_ _ | refine blk_drew ?_ | refine blk_alloc ?_ _)); exact BK176.out⟩, ⟨by repeat (first | (with_reducible first | exact HI179.out | apply IsS70.alloc | apply IsS70.drewN | apply IsS70.drew | apply IsS70.set_0 | apply IsS70.set_1 | refine IsS70.far ?_ NB179_176.out _) | exact HI179.out)⟩, ⟨by repeat (first | (with_reducible first | exact HB.out | apply below_alloc | apply pw_below_drewN | apply below_drew1 | refine below_set ?_ (IsS70.ge HI179.out) | refine below_set ?_ GE176.out) | exact HB.out)⟩⟩
        · rw [if_neg c9] at H
          have c9b0 : decide (63 < a0_1) = false := decide_eq_false c9
          clear c9
          by_cases c10 : a0_2 > 63
          · rw [if_pos c10] at H
            have c10b0 : decide (63 < a0_2) = true := decide_eq_true c10
            clear c10
            have H' := Aside0.mk H
            clear H
            go_wp2
            go_meet
            case rel => exact ⟨_, (true), (by first | rfl | (simp; done) | (simp [*]; done)), H', ⟨by first | omega | exact Nat.le_refl _⟩, ⟨by (with_reducible repeat (first | refine blk_drewN ?_ _ | refine blk_drew ?_ | refine blk_alloc ?_ _)); exact BK176.out⟩, ⟨by repeat (first | (with_reducible first | exact HI179.out | apply IsS70.alloc | apply IsS70.drewN | apply IsS70.drew | apply IsS70.set_0 | apply IsS70.set_1 | refine IsS70.far ?_ NB179_176.out _) | exact HI179.out)⟩, ⟨by repeat (first | (with_reducible first | exact HB.out | apply below_alloc | apply pw_below_drewN | apply below_drew1 | refine below_set ?_ (IsS70.ge HI179.out) | refine below_set ?_ GE176.out) | exact HB.out)⟩⟩
          · rw [if_neg c10] at H
            have c10b0 : decide (63 < a0_2) = false := decide_eq_false c10
            clear c10
            by_cases c11 : (wrap64 (a0_1 + a0_2)) ≥ 64
            · rw [if_pos c11] at H
              have c11b0 : decide (64 ≤ (wrap64 (a0_1 + a0_2))) = true := decide_eq_true c11
              clear c11
              have H' := Aside0.mk H
              clear H
              go_wp2
              go_meet
              case rel => exact ⟨_, (true), (by first | rfl | (simp; done) | (simp [*]; done)), H', ⟨by first | omega | exact Nat.le_refl _⟩, ⟨by (with_reducible repeat (first | refine blk_drewN ?_ _ | refine blk_drew ?_ | refine blk_alloc ?_ _)); exact BK176.out⟩, ⟨by repeat (first | (with_reducible first | exact HI179.out | apply IsS70.alloc | apply IsS70.drewN | apply IsS70.drew | apply IsS70.set_0 | apply IsS70.set_1 | refine IsS70.far ?_ NB179_176.out _) | exact HI179.out)⟩, ⟨by repeat (first | (with_reducible first | exact HB.out | apply below_alloc | apply pw_below_drewN | apply below_drew1 | refine below_set ?_ (IsS70.ge HI179.out) | refine below_set ?_ GE176.out) | exact HB.out)⟩⟩
            · rw [if_neg c11] at H
              have c11b0 : decide (64 ≤ (wrap64 (a0_1 + a0_2))) = false := decide_eq_false c11
              clear c11
              by_cases c12 : a0_0 < (-1099511627776)
              · rw [if_pos c12] at H
                have c12b0 : decide (a0_0 < (-1099511627776)) = true := decide_eq_true c12
                clear c12
                have H' := Aside0.mk H
                clear H
                go_wp2
                go_meet
                case rel => exact ⟨_, (true), (by first | rfl | (simp; done) | (simp [*]; done)), H', ⟨by first | omega | exact Nat.le_refl _⟩, ⟨by (with_reducible repeat (first | refine blk_drewN ?_ _ | refine blk_drew ?_ | refine blk_alloc ?_ _)); exact BK176.out⟩, ⟨by repeat (first | (with_reducible first | exact HI179.out | apply IsS70.alloc | apply IsS70.drewN | apply IsS70.drew | apply IsS70.set_0 | apply IsS70.set_1 | refine IsS70.far ?_ NB179_176.out _) | exact HI179.out)⟩, ⟨by repeat (first | (with_reducible first | exact HB.out | apply below_alloc | apply pw_below_drewN | apply below_drew1 | refine below_set ?_ (IsS70.ge HI179.out) | refine below_set ?_ GE176.out) | exact HB.out)⟩⟩
              · rw [if_neg c12] at H
                have c12b0 : decide (a0_0 < (-1099511627776)) = false := decide_eq_false c12
                clear c12
                by_cases c13 : a0_0 > 1099511627776
                · rw [if_pos c13] at H
                  have c13b0 : decide (1099511627776 < a0_0) = true := decide_eq_true c13
                  clear c13
                  have H' := Aside0.mk H
                  clear H
                  go_wp2
                  go_meet
                  case rel => exact ⟨_, (true), (by first | rfl | (simp; done) | (simp [*]; done)), H', ⟨by first | omega | exact Nat.le_refl _⟩, ⟨by (with_reducible repeat (first | refine blk_drewN ?_ _ | refine blk_drew ?_ | refine blk_alloc ?_ _)); exact BK176.out⟩, ⟨by repeat (first | (with_reducible first | exact HI179.out | apply IsS70.alloc | apply IsS70.drewN | apply IsS70.drew | apply IsS70.set_0 | apply IsS70.set_1 | refine IsS70.far ?_ NB179_176.out _) | exact HI179.out)⟩, ⟨by repeat (first | (with_reducible first | exact HB.out | apply below_alloc | apply pw_below_drewN | apply below_drew1 | refine below_set ?_ (IsS70.ge HI179.out) | refine below_set ?_ GE176.out) | exact HB.out)⟩⟩
                · rw [if_neg c13] at H
                  have c13b0 : decide (1099511627776 < a0_0) = false := decide_eq_false c13
                  clear c13
                  have H' := Aside0.mk H
                  clear H
                  go_wp2
                  go_meet
                  case rel => exact ⟨_, (decide ((l0_3.length : Int) > 65536)), (by first | rfl | (simp; done) | (simp [*]; done)), H', ⟨by first | omega | exact Nat.le_refl _⟩, ⟨by (with_reducible repeat (first | refine blk_drewN ?_ _ | refine blk_drew ?_ | refine blk_alloc ?_ _)); exact BK176.out⟩, ⟨by repeat (first | (with_reducible first | exact HI179.out | apply IsS70.alloc | apply IsS70.drewN | apply IsS70.drew | apply IsS70.set_0 | apply IsS70.set_1 | refine IsS70.far ?_ NB179_176.out _) | exact HI179.out)⟩, ⟨by repeat (first | (with_reducible first | exact HB.out | apply below_alloc | apply pw_below_drewN | apply below_drew1 | refine below_set ?_ (IsS70.ge HI179.out) | refine below_set ?_ GE176.out) | exact HB.out)⟩⟩
  case rest =>
    clear HC3
    try clear c1
    try clear p2
    try clear c6
    try clear p6
    try clear c7
    try clear c7b0
    try clear c8
    try clear c8b0
    try clear c9
    try clear c9b0
    try clear c10
    try clear c10b0
    try clear c11
    try clear c11b0
    try clear c12
    try clear c12b0
    try clear c13
    try clear c13b0
    try clear hcz5_0
    try clear hfz5_0
    obtain ⟨kq, x56_2, rfl, HA, HJ2, BK176, HI179, HB⟩ := hcut
    cases kq with
    | zero => exact absurd HA.out (by simp [windhoverlaw18_GuardCalms.j0])
    | succ kj2 =>
      have H := HA.out
      clear HA
      simp only [windhoverlaw18_GuardCalms.j0] at H
      by_cases c14 : x56_2 = true
      · subst c14
        have H1 : ((windhoverlaw18_awake.f kj2).bind fun t180 => (some t180)) = some r := by rw [if_pos rfl] at H; exact H
        clear H
        have H := H1
        clear H1
        replace H := Option.bind_eq_some_iff.mp H
        obtain ⟨t180, A150, H⟩ := H
        replace H : (some t180) = some r := H
        have A15 := Aside0.mk A150
        clear A150
        obtain rfl := Option.some.inj H
        go_wp2_with (first | ((with_reducible refine gate_callee (f := 11) rfl ?_); refine goesL_ (some 57) rfl rfl Try.func11 (by kernel_rfl) rfl #[] rfl (by (try simp only [List.map_toArray, List.map_cons, List.map_nil]); first | done | rfl | (simp only [List.length_drop, List.length_take]; rfl)) ?_; (with_reducible refine (windhoverlaw18_awake.calls kj2  t180 _ A15.out).mono ?_); rintro e w16 ⟨rfl, hb⟩; refine ⟨_, rfl, ?_⟩; have n0_ := Aside0.mk (blk_below (g := gb176) (o := .cells #[.int .i64 a0_0, .int .i64 a0_1, .int .i64 a0_2, .slice A0_3 l0_3.length c0_3] 41 (0, 0)) (by (with_reducible repeat (first | refine blk_drewN ?_ _ | refine blk_drew ?_ | refine blk_alloc ?_ _)); exact BK176.out) hb); have n1_ := Aside0.mk (IsS70.below (by repeat (first | (with_reducible first | exact HI179.out | apply IsS70.alloc | apply IsS70.drewN | apply IsS70.drew | apply IsS70.set_0 | apply IsS70.set_1 | refine IsS70.far ?_ NB179_176.out _) | exact HI179.out)) hb); have n2_ := Aside0.mk (below_step (by repeat (first | (with_reducible first | exact HB.out | apply below_alloc | apply pw_below_drewN | apply below_drew1 | refine below_set ?_ (IsS70.ge HI179.out) | refine below_set ?_ GE176.out) | exact HB.out)) hb); clear BK176; clear HI179; clear HB; have BK176 := n0_; have HI179 := n1_; have HB := n2_; clear n0_ n1_ n2_; (try clear hb); (try clear hb2); (try clear hk); (try clear hi)))
        go_ret
        exact ⟨by first | rfl | (simp [errW_none, errW_some] <;> rfl) | (simp [*, errW_none, errW_some] <;> rfl), by repeat (first | (with_reducible first | exact HB.out | apply below_alloc | apply pw_below_drewN | apply below_drew1 | refine below_set ?_ (IsS70.ge HI179.out) | refine below_set ?_ GE176.out) | exact HB.out)⟩
      · replace c14 := Bool.eq_false_iff.mpr c14
        subst c14
        have H1 : (windhoverlaw18_GuardCalms.l0 kj2 a0_0 a0_1 a0_2 l0_3 (mx a0_0 (wrap64 (-a0_0))) 0 t177 t178) = some r := by rw [if_neg (show ¬ (false = true) by decide)] at H; exact H
        clear H
        have H := H1
        clear H1
        obtain ⟨ji17, hji17⟩ : ∃ j_ : Int, (mx a0_0 (wrap64 (-a0_0))) = j_ := ⟨_, rfl⟩
        replace H : (windhoverlaw18_GuardCalms.l0 kj2 a0_0 a0_1 a0_2 l0_3 ji17 0 t177 t178) = some r := by first | (rw [hji17] at H; exact H) | (simp only [hji17] at H ⊢; exact H)
        have hji17_ : (if a0_0 < (wrap64 (-a0_0)) then (wrap64 (-a0_0)) else a0_0) = ji17 := hji17
        have H' := Aside0.mk H
        clear H
        go_wp2
        go_loopg [3, 9] kj2 (fun kq v3 v9 w' => ∃ (x3_2 : Int) (x9_2 : Int) (x180000_2 : Int) (x180001_2 : Int), v3 = .int .i64 x3_2 ∧ v9 = .int .i64 x9_2 ∧ Aside0 (windhoverlaw18_GuardCalms.l0 kq x3_2 a0_1 a0_2 l0_3 ji17 x9_2 x180000_2 x180001_2 = some r) ∧ Aside0 (kq ≤ kj2) ∧ Aside0 (w'.heap[gb176]? = some (.cells #[.int .i64 a0_0, .int .i64 a0_1, .int .i64 a0_2, (.slice A0_3 l0_3.length c0_3)] 41 (0, 0))) ∧ Aside0 (IsS70 w w' g179 x180000_2 x180001_2) ∧ Aside0 (Below w.heap.size w w'))
        case atStart => exact ⟨(a0_0), (0), (t177), (t178), (by first | rfl | (simp; done) | (simp [*]; done)), (by first | rfl | (simp; done) | (simp [*]; done)), H', ⟨Nat.le_refl _⟩, ⟨by (with_reducible repeat (first | refine blk_drewN ?_ _ | refine blk_drew ?_ | refine blk_alloc ?_ _)); exact BK176.out⟩, ⟨by repeat (first | (with_reducible first | exact HI179.out | apply IsS70.alloc | apply IsS70.drewN | apply IsS70.drew | apply IsS70.set_0 | apply IsS70.set_1 | refine IsS70.far ?_ NB179_176.out _) | exact HI179.out)⟩, ⟨by repeat (first | (with_reducible first | exact HB.out | apply below_alloc | apply pw_below_drewN | apply below_drew1 | refine below_set ?_ (IsS70.ge HI179.out) | refine below_set ?_ GE176.out) | exact HB.out)⟩⟩
        case round =>
          clear H'
          try clear c1
          try clear p2
          try clear c6
          try clear p6
          try clear c7
          try clear c7b0
          try clear c8
          try clear c8b0
          try clear c9
          try clear c9b0
          try clear c10
          try clear c10b0
          try clear c11
          try clear c11b0
          try clear c12
          try clear c12b0
          try clear c13
          try clear c13b0
          try clear c14
          try clear hcz5_0
          try clear hfz5_0
          try clear p2
          try clear p6
          obtain ⟨x3_2, x9_2, x180000_2, x180001_2, rfl, rfl, HA, HK2, BK176, HI179, HB⟩ := hrel
          cases gk with
          | zero => exact absurd HA.out (by simp [windhoverlaw18_GuardCalms.l0])
          | succ k2 =>
            have H := HA.out
            clear HA
            simp only [windhoverlaw18_GuardCalms.l0] at H
            by_cases c18 : (wrap64 (x9_2 + 1)) < (l0_3.length : Int)
            · rw [if_pos c18] at H
              have c18b0 : decide ((wrap64 (x9_2 + 1)) < (l0_3.length : Int)) = true := decide_eq_true c18
              clear c18
              by_cases c19 : 0 ≤ x9_2
              · rw [if_pos c19] at H
                have c19b0 : decide (0 ≤ x9_2) = true := decide_eq_true c19
                clear c19
                by_cases c20 : x9_2 < (l0_3.length : Int)
                · rw [if_pos c20] at H
                  have c20b0 : decide (x9_2 < (l0_3.length : Int)) = true := decide_eq_true c20
                  clear c20
                  replace H := Option.bind_eq_some_iff.mp H
                  obtain ⟨t183, A210, H⟩ := H
                  replace H : (if 0 ≤ (wrap64 (x9_2 + 1)) then ((windhoverref01_Clamp.f (rd l0_3 (wrap64 (x9_2 + 1))) (wrap64 (-a0_2)) a0_2).bind fun t185 => ((guard_Backup_Step.f k2 x180000_2 x180001_2 false (wrap64 (x3_2 + t183)) 0 (wrap64 (x3_2 + t183)) 8000).bind fun bt186 => (if bt186.1 = bt186.2.2.1 then (if (wrap64 (64 - a0_2)) = 0 then (none) else (if (wrap64 ((wrap64 (Int.tdiv x9_2 2)) + 1)) ≥ (wrap64 ((wrap64 (Int.tdiv ji17 (wrap64 (64 - a0_2)))) + 2)) then (if (wrap64 ((wrap64 (x3_2 + bt186.1)) + t185)) > (wrap64 (a0_1 + a0_2)) then (none) else (if (wrap64 ((wrap64 (x3_2 + bt186.1)) + t185)) < (wrap64 ((wrap64 (-a0_1)) - a0_2)) then (none) else (windhoverlaw18_GuardCalms.l0 k2 (wrap64 ((wrap64 (x3_2 + bt186.1)) + t185)) a0_1 a0_2 l0_3 ji17 (wrap64 (x9_2 + 2)) bt186.2.2.2.1 bt186.2.2.2.2))) else (windhoverlaw18_GuardCalms.l0 k2 (wrap64 ((wrap64 (x3_2 + bt186.1)) + t185)) a0_1 a0_2 l0_3 ji17 (wrap64 (x9_2 + 2)) bt186.2.2.2.1 bt186.2.2.2.2))) else (none)))) else (none)) = some r := H
                  have A21 := Aside0.mk A210
                  clear A210
                  obtain ⟨ji22, hji22⟩ : ∃ j_ : Int, (wrap64 (x9_2 + 1)) = j_ := ⟨_, rfl⟩
                  replace H : (if 0 ≤ (ji22) then ((windhoverref01_Clamp.f (rd l0_3 (ji22)) (wrap64 (-a0_2)) a0_2).bind fun t185 => ((guard_Backup_Step.f k2 x180000_2 x180001_2 false (wrap64 (x3_2 + t183)) 0 (wrap64 (x3_2 + t183)) 8000).bind fun bt186 => (if bt186.1 = bt186.2.2.1 then (if (wrap64 (64 - a0_2)) = 0 then (none) else (if (wrap64 ((wrap64 (Int.tdiv x9_2 2)) + 1)) ≥ (wrap64 ((wrap64 (Int.tdiv ji17 (wrap64 (64 - a0_2)))) + 2)) then (if (wrap64 ((wrap64 (x3_2 + bt186.1)) + t185)) > (wrap64 (a0_1 + a0_2)) then (none) else (if (wrap64 ((wrap64 (x3_2 + bt186.1)) + t185)) < (wrap64 ((wrap64 (-a0_1)) - a0_2)) then (none) else (windhoverlaw18_GuardCalms.l0 k2 (wrap64 ((wrap64 (x3_2 + bt186.1)) + t185)) a0_1 a0_2 l0_3 ji17 (wrap64 (x9_2 + 2)) bt186.2.2.2.1 bt186.2.2.2.2))) else (windhoverlaw18_GuardCalms.l0 k2 (wrap64 ((wrap64 (x3_2 + bt186.1)) + t185)) a0_1 a0_2 l0_3 ji17 (wrap64 (x9_2 + 2)) bt186.2.2.2.1 bt186.2.2.2.2))) else (none)))) else (none)) = some r := by first | (rw [hji22] at H; exact H) | (simp only [hji22] at H ⊢; exact H)
                  (try rw [hji22] at c18b0)
                  (try rw [hji22] at A21)
                  have hji22w : (IntKind.i64.wrap (x9_2 + 1)) = ji22 := (i64_w _).trans hji22
                  by_cases c23 : 0 ≤ (ji22)
                  · rw [if_pos c23] at H
                    have c23b0 : decide (0 ≤ (ji22)) = true := decide_eq_true c23
                    clear c23
                    replace H := Option.bind_eq_some_iff.mp H
                    obtain ⟨t185, A240, H⟩ := H
                    replace H : ((guard_Backup_Step.f k2 x180000_2 x180001_2 false (wrap64 (x3_2 + t183)) 0 (wrap64 (x3_2 + t183)) 8000).bind fun bt186 => (if bt186.1 = bt186.2.2.1 then (if (wrap64 (64 - a0_2)) = 0 then (none) else (if (wrap64 ((wrap64 (Int.tdiv x9_2 2)) + 1)) ≥ (wrap64 ((wrap64 (Int.tdiv ji17 (wrap64 (64 - a0_2)))) + 2)) then (if (wrap64 ((wrap64 (x3_2 + bt186.1)) + t185)) > (wrap64 (a0_1 + a0_2)) then (none) else (if (wrap64 ((wrap64 (x3_2 + bt186.1)) + t185)) < (wrap64 ((wrap64 (-a0_1)) - a0_2)) then (none) else (windhoverlaw18_GuardCalms.l0 k2 (wrap64 ((wrap64 (x3_2 + bt186.1)) + t185)) a0_1 a0_2 l0_3 ji17 (wrap64 (x9_2 + 2)) bt186.2.2.2.1 bt186.2.2.2.2))) else (windhoverlaw18_GuardCalms.l0 k2 (wrap64 ((wrap64 (x3_2 + bt186.1)) + t185)) a0_1 a0_2 l0_3 ji17 (wrap64 (x9_2 + 2)) bt186.2.2.2.1 bt186.2.2.2.2))) else (none))) = some r := H
                    have A24 := Aside0.mk A240
                    clear A240
                    replace H := Option.bind_eq_some_iff.mp H
                    obtain ⟨⟨t186, t187, t188, t189, t190⟩, A250, H⟩ := H
                    replace H : (if t186 = t188 then (if (wrap64 (64 - a0_2)) = 0 then (none) else (if (wrap64 ((wrap64 (Int.tdiv x9_2 2)) + 1)) ≥ (wrap64 ((wrap64 (Int.tdiv ji17 (wrap64 (64 - a0_2)))) + 2)) then (if (wrap64 ((wrap64 (x3_2 + t186)) + t185)) > (wrap64 (a0_1 + a0_2)) then (none) else (if (wrap64 ((wrap64 (x3_2 + t186)) + t185)) < (wrap64 ((wrap64 (-a0_1)) - a0_2)) then (none) else (windhoverlaw18_GuardCalms.l0 k2 (wrap64 ((wrap64 (x3_2 + t186)) + t185)) a0_1 a0_2 l0_3 ji17 (wrap64 (x9_2 + 2)) t189 t190))) else (windhoverlaw18_GuardCalms.l0 k2 (wrap64 ((wrap64 (x3_2 + t186)) + t185)) a0_1 a0_2 l0_3 ji17 (wrap64 (x9_2 + 2)) t189 t190))) else (none)) = some r := H
                    have A25 := Aside0.mk A250
                    clear A250
                    by_cases c26 : t186 = t188
                    · rw [if_pos c26] at H
                      have c26b0 : (t186 == t188) = true := beq_iff_eq.mpr c26
                      have c26b1 : (t186 != t188) = false := bne_eq_false_iff_eq.mpr c26
                      clear c26
                      by_cases c27 : (wrap64 (64 - a0_2)) = 0
                      · rw [if_pos c27] at H
                        exact absurd H (by simp)
                      · rw [if_neg c27] at H
                        have c27b0 : ((wrap64 (64 - a0_2)) == 0) = false := beq_eq_false_iff_ne.mpr c27
                        have c27b1 : ((wrap64 (64 - a0_2)) != 0) = true := bne_iff_ne.mpr c27
                        by_cases c28 : (wrap64 ((wrap64 (Int.tdiv x9_2 2)) + 1)) ≥ (wrap64 ((wrap64 (Int.tdiv ji17 (wrap64 (64 - a0_2)))) + 2))
                        · rw [if_pos c28] at H
                          have c28b0 : decide ((wrap64 ((wrap64 (Int.tdiv ji17 (wrap64 (64 - a0_2)))) + 2)) ≤ (wrap64 ((wrap64 (Int.tdiv x9_2 2)) + 1))) = true := decide_eq_true c28
                          clear c28
                          by_cases c29 : (wrap64 ((wrap64 (x3_2 + t186)) + t185)) > (wrap64 (a0_1 + a0_2))
                          · rw [if_pos c29] at H
                            exact absurd H (by simp)
                          · rw [if_neg c29] at H
                            have c29b0 : decide ((wrap64 (a0_1 + a0_2)) < (wrap64 ((wrap64 (x3_2 + t186)) + t185))) = false := decide_eq_false c29
                            clear c29
                            by_cases c30 : (wrap64 ((wrap64 (x3_2 + t186)) + t185)) < (wrap64 ((wrap64 (-a0_1)) - a0_2))
                            · rw [if_pos c30] at H
                              exact absurd H (by simp)
                            · rw [if_neg c30] at H
                              have c30b0 : decide ((wrap64 ((wrap64 (x3_2 + t186)) + t185)) < (wrap64 ((wrap64 (-a0_1)) - a0_2))) = false := decide_eq_false c30
                              clear c30
                              have H' := Aside0.mk H
                              clear H
                              have p182 : 0 ≤ (x9_2 : Int) := of_decide_eq_true (by first | (with_reducible assumption) | assumption)
                              have q182 : x9_2 < (l0_3.length : Int) := of_decide_eq_true (by first | (with_reducible assumption) | assumption)
                              obtain ⟨ad182, e182, hx182_0⟩ := Kd.at_int HR0_3.out x9_2 p182 q182
                              cases e182
                              replace hx182_0 := (HB.out.cell (World.block_lt_of_cell? w _ hx182_0)).trans hx182_0
                              replace p182 := eq_true p182
                              replace q182 := eq_true q182
                              go_wp2_with (first | ((with_reducible refine gate_callee (f := 15) rfl ?_); refine goesL_ (some 76) rfl rfl Try.func15 (by kernel_rfl) rfl #[.int .i64 (rd l0_3 x9_2), .int .i64 (wrap64 (-a0_1)), .int .i64 a0_1] rfl (by (try simp only [List.map_toArray, List.map_cons, List.map_nil]); first | done | rfl | (simp only [List.length_drop, List.length_take]; rfl)) ?_; (with_reducible refine (windhoverref01_Clamp.calls (rd l0_3 x9_2) (wrap64 (-a0_1)) a0_1 t183 _ A21.out).mono ?_); rintro e w' ⟨rfl, ⟨nd, rfl⟩⟩; refine ⟨_, rfl, ?_⟩; (repeat (rw [drewN_self wr]; generalize hq_ : World.drewN wr _ = wr; have n0_ : Aside0 (wr.heap[gb176]? = some (.cells #[.int .i64 a0_0, .int .i64 a0_1, .int .i64 a0_2, .slice (some ad182) l0_3.length c0_3] 41 (0, 0))) := ⟨by rw [← hq_]; exact (by (with_reducible repeat (first | refine blk_drewN ?_ _ | refine blk_drew ?_ | refine blk_alloc ?_ _)); exact BK176.out)⟩; have n1_ : Aside0 (IsS70 w wr g179 x180000_2 x180001_2) := ⟨by rw [← hq_]; exact (by repeat (first | (with_reducible first | exact HI179.out | apply IsS70.alloc | apply IsS70.drewN | apply IsS70.drew | apply IsS70.set_0 | apply IsS70.set_1 | refine IsS70.far ?_ NB179_176.out _) | exact HI179.out))⟩; have n2_ : Aside0 (Below w.heap.size w wr) := ⟨by rw [← hq_]; exact (by repeat (first | (with_reducible first | exact HB.out | apply below_alloc | apply pw_below_drewN | apply below_drew1 | refine below_set ?_ (IsS70.ge HI179.out) | refine below_set ?_ GE176.out) | exact HB.out))⟩; clear BK176 HI179 HB hq_; have BK176 := n0_; have HI179 := n1_; have HB := n2_; clear n0_ n1_ n2_)); have p184 : 0 ≤ ((ji22) : Int) := of_decide_eq_true (by first | (with_reducible assumption) | assumption); have q184 : (ji22) < (l0_3.length : Int) := of_decide_eq_true (by first | (with_reducible assumption) | assumption); obtain ⟨ad184, e184, hx184_0⟩ := Kd.at_int HR0_3.out (ji22) p184 q184; obtain rfl : ad182 = ad184 := (by injection e184); replace hx184_0 := (HB.out.cell (World.block_lt_of_cell? w _ hx184_0)).trans hx184_0; replace p184 := eq_true p184; replace q184 := eq_true q184) | ((with_reducible refine gate_callee (f := 15) rfl ?_); refine goesL_ (some 85) rfl rfl Try.func15 (by kernel_rfl) rfl #[.int .i64 (rd l0_3 (ji22)), .int .i64 (wrap64 (-a0_2)), .int .i64 a0_2] rfl (by (try simp only [List.map_toArray, List.map_cons, List.map_nil]); first | done | (simp only [hji22]; rfl) | rfl | (simp only [List.length_drop, List.length_take]; rfl)) ?_; (with_reducible refine (windhoverref01_Clamp.calls (rd l0_3 (ji22)) (wrap64 (-a0_2)) a0_2 t185 _ A24.out).mono ?_); rintro e w' ⟨rfl, ⟨nd, rfl⟩⟩; refine ⟨_, rfl, ?_⟩; (repeat (rw [drewN_self wr]; generalize hq_ : World.drewN wr _ = wr; have n0_ : Aside0 (wr.heap[gb176]? = some (.cells #[.int .i64 a0_0, .int .i64 a0_1, .int .i64 a0_2, .slice (some ad182) l0_3.length c0_3] 41 (0, 0))) := ⟨by rw [← hq_]; exact (by (with_reducible repeat (first | refine blk_drewN ?_ _ | refine blk_drew ?_ | refine blk_alloc ?_ _)); exact BK176.out)⟩; have n1_ : Aside0 (IsS70 w wr g179 x180000_2 x180001_2) := ⟨by rw [← hq_]; exact (by repeat (first | (with_reducible first | exact HI179.out | apply IsS70.alloc | apply IsS70.drewN | apply IsS70.drew | apply IsS70.set_0 | apply IsS70.set_1 | refine IsS70.far ?_ NB179_176.out _) | exact HI179.out))⟩; have n2_ : Aside0 (Below w.heap.size w wr) := ⟨by rw [← hq_]; exact (by repeat (first | (with_reducible first | exact HB.out | apply below_alloc | apply pw_below_drewN | apply below_drew1 | refine below_set ?_ (IsS70.ge HI179.out) | refine below_set ?_ GE176.out) | exact HB.out))⟩; clear BK176 HI179 HB hq_; have BK176 := n0_; have HI179 := n1_; have HB := n2_; clear n0_ n1_ n2_))) | ((with_reducible refine gate_callee (f := 16) rfl ?_); refine goesL_ (some 94) rfl rfl Try.func16 (by kernel_rfl) rfl #[.pointer (some ⟨g179, 0, none⟩), .bool false, .agg #[.int .i64 (wrap64 (x3_2 + t183)), .int .i64 0, .int .i64 (wrap64 (x3_2 + t183))], .int .i64 8000] rfl (by (try simp only [List.map_toArray, List.map_cons, List.map_nil]); first | done | rfl | (simp only [List.length_drop, List.length_take]; rfl)) ?_; (with_reducible refine (guard_Backup_Step.calls k2 g179 x180000_2 x180001_2 false (wrap64 (x3_2 + t183)) 0 (wrap64 (x3_2 + t183)) 8000 t186 t187 t188 t189 t190 w _ ?side1 ?side2 A25.out).mono ?_); (case side1 => repeat (first | (with_reducible first | exact HI179.out | apply IsS70.alloc | apply IsS70.drewN | apply IsS70.drew | apply IsS70.set_0 | apply IsS70.set_1 | refine IsS70.far ?_ NB179_176.out _) | exact HI179.out)); (case side2 => repeat (first | (with_reducible first | exact HB.out | apply below_alloc | apply pw_below_drewN | apply below_drew1 | refine below_set ?_ (IsS70.ge HI179.out) | refine below_set ?_ GE176.out) | exact HB.out)); rintro e w31 ⟨rfl, hi, hb, hk⟩; refine ⟨_, rfl, ?_⟩; have n0_ := Aside0.mk (KeepBut.blk hk (g' := gb176) (o := .cells #[.int .i64 a0_0, .int .i64 a0_1, .int .i64 a0_2, .slice (some ad182) l0_3.length c0_3] 41 (0, 0)) (by (with_reducible repeat (first | refine blk_drewN ?_ _ | refine blk_drew ?_ | refine blk_alloc ?_ _)); exact BK176.out) NB176_179.out (by simp)); have n1_ := Aside0.mk (hb); have n2_ := Aside0.mk (hi); clear BK176; clear HB; clear HI179; have BK176 := n0_; have HB := n1_; have HI179 := n2_; clear n0_ n1_ n2_; (try clear hb); (try clear hb2); (try clear hk); (try clear hi)) | ((with_reducible refine gate_dst (N := 12) rfl ?_); (try (refine gate_guard (by rfl) ?_; dsimp only)); refine box_event ?hg (N := 12) ?hd (cs := #[.int .i64 0, .int .i64 0, .int .i64 0]) (t := 39) ?hr ?_; (case hd => rfl); (case hg => rfl); (case hr => first | (go_simp; done) | (go_simp; rfl)); intro gb191 hg w32 hbox hb; have n0_ := Aside0.mk (blk_below (g := gb176) (o := .cells #[.int .i64 a0_0, .int .i64 a0_1, .int .i64 a0_2, .slice (some ad182) l0_3.length c0_3] 41 (0, 0)) (by (with_reducible repeat (first | refine blk_drewN ?_ _ | refine blk_drew ?_ | refine blk_alloc ?_ _)); exact BK176.out) hb); have n1_ := Aside0.mk (IsS70.below (by repeat (first | (with_reducible first | exact HI179.out | apply IsS70.alloc | apply IsS70.drewN | apply IsS70.drew | apply IsS70.set_0 | apply IsS70.set_1 | refine IsS70.far ?_ NB179_176.out _) | exact HI179.out)) hb); have n2_ := Aside0.mk (below_step (by repeat (first | (with_reducible first | exact HB.out | apply below_alloc | apply pw_below_drewN | apply below_drew1 | refine below_set ?_ (IsS70.ge HI179.out) | refine below_set ?_ GE176.out) | exact HB.out)) hb); have n3_ := Aside0.mk (hbox); have n4_ := Aside0.mk ((by rw [hg]; exact (below_size (by repeat (first | (with_reducible first | exact HB.out | apply below_alloc | apply pw_below_drewN | apply below_drew1 | refine below_set ?_ (IsS70.ge HI179.out) | refine below_set ?_ GE176.out) | exact HB.out))) : w.heap.size ≤ gb191)); have n5_ := Aside0.mk ((by rw [hg]; exact (below_size (by repeat (first | (with_reducible first | exact HB.out | apply below_alloc | apply pw_below_drewN | apply below_drew1 | refine below_set ?_ (IsS70.ge HI179.out) | refine below_set ?_ GE176.out) | exact HB.out))) : w.heap.size ≤ gb191)); have n6_ := Aside0.mk ((by rw [hg]; exact Nat.ne_of_lt (blk_lt (g := gb176) (o := .cells #[.int .i64 a0_0, .int .i64 a0_1, .int .i64 a0_2, .slice (some ad182) l0_3.length c0_3] 41 (0, 0)) (by (with_reducible repeat (first | refine blk_drewN ?_ _ | refine blk_drew ?_ | refine blk_alloc ?_ _)); exact BK176.out)) : gb176 ≠ gb191)); have n7_ := Aside0.mk ((by rw [hg]; exact Nat.ne_of_gt (blk_lt (g := gb176) (o := .cells #[.int .i64 a0_0, .int .i64 a0_1, .int .i64 a0_2, .slice (some ad182) l0_3.length c0_3] 41 (0, 0)) (by (with_reducible repeat (first | refine blk_drewN ?_ _ | refine blk_drew ?_ | refine blk_alloc ?_ _)); exact BK176.out)) : gb191 ≠ gb176)); have n8_ := Aside0.mk ((by rw [hg]; exact Nat.ne_of_lt (IsS70.lt (show IsS70 w _ g179 t189 t190 from by repeat (first | (with_reducible first | exact HI179.out | apply IsS70.alloc | apply IsS70.drewN | apply IsS70.drew | apply IsS70.set_0 | apply IsS70.set_1 | refine IsS70.far ?_ NB179_176.out _) | exact HI179.out))) : g179 ≠ gb191)); have n9_ := Aside0.mk ((by rw [hg]; exact Nat.ne_of_gt (IsS70.lt (show IsS70 w _ g179 t189 t190 from by repeat (first | (with_reducible first | exact HI179.out | apply IsS70.alloc | apply IsS70.drewN | apply IsS70.drew | apply IsS70.set_0 | apply IsS70.set_1 | refine IsS70.far ?_ NB179_176.out _) | exact HI179.out))) : gb191 ≠ g179)); clear BK176; clear HI179; clear HB; have BK176 := n0_; have HI179 := n1_; have HB := n2_; have BK191 := n3_; have GW191 := n4_; have GE191 := n5_; have NB176_191 := n6_; have NB191_176 := n7_; have NB179_191 := n8_; have NB191_179 := n9_; clear n0_ n1_ n2_ n3_ n4_ n5_ n6_ n7_ n8_ n9_; clear hb hbox hg; have hnb33 := NB191_176.out; have hnc33 := NB176_191.out; have hnb34 := NB191_179.out; have hnc34 := NB179_191.out; have hcz35_0 := blk_cells3 (w := w32) (g := gb191) BK191.out; have hfz35_0 := blk_frozen BK191.out))
                              go_roundg k2
                              case measure => have := HJ2.out; have := HK2.out; omega
                              case rel => exact ⟨(wrap64 ((wrap64 (x3_2 + t186)) + t185)), (wrap64 (x9_2 + 2)), (t189), (t190), (by first | rfl | (simp; done) | (simp [*]; done)), (by first | rfl | (simp; done) | (simp [*]; done)), H', ⟨by have := HJ2.out; have := HK2.out; omega⟩, ⟨by (with_reducible repeat (first | refine blk_drewN ?_ _ | refine blk_drew ?_ | refine blk_alloc ?_ _)); refine blk_far ?_ NB176_191.out _; (with_reducible repeat (first | refine blk_drewN ?_ _ | refine blk_drew ?_ | refine blk_alloc ?_ _)); refine blk_far ?_ NB176_191.out _; (with_reducible repeat (first | refine blk_drewN ?_ _ | refine blk_drew ?_ | refine blk_alloc ?_ _)); refine blk_far ?_ NB176_191.out _; (with_reducible repeat (first | refine blk_drewN ?_ _ | refine blk_drew ?_ | refine blk_alloc ?_ _)); exact BK176.out⟩, ⟨by repeat (first | (with_reducible first | exact HI179.out | apply IsS70.alloc | apply IsS70.drewN | apply IsS70.drew | apply IsS70.set_0 | apply IsS70.set_1 | refine IsS70.far ?_ NB179_176.out _ | refine IsS70.far ?_ NB179_191.out _) | exact HI179.out)⟩, ⟨by repeat (first | (with_reducible first | exact HB.out | apply below_alloc | apply pw_below_drewN | apply below_drew1 | refine below_set ?_ (IsS70.ge HI179.out) | refine below_set ?_ GE176.out | refine below_set ?_ GE191.out) | exact HB.out)⟩⟩
                        · rw [if_neg c28] at H
                          have c28b0 : decide ((wrap64 ((wrap64 (Int.tdiv ji17 (wrap64 (64 - a0_2)))) + 2)) ≤ (wrap64 ((wrap64 (Int.tdiv x9_2 2)) + 1))) = false := decide_eq_false c28
                          clear c28
                          have H' := Aside0.mk H
                          clear H
                          have p182 : 0 ≤ (x9_2 : Int) := of_decide_eq_true (by first | (with_reducible assumption) | assumption)
                          have q182 : x9_2 < (l0_3.length : Int) := of_decide_eq_true (by first | (with_reducible assumption) | assumption)
                          obtain ⟨ad182, e182, hx182_0⟩ := Kd.at_int HR0_3.out x9_2 p182 q182
                          cases e182
                          replace hx182_0 := (HB.out.cell (World.block_lt_of_cell? w _ hx182_0)).trans hx182_0
                          replace p182 := eq_true p182
                          replace q182 := eq_true q182
                          go_wp2_with (first | ((with_reducible refine gate_callee (f := 15) rfl ?_); refine goesL_ (some 76) rfl rfl Try.func15 (by kernel_rfl) rfl #[.int .i64 (rd l0_3 x9_2), .int .i64 (wrap64 (-a0_1)), .int .i64 a0_1] rfl (by (try simp only [List.map_toArray, List.map_cons, List.map_nil]); first | done | rfl | (simp only [List.length_drop, List.length_take]; rfl)) ?_; (with_reducible refine (windhoverref01_Clamp.calls (rd l0_3 x9_2) (wrap64 (-a0_1)) a0_1 t183 _ A21.out).mono ?_); rintro e w' ⟨rfl, ⟨nd, rfl⟩⟩; refine ⟨_, rfl, ?_⟩; (repeat (rw [drewN_self wr]; generalize hq_ : World.drewN wr _ = wr; have n0_ : Aside0 (wr.heap[gb176]? = some (.cells #[.int .i64 a0_0, .int .i64 a0_1, .int .i64 a0_2, .slice (some ad182) l0_3.length c0_3] 41 (0, 0))) := ⟨by rw [← hq_]; exact (by (with_reducible repeat (first | refine blk_drewN ?_ _ | refine blk_drew ?_ | refine blk_alloc ?_ _)); exact BK176.out)⟩; have n1_ : Aside0 (IsS70 w wr g179 x180000_2 x180001_2) := ⟨by rw [← hq_]; exact (by repeat (first | (with_reducible first | exact HI179.out | apply IsS70.alloc | apply IsS70.drewN | apply IsS70.drew | apply IsS70.set_0 | apply IsS70.set_1 | refine IsS70.far ?_ NB179_176.out _) | exact HI179.out))⟩; have n2_ : Aside0 (Below w.heap.size w wr) := ⟨by rw [← hq_]; exact (by repeat (first | (with_reducible first | exact HB.out | apply below_alloc | apply pw_below_drewN | apply below_drew1 | refine below_set ?_ (IsS70.ge HI179.out) | refine below_set ?_ GE176.out) | exact HB.out))⟩; clear BK176 HI179 HB hq_; have BK176 := n0_; have HI179 := n1_; have HB := n2_; clear n0_ n1_ n2_)); have p184 : 0 ≤ ((ji22) : Int) := of_decide_eq_true (by first | (with_reducible assumption) | assumption); have q184 : (ji22) < (l0_3.length : Int) := of_decide_eq_true (by first | (with_reducible assumption) | assumption); obtain ⟨ad184, e184, hx184_0⟩ := Kd.at_int HR0_3.out (ji22) p184 q184; obtain rfl : ad182 = ad184 := (by injection e184); replace hx184_0 := (HB.out.cell (World.block_lt_of_cell? w _ hx184_0)).trans hx184_0; replace p184 := eq_true p184; replace q184 := eq_true q184) | ((with_reducible refine gate_callee (f := 15) rfl ?_); refine goesL_ (some 85) rfl rfl Try.func15 (by kernel_rfl) rfl #[.int .i64 (rd l0_3 (ji22)), .int .i64 (wrap64 (-a0_2)), .int .i64 a0_2] rfl (by (try simp only [List.map_toArray, List.map_cons, List.map_nil]); first | done | (simp only [hji22]; rfl) | rfl | (simp only [List.length_drop, List.length_take]; rfl)) ?_; (with_reducible refine (windhoverref01_Clamp.calls (rd l0_3 (ji22)) (wrap64 (-a0_2)) a0_2 t185 _ A24.out).mono ?_); rintro e w' ⟨rfl, ⟨nd, rfl⟩⟩; refine ⟨_, rfl, ?_⟩; (repeat (rw [drewN_self wr]; generalize hq_ : World.drewN wr _ = wr; have n0_ : Aside0 (wr.heap[gb176]? = some (.cells #[.int .i64 a0_0, .int .i64 a0_1, .int .i64 a0_2, .slice (some ad182) l0_3.length c0_3] 41 (0, 0))) := ⟨by rw [← hq_]; exact (by (with_reducible repeat (first | refine blk_drewN ?_ _ | refine blk_drew ?_ | refine blk_alloc ?_ _)); exact BK176.out)⟩; have n1_ : Aside0 (IsS70 w wr g179 x180000_2 x180001_2) := ⟨by rw [← hq_]; exact (by repeat (first | (with_reducible first | exact HI179.out | apply IsS70.alloc | apply IsS70.drewN | apply IsS70.drew | apply IsS70.set_0 | apply IsS70.set_1 | refine IsS70.far ?_ NB179_176.out _) | exact HI179.out))⟩; have n2_ : Aside0 (Below w.heap.size w wr) := ⟨by rw [← hq_]; exact (by repeat (first | (with_reducible first | exact HB.out | apply below_alloc | apply pw_below_drewN | apply below_drew1 | refine below_set ?_ (IsS70.ge HI179.out) | refine below_set ?_ GE176.out) | exact HB.out))⟩; clear BK176 HI179 HB hq_; have BK176 := n0_; have HI179 := n1_; have HB := n2_; clear n0_ n1_ n2_))) | ((with_reducible refine gate_callee (f := 16) rfl ?_); refine goesL_ (some 94) rfl rfl Try.func16 (by kernel_rfl) rfl #[.pointer (some ⟨g179, 0, none⟩), .bool false, .agg #[.int .i64 (wrap64 (x3_2 + t183)), .int .i64 0, .int .i64 (wrap64 (x3_2 + t183))], .int .i64 8000] rfl (by (try simp only [List.map_toArray, List.map_cons, List.map_nil]); first | done | rfl | (simp only [List.length_drop, List.length_take]; rfl)) ?_; (with_reducible refine (guard_Backup_Step.calls k2 g179 x180000_2 x180001_2 false (wrap64 (x3_2 + t183)) 0 (wrap64 (x3_2 + t183)) 8000 t186 t187 t188 t189 t190 w _ ?side1 ?side2 A25.out).mono ?_); (case side1 => repeat (first | (with_reducible first | exact HI179.out | apply IsS70.alloc | apply IsS70.drewN | apply IsS70.drew | apply IsS70.set_0 | apply IsS70.set_1 | refine IsS70.far ?_ NB179_176.out _) | exact HI179.out)); (case side2 => repeat (first | (with_reducible first | exact HB.out | apply below_alloc | apply pw_below_drewN | apply below_drew1 | refine below_set ?_ (IsS70.ge HI179.out) | refine below_set ?_ GE176.out) | exact HB.out)); rintro e w36 ⟨rfl, hi, hb, hk⟩; refine ⟨_, rfl, ?_⟩; have n0_ := Aside0.mk (KeepBut.blk hk (g' := gb176) (o := .cells #[.int .i64 a0_0, .int .i64 a0_1, .int .i64 a0_2, .slice (some ad182) l0_3.length c0_3] 41 (0, 0)) (by (with_reducible repeat (first | refine blk_drewN ?_ _ | refine blk_drew ?_ | refine blk_alloc ?_ _)); exact BK176.out) NB176_179.out (by simp)); have n1_ := Aside0.mk (hb); have n2_ := Aside0.mk (hi); clear BK176; clear HB; clear HI179; have BK176 := n0_; have HB := n1_; have HI179 := n2_; clear n0_ n1_ n2_; (try clear hb); (try clear hb2); (try clear hk); (try clear hi)) | ((with_reducible refine gate_dst (N := 12) rfl ?_); (try (refine gate_guard (by rfl) ?_; dsimp only)); refine box_event ?hg (N := 12) ?hd (cs := #[.int .i64 0, .int .i64 0, .int .i64 0]) (t := 39) ?hr ?_; (case hd => rfl); (case hg => rfl); (case hr => first | (go_simp; done) | (go_simp; rfl)); intro gb191 hg w37 hbox hb; have n0_ := Aside0.mk (blk_below (g := gb176) (o := .cells #[.int .i64 a0_0, .int .i64 a0_1, .int .i64 a0_2, .slice (some ad182) l0_3.length c0_3] 41 (0, 0)) (by (with_reducible repeat (first | refine blk_drewN ?_ _ | refine blk_drew ?_ | refine blk_alloc ?_ _)); exact BK176.out) hb); have n1_ := Aside0.mk (IsS70.below (by repeat (first | (with_reducible first | exact HI179.out | apply IsS70.alloc | apply IsS70.drewN | apply IsS70.drew | apply IsS70.set_0 | apply IsS70.set_1 | refine IsS70.far ?_ NB179_176.out _) | exact HI179.out)) hb); have n2_ := Aside0.mk (below_step (by repeat (first | (with_reducible first | exact HB.out | apply below_alloc | apply pw_below_drewN | apply below_drew1 | refine below_set ?_ (IsS70.ge HI179.out) | refine below_set ?_ GE176.out) | exact HB.out)) hb); have n3_ := Aside0.mk (hbox); have n4_ := Aside0.mk ((by rw [hg]; exact (below_size (by repeat (first | (with_reducible first | exact HB.out | apply below_alloc | apply pw_below_drewN | apply below_drew1 | refine below_set ?_ (IsS70.ge HI179.out) | refine below_set ?_ GE176.out) | exact HB.out))) : w.heap.size ≤ gb191)); have n5_ := Aside0.mk ((by rw [hg]; exact (below_size (by repeat (first | (with_reducible first | exact HB.out | apply below_alloc | apply pw_below_drewN | apply below_drew1 | refine below_set ?_ (IsS70.ge HI179.out) | refine below_set ?_ GE176.out) | exact HB.out))) : w.heap.size ≤ gb191)); have n6_ := Aside0.mk ((by rw [hg]; exact Nat.ne_of_lt (blk_lt (g := gb176) (o := .cells #[.int .i64 a0_0, .int .i64 a0_1, .int .i64 a0_2, .slice (some ad182) l0_3.length c0_3] 41 (0, 0)) (by (with_reducible repeat (first | refine blk_drewN ?_ _ | refine blk_drew ?_ | refine blk_alloc ?_ _)); exact BK176.out)) : gb176 ≠ gb191)); have n7_ := Aside0.mk ((by rw [hg]; exact Nat.ne_of_gt (blk_lt (g := gb176) (o := .cells #[.int .i64 a0_0, .int .i64 a0_1, .int .i64 a0_2, .slice (some ad182) l0_3.length c0_3] 41 (0, 0)) (by (with_reducible repeat (first | refine blk_drewN ?_ _ | refine blk_drew ?_ | refine blk_alloc ?_ _)); exact BK176.out)) : gb191 ≠ gb176)); have n8_ := Aside0.mk ((by rw [hg]; exact Nat.ne_of_lt (IsS70.lt (show IsS70 w _ g179 t189 t190 from by repeat (first | (with_reducible first | exact HI179.out | apply IsS70.alloc | apply IsS70.drewN | apply IsS70.drew | apply IsS70.set_0 | apply IsS70.set_1 | refine IsS70.far ?_ NB179_176.out _) | exact HI179.out))) : g179 ≠ gb191)); have n9_ := Aside0.mk ((by rw [hg]; exact Nat.ne_of_gt (IsS70.lt (show IsS70 w _ g179 t189 t190 from by repeat (first | (with_reducible first | exact HI179.out | apply IsS70.alloc | apply IsS70.drewN | apply IsS70.drew | apply IsS70.set_0 | apply IsS70.set_1 | refine IsS70.far ?_ NB179_176.out _) | exact HI179.out))) : gb191 ≠ g179)); clear BK176; clear HI179; clear HB; have BK176 := n0_; have HI179 := n1_; have HB := n2_; have BK191 := n3_; have GW191 := n4_; have GE191 := n5_; have NB176_191 := n6_; have NB191_176 := n7_; have NB179_191 := n8_; have NB191_179 := n9_; clear n0_ n1_ n2_ n3_ n4_ n5_ n6_ n7_ n8_ n9_; clear hb hbox hg; have hnb38 := NB191_176.out; have hnc38 := NB176_191.out; have hnb39 := NB191_179.out; have hnc39 := NB179_191.out; have hcz40_0 := blk_cells3 (w := w37) (g := gb191) BK191.out; have hfz40_0 := blk_frozen BK191.out))
                          go_roundg k2
                          case measure => have := HJ2.out; have := HK2.out; omega
                          case rel => exact ⟨(wrap64 ((wrap64 (x3_2 + t186)) + t185)), (wrap64 (x9_2 + 2)), (t189), (t190), (by first | rfl | (simp; done) | (simp [*]; done)), (by first | rfl | (simp; done) | (simp [*]; done)), H', ⟨by have := HJ2.out; have := HK2.out; omega⟩, ⟨by (with_reducible repeat (first | refine blk_drewN ?_ _ | refine blk_drew ?_ | refine blk_alloc ?_ _)); refine blk_far ?_ NB176_191.out _; (with_reducible repeat (first | refine blk_drewN ?_ _ | refine blk_drew ?_ | refine blk_alloc ?_ _)); refine blk_far ?_ NB176_191.out _; (with_reducible repeat (first | refine blk_drewN ?_ _ | refine blk_drew ?_ | refine blk_alloc ?_ _)); refine blk_far ?_ NB176_191.out _; (with_reducible repeat (first | refine blk_drewN ?_ _ | refine blk_drew ?_ | refine blk_alloc ?_ _)); exact BK176.out⟩, ⟨by repeat (first | (with_reducible first | exact HI179.out | apply IsS70.alloc | apply IsS70.drewN | apply IsS70.drew | apply IsS70.set_0 | apply IsS70.set_1 | refine IsS70.far ?_ NB179_176.out _ | refine IsS70.far ?_ NB179_191.out _) | exact HI179.out)⟩, ⟨by repeat (first | (with_reducible first | exact HB.out | apply below_alloc | apply pw_below_drewN | apply below_drew1 | refine below_set ?_ (IsS70.ge HI179.out) | refine below_set ?_ GE176.out | refine below_set ?_ GE191.out) | exact HB.out)⟩⟩
                    · rw [if_neg c26] at H
                      exact absurd H (by simp)
                  · rw [if_neg c23] at H
                    exact absurd H (by simp)
                · rw [if_neg c20] at H
                  exact absurd H (by simp)
              · rw [if_neg c19] at H
                exact absurd H (by simp)
            · rw [if_neg c18] at H
              have c18b0 : decide ((wrap64 (x9_2 + 1)) < (l0_3.length : Int)) = false := decide_eq_false c18
              clear c18
              replace H := Option.bind_eq_some_iff.mp H
              obtain ⟨t181, A410, H⟩ := H
              replace H : (some t181) = some r := H
              have A41 := Aside0.mk A410
              clear A410
              obtain rfl := Option.some.inj H
              go_wp2_with (first | ((with_reducible refine gate_callee (f := 11) rfl ?_); refine goesL_ (some 130) rfl rfl Try.func11 (by kernel_rfl) rfl #[] rfl (by (try simp only [List.map_toArray, List.map_cons, List.map_nil]); first | done | rfl | (simp only [List.length_drop, List.length_take]; rfl)) ?_; (with_reducible refine (windhoverlaw18_awake.calls k2  t181 _ A41.out).mono ?_); rintro e w42 ⟨rfl, hb⟩; refine ⟨_, rfl, ?_⟩; have n0_ := Aside0.mk (blk_below (g := gb176) (o := .cells #[.int .i64 a0_0, .int .i64 a0_1, .int .i64 a0_2, .slice A0_3 l0_3.length c0_3] 41 (0, 0)) (by (with_reducible repeat (first | refine blk_drewN ?_ _ | refine blk_drew ?_ | refine blk_alloc ?_ _)); exact BK176.out) hb); have n1_ := Aside0.mk (IsS70.below (by repeat (first | (with_reducible first | exact HI179.out | apply IsS70.alloc | apply IsS70.drewN | apply IsS70.drew | apply IsS70.set_0 | apply IsS70.set_1 | refine IsS70.far ?_ NB179_176.out _) | exact HI179.out)) hb); have n2_ := Aside0.mk (below_step (by repeat (first | (with_reducible first | exact HB.out | apply below_alloc | apply pw_below_drewN | apply below_drew1 | refine below_set ?_ (IsS70.ge HI179.out) | refine below_set ?_ GE176.out) | exact HB.out)) hb); clear BK176; clear HI179; clear HB; have BK176 := n0_; have HI179 := n1_; have HB := n2_; clear n0_ n1_ n2_; (try clear hb); (try clear hb2); (try clear hk); (try clear hi)))
              go_ret
              exact ⟨by first | rfl | (simp [errW_none, errW_some] <;> rfl) | (simp only [← hji17]; first | rfl | (simp [errW_none, errW_some] <;> rfl)) | (simp [*, errW_none, errW_some] <;> rfl), by repeat (first | (with_reducible first | exact HB.out | apply below_alloc | apply pw_below_drewN | apply below_drew1 | refine below_set ?_ (IsS70.ge HI179.out) | refine below_set ?_ GE176.out) | exact HB.out)⟩

/-- THE ONE PURE STATEMENT of windhoverlaw18_GuardCalms: yours. -/
def windhoverlaw18_GuardCalms.Pure : Prop := ∀ (a0_0 : Int) (a0_1 : Int) (a0_2 : Int) (l0_3 : List Int), ((Lit.int .i64 a0_0).wf = true) → ((Lit.int .i64 a0_1).wf = true) → ((Lit.int .i64 a0_2).wf = true) → (l0_3.length ≤ maxLen) → (∀ p_ ∈ l0_3, (Lit.int .i64 p_).wf = true) → ∃ k, windhoverlaw18_GuardCalms.f k a0_0 a0_1 a0_2 l0_3 = some true
theorem windhoverlaw18_GuardCalms.walk (P : windhoverlaw18_GuardCalms.Pure) (a0_0 : Int) (a0_1 : Int) (a0_2 : Int) (A0_3 : Option Addr) (c0_3 : Nat) (l0_3 : List Int) (w : World) (w0_0 : (Lit.int .i64 a0_0).wf = true) (w0_1 : (Lit.int .i64 a0_1).wf = true) (w0_2 : (Lit.int .i64 a0_2).wf = true) (m0_3 : l0_3.length ≤ maxLen) (w0_3 : ∀ p_ ∈ l0_3, (Lit.int .i64 p_).wf = true) (hr0_3 : Kd.C (Kd.int .i64) w A0_3 l0_3.length l0_3) (hc0_3 : l0_3.length ≤ c0_3) :
    Calls Try.prog 6 #[.agg #[.int .i64 a0_0, .int .i64 a0_1, .int .i64 a0_2, .slice A0_3 l0_3.length c0_3]] w fun e w' => e = .returned (.bool true) ∧ Below w.heap.size w w' := by
  obtain ⟨k, h⟩ := P a0_0 a0_1 a0_2 l0_3 w0_0 w0_1 w0_2 m0_3 w0_3
  refine (windhoverlaw18_GuardCalms.calls k a0_0 a0_1 a0_2 A0_3 c0_3 l0_3 true w hr0_3 hc0_3 h).mono ?_
  rintro e w' ⟨rfl, hd⟩
  exact ⟨rfl, hd⟩

end Go.Proofs.Ytfpggoiopjlkiaa.PGuardCalms
