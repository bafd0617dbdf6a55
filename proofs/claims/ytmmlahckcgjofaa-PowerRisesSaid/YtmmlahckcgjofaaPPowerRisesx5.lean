-- WRITTEN BY wip/tools/aprint.py of this claim's repository over the kit's words: not typed by hand
import Derived.Test.YtmmlahckcgjofaaPPowerRisesx0
import Derived.Test.YtmmlahckcgjofaaPPowerRisesx2
import Derived.Test.YtmmlahckcgjofaaPPowerRisesx3
import Derived.Test.YtmmlahckcgjofaaPPowerRisesx4
namespace Go.Proofs.Ytmmlahckcgjofaa.PPowerRises
open Go.RowKit Go.Proofs.YtmmlahckcgjofaaW.PrintWords Go.Proofs.YtmmlahckcgjofaaW.PrintLast Go.Proofs.YtmmlahckcgjofaaW.PrintMore
attribute [local go_sem] max2_int min2_int max_two min_two max_three min_three max_four min_four   -- for this text's walks alone
set_option linter.unusedVariables false
set_option linter.unusedSimpArgs false

/-! ### params_LandTicks: function 28 -/
def params_LandTicks.f (k : Nat) (l0 : List Int) (a1 : Int) : Option (Int × Int) := (params_Margins.f k l0).bind fun bt204 => (if bt204.2.2.2.2.2.2 = 0 then ((params_outside.f a1).bind fun t212 => (if t212 = true then (some (0, 1)) else ((params_way.f bt204.2.2.2.1 bt204.1).bind fun t213 => (if bt204.1 = 0 then (none) else (if 9 < (l0.length : Int) then ((params_up.f (wrap64 ((wrap64 ((wrap64 (a1 * 6400)) + t213)) + (wrap64 (16 * bt204.2.2.2.1)))) (wrap64 ((rd l0 9) - bt204.2.1))).bind fun t216 => (some (wrap64 ((wrap64 ((wrap64 ((wrap64 ((wrap64 (Int.tdiv bt204.2.2.2.1 bt204.1)) + (wrap64 (Int.tdiv (rd l0 9) 32)))) + t216)) + 40)) + 64), 0))) else (none)))))) else (some (0, bt204.2.2.2.2.2.2)))
theorem params_LandTicks.mono : ∀ a0 a1 k, LeO (params_LandTicks.f k a0 a1) (params_LandTicks.f (k + 1) a0 a1) := by
  intro a0 a1 k
  unfold params_LandTicks.f
  repeat' first
      | (with_reducible exact params_Margins.mono _ _)
      | (with_reducible exact LeO.refl _)
      | (with_reducible exact LeO.none _)
      | (with_reducible refine LeO.ite ?_ ?_)
      | (with_reducible refine LeO.bind ?_ (fun _ => ?_))
      | exact params_Margins.mono _ _
      | exact LeO.none _
      | refine LeO.ite ?_ ?_
      | refine LeO.bind ?_ (fun _ => ?_)
def params_LandTicks.T6 : Bool × List (List Nat × List Nat) := (true, [([], []), ([0], [0]), ([], []), ([2], [2]), ([], []), ([4], [4]), ([3, 5], [3, 5]), ([1, 6], [1, 6]), ([], []), ([8], [8]), ([9], [9]), ([7, 10], [7, 10]), ([11, 6, 0, 1, 2, 3, 4, 5, 6, 7, 8, 9, 10, 11], [11])])
def params_LandTicks.B6 : List Nat := [0, 1, 0, 4, 0, 16, 60, 127, 0, 256, 768, 2047, 4095]
theorem params_LandTicks.tab6 : rtab .any (opsOf Try.f28 6) = params_LandTicks.T6 := by kernel_rfl
theorem params_LandTicks.bits6 : waitsOk params_LandTicks.T6.2 params_LandTicks.B6 = true := by kernel_rfl
def params_LandTicks.T7 : Bool × List (List Nat × List Nat) := (true, [([], []), ([0], [0]), ([], []), ([2], [2]), ([1, 3], [1, 3]), ([], []), ([5], [5]), ([6], [6]), ([7], [7]), ([4, 8], [4, 8]), ([], []), ([], []), ([11], [11]), ([12], [12]), ([], []), ([14], [14]), ([13, 15], [13, 15]), ([10, 16], [10, 16]), ([9, 17], [9, 17]), ([18], [18]), ([19], [19]), ([20, 17, 0, 1, 2, 3, 4, 5, 6, 7, 8, 9, 10, 11, 12, 13, 14, 15, 16, 17, 18, 19, 20], [20]), ([21, 0, 1, 2, 3, 4, 5, 6, 7, 8, 9, 10, 11, 12, 13, 14, 15, 16, 17, 18, 19, 20, 21], [])])
def params_LandTicks.B7 : List Nat := [0, 1, 0, 4, 15, 0, 32, 96, 224, 511, 0, 0, 2048, 6144, 0, 16384, 63488, 130048, 262143, 524287, 1048575, 2097151, 4194303]
theorem params_LandTicks.tab7 : rtab .any (opsOf Try.f28 7) = params_LandTicks.T7 := by kernel_rfl
theorem params_LandTicks.bits7 : waitsOk params_LandTicks.T7.2 params_LandTicks.B7 = true := by kernel_rfl
set_option maxHeartbeats 8000000 in
set_option maxRecDepth 100000 in
theorem params_LandTicks.calls (k : Nat) (A0 : Option Addr) (c0 : Nat) (l0 : List Int) (a1 : Int) (r1 : Int) (r2 : Int) (w : World) (hr0 : Kd.C (Kd.int .i64) w A0 l0.length l0) (hc0 : l0.length ≤ c0) (h : params_LandTicks.f k l0 a1 = some (r1, r2)) :
    Calls Try.prog 28 #[.slice A0 l0.length c0, .int .i64 a1] w fun e w' => e = .returned (.tuple #[.int .i64 r1, .int .i64 r2]) ∧ Below w.heap.size w w' := by
  have hu54 := Try.underlying54
  have HR0 := Aside0.mk hr0
  have HC0 := Aside0.mk hc0
  clear hr0 hc0
  have HB := Aside0.mk (Below.refl w.heap.size w)
  have H : ((params_Margins.f k l0).bind fun bt204 => (if bt204.2.2.2.2.2.2 = 0 then ((params_outside.f a1).bind fun t212 => (if t212 = true then (some (0, 1)) else ((params_way.f bt204.2.2.2.1 bt204.1).bind fun t213 => (if bt204.1 = 0 then (none) else (if 9 < (l0.length : Int) then ((params_up.f (wrap64 ((wrap64 ((wrap64 (a1 * 6400)) + t213)) + (wrap64 (16 * bt204.2.2.2.1)))) (wrap64 ((rd l0 9) - bt204.2.1))).bind fun t216 => (some (wrap64 ((wrap64 ((wrap64 ((wrap64 ((wrap64 (Int.tdiv bt204.2.2.2.1 bt204.1)) + (wrap64 (Int.tdiv (rd l0 9) 32)))) + t216)) + 40)) + 64), 0))) else (none)))))) else (some (0, bt204.2.2.2.2.2.2)))) = some (r1, r2) := h
  clear h
  replace H := Option.bind_eq_some_iff.mp H
  obtain ⟨⟨t204, t205, t206, t207, t208, t209, t210⟩, A30, H⟩ := H
  replace H : (if t210 = 0 then ((params_outside.f a1).bind fun t212 => (if t212 = true then (some (0, 1)) else ((params_way.f t207 t204).bind fun t213 => (if t204 = 0 then (none) else (if 9 < (l0.length : Int) then ((params_up.f (wrap64 ((wrap64 ((wrap64 (a1 * 6400)) + t213)) + (wrap64 (16 * t207)))) (wrap64 ((rd l0 9) - t205))).bind fun t216 => (some (wrap64 ((wrap64 ((wrap64 ((wrap64 ((wrap64 (Int.tdiv t207 t204)) + (wrap64 (Int.tdiv (rd l0 9) 32)))) + t216)) + 40)) + 64), 0))) else (none)))))) else (some (0, t210))) = some (r1, r2) := H
  have A3 := Aside0.mk A30
  clear A30
  by_cases c4 : t210 = 0
  · rw [if_pos c4] at H
    have c4b0 : (t210 == 0) = true := beq_iff_eq.mpr c4
    have c4b1 : (t210 != 0) = false := bne_eq_false_iff_eq.mpr c4
    clear c4
    replace H := Option.bind_eq_some_iff.mp H
    obtain ⟨t212, A50, H⟩ := H
    replace H : (if t212 = true then (some (0, 1)) else ((params_way.f t207 t204).bind fun t213 => (if t204 = 0 then (none) else (if 9 < (l0.length : Int) then ((params_up.f (wrap64 ((wrap64 ((wrap64 (a1 * 6400)) + t213)) + (wrap64 (16 * t207)))) (wrap64 ((rd l0 9) - t205))).bind fun t216 => (some (wrap64 ((wrap64 ((wrap64 ((wrap64 ((wrap64 (Int.tdiv t207 t204)) + (wrap64 (Int.tdiv (rd l0 9) 32)))) + t216)) + 40)) + 64), 0))) else (none))))) = some (r1, r2) := H
    have A5 := Aside0.mk A50
    clear A50
    by_cases c6 : t212 = true
    · subst c6
      have H1 : (some (0, 1)) = some (r1, r2) := by rw [if_pos rfl] at H; exact H
      clear H
      have H := H1
      clear H1
      simp only [Option.some.injEq, Prod.mk.injEq] at H
      obtain ⟨rfl, rfl⟩ := H
      go_enter Try.func28, Try.ntmps28
      go_wp2_with (first | ((with_reducible refine gate_callee (f := 18) rfl ?_); refine goesL_ (some 11) rfl rfl Try.func18 (by kernel_rfl) rfl #[.slice A0 l0.length c0] rfl (by (try simp only [List.map_toArray, List.map_cons, List.map_nil]); first | done | rfl | (simp only [List.length_drop, List.length_take]; rfl)) ?_; (with_reducible refine (params_Margins.calls k _ _ l0 t204 t205 t206 t207 t208 t209 t210 _ ?side1 ?side2 A3.out).mono ?_); (case side1 => repeat (first | exact HR0.out | (with_reducible refine Kd.C_alloc ?_ _) | (with_reducible refine Kd.C_drewN ?_ _) | (with_reducible refine Kd.C_drew ?_))); (case side2 => exact HC0.out); rintro e w7 ⟨rfl, hb⟩; refine ⟨_, rfl, ?_⟩; have n0_ := Aside0.mk (below_step (by repeat (first | (with_reducible first | exact HB.out | apply below_alloc | apply pw_below_drewN | apply below_drew1) | exact HB.out)) hb); clear HB; have HB := n0_; clear n0_; (try clear hb); (try clear hb2); (try clear hk); (try clear hi)) | ((with_reducible refine gate_dst (N := 6) rfl ?_); refine box_event ?hg (N := 6) ?hd (cs := #[.int .i64 0, .int .i64 0, .int .i64 0, .int .i64 0, .int .i64 0, .int .i64 0]) (t := 54) ?hr ?_; (case hd => rfl); (case hg => rfl); (case hr => first | (go_simp; done) | (go_simp; rfl)); intro gb211 hg w8 hbox hb; have n0_ := Aside0.mk (below_step (by repeat (first | (with_reducible first | exact HB.out | apply below_alloc | apply pw_below_drewN | apply below_drew1) | exact HB.out)) hb); have n1_ := Aside0.mk (hbox); have n2_ := Aside0.mk ((by rw [hg]; exact (below_size (by repeat (first | (with_reducible first | exact HB.out | apply below_alloc | apply pw_below_drewN | apply below_drew1) | exact HB.out))) : w.heap.size ≤ gb211)); have n3_ := Aside0.mk ((by rw [hg]; exact (below_size (by repeat (first | (with_reducible first | exact HB.out | apply below_alloc | apply pw_below_drewN | apply below_drew1) | exact HB.out))) : w.heap.size ≤ gb211)); clear HB; have HB := n0_; have BK211 := n1_; have GW211 := n2_; have GE211 := n3_; clear n0_ n1_ n2_ n3_; clear hb hbox hg; have hcz9_0 := blk_cells6 (w := w8) (g := gb211) BK211.out; have hfz9_0 := blk_frozen BK211.out) | ((with_reducible refine gate_callee (f := 42) rfl ?_); refine goesL_ (some 18) rfl rfl Try.func42 (by kernel_rfl) rfl #[.int .i64 a1] rfl (by (try simp only [List.map_toArray, List.map_cons, List.map_nil]); first | done | rfl | (simp only [List.length_drop, List.length_take]; rfl)) ?_; (with_reducible refine (params_outside.calls a1 true _ A5.out).mono ?_); rintro e w' ⟨rfl, ⟨nd, rfl⟩⟩; refine ⟨_, rfl, ?_⟩))
      go_ret2
      exact ⟨by first | rfl | (simp [errW_none, errW_some] <;> rfl) | (simp [*, errW_none, errW_some] <;> rfl), by repeat (first | (with_reducible first | exact HB.out | apply below_alloc | apply pw_below_drewN | apply below_drew1 | refine below_set ?_ GE211.out) | exact HB.out)⟩
    · replace c6 := Bool.eq_false_iff.mpr c6
      subst c6
      have H1 : ((params_way.f t207 t204).bind fun t213 => (if t204 = 0 then (none) else (if 9 < (l0.length : Int) then ((params_up.f (wrap64 ((wrap64 ((wrap64 (a1 * 6400)) + t213)) + (wrap64 (16 * t207)))) (wrap64 ((rd l0 9) - t205))).bind fun t216 => (some (wrap64 ((wrap64 ((wrap64 ((wrap64 ((wrap64 (Int.tdiv t207 t204)) + (wrap64 (Int.tdiv (rd l0 9) 32)))) + t216)) + 40)) + 64), 0))) else (none)))) = some (r1, r2) := by rw [if_neg (show ¬ (false = true) by decide)] at H; exact H
      clear H
      have H := H1
      clear H1
      replace H := Option.bind_eq_some_iff.mp H
      obtain ⟨t213, A100, H⟩ := H
      replace H : (if t204 = 0 then (none) else (if 9 < (l0.length : Int) then ((params_up.f (wrap64 ((wrap64 ((wrap64 (a1 * 6400)) + t213)) + (wrap64 (16 * t207)))) (wrap64 ((rd l0 9) - t205))).bind fun t216 => (some (wrap64 ((wrap64 ((wrap64 ((wrap64 ((wrap64 (Int.tdiv t207 t204)) + (wrap64 (Int.tdiv (rd l0 9) 32)))) + t216)) + 40)) + 64), 0))) else (none))) = some (r1, r2) := H
      have A10 := Aside0.mk A100
      clear A100
      by_cases c11 : t204 = 0
      · rw [if_pos c11] at H
        exact absurd H (by simp)
      · rw [if_neg c11] at H
        have c11b0 : (t204 == 0) = false := beq_eq_false_iff_ne.mpr c11
        have c11b1 : (t204 != 0) = true := bne_iff_ne.mpr c11
        by_cases c12 : 9 < (l0.length : Int)
        · rw [if_pos c12] at H
          have c12b0 : decide (9 < (l0.length : Int)) = true := decide_eq_true c12
          have c12b1 : decide (9 < l0.length) = true := decide_eq_true (by omega)
          clear c12
          replace H := Option.bind_eq_some_iff.mp H
          obtain ⟨t216, A130, H⟩ := H
          replace H : (some (wrap64 ((wrap64 ((wrap64 ((wrap64 ((wrap64 (Int.tdiv t207 t204)) + (wrap64 (Int.tdiv (rd l0 9) 32)))) + t216)) + 40)) + 64), 0)) = some (r1, r2) := H
          have A13 := Aside0.mk A130
          clear A130
          simp only [Option.some.injEq, Prod.mk.injEq] at H
          obtain ⟨rfl, rfl⟩ := H
          go_enter Try.func28, Try.ntmps28
          try go_wp2_with (first | ((with_reducible refine gate_callee (f := 18) rfl ?_); refine goesL_ (some 11) rfl rfl Try.func18 (by kernel_rfl) rfl #[.slice A0 l0.length c0] rfl (by (try simp only [List.map_toArray, List.map_cons, List.map_nil]); first | done | rfl | (simp only [List.length_drop, List.length_take]; rfl)) ?_; (with_reducible refine (params_Margins.calls k _ _ l0 t204 t205 t206 t207 t208 t209 t210 _ ?side1 ?side2 A3.out).mono ?_); (case side1 => repeat (first | exact HR0.out | (with_reducible refine Kd.C_alloc ?_ _) | (with_reducible refine Kd.C_drewN ?_ _) | (with_reducible refine Kd.C_drew ?_))); (case side2 => exact HC0.out); rintro e w14 ⟨rfl, hb⟩; refine ⟨_, rfl, ?_⟩; have n0_ := Aside0.mk (below_step (by repeat (first | (with_reducible first | exact HB.out | apply below_alloc | apply pw_below_drewN | apply below_drew1) | exact HB.out)) hb); clear HB; have HB := n0_; clear n0_; (try clear hb); (try clear hb2); (try clear hk); (try clear hi)) | ((with_reducible refine gate_dst (N := 6) rfl ?_); refine box_event ?hg (N := 6) ?hd (cs := #[.int .i64 0, .int .i64 0, .int .i64 0, .int .i64 0, .int .i64 0, .int .i64 0]) (t := 54) ?hr ?_; (case hd => rfl); (case hg => rfl); (case hr => first | (go_simp; done) | (go_simp; rfl)); intro gb211 hg w15 hbox hb; have n0_ := Aside0.mk (below_step (by repeat (first | (with_reducible first | exact HB.out | apply below_alloc | apply pw_below_drewN | apply below_drew1) | exact HB.out)) hb); have n1_ := Aside0.mk (hbox); have n2_ := Aside0.mk ((by rw [hg]; exact (below_size (by repeat (first | (with_reducible first | exact HB.out | apply below_alloc | apply pw_below_drewN | apply below_drew1) | exact HB.out))) : w.heap.size ≤ gb211)); have n3_ := Aside0.mk ((by rw [hg]; exact (below_size (by repeat (first | (with_reducible first | exact HB.out | apply below_alloc | apply pw_below_drewN | apply below_drew1) | exact HB.out))) : w.heap.size ≤ gb211)); clear HB; have HB := n0_; have BK211 := n1_; have GW211 := n2_; have GE211 := n3_; clear n0_ n1_ n2_ n3_; clear hb hbox hg; have hcz16_0 := blk_cells6 (w := w15) (g := gb211) BK211.out; have hfz16_0 := blk_frozen BK211.out) | ((with_reducible refine gate_callee (f := 42) rfl ?_); refine goesL_ (some 18) rfl rfl Try.func42 (by kernel_rfl) rfl #[.int .i64 a1] rfl (by (try simp only [List.map_toArray, List.map_cons, List.map_nil]); first | done | rfl | (simp only [List.length_drop, List.length_take]; rfl)) ?_; (with_reducible refine (params_outside.calls a1 false _ A5.out).mono ?_); rintro e w' ⟨rfl, ⟨nd, rfl⟩⟩; refine ⟨_, rfl, ?_⟩))
          (repeat (rw [drewN_self w15]; generalize hq_ : World.drewN w15 _ = w15; have n0_ := Aside0.mk (blk_at hq_ BK211.out); have n1_ := Aside0.mk (below_at hq_ HB.out); clear hq_ BK211 HB; have BK211 := n0_; have HB := n1_; clear n0_ n1_))
          have n0_ : Aside0 (((((((w15.setCell ⟨gb211, 0, none⟩ (.int .i64 t204)).setCell ⟨gb211, 1, none⟩ (.int .i64 t205)).setCell ⟨gb211, 2, none⟩ (.int .i64 t206)).setCell ⟨gb211, 3, none⟩ (.int .i64 t207)).setCell ⟨gb211, 4, none⟩ (.int .i64 t208)).setCell ⟨gb211, 5, none⟩ (.int .i64 t209)).heap[gb211]? = some (.cells #[.int .i64 t204, .int .i64 t205, .int .i64 t206, .int .i64 t207, .int .i64 t208, .int .i64 t209] 54 (0, 0))) := ⟨by (with_reducible repeat (first | refine blk_drewN ?_ _ | refine blk_drew ?_ | refine blk_alloc ?_ _)); refine blk_put (cs := #[.int .i64 t204, .int .i64 t205, .int .i64 t206, .int .i64 t207, .int .i64 t208, .int .i64 0]) ?_ 5 _ rfl; (with_reducible repeat (first | refine blk_drewN ?_ _ | refine blk_drew ?_ | refine blk_alloc ?_ _)); refine blk_put (cs := #[.int .i64 t204, .int .i64 t205, .int .i64 t206, .int .i64 t207, .int .i64 0, .int .i64 0]) ?_ 4 _ rfl; (with_reducible repeat (first | refine blk_drewN ?_ _ | refine blk_drew ?_ | refine blk_alloc ?_ _)); refine blk_put (cs := #[.int .i64 t204, .int .i64 t205, .int .i64 t206, .int .i64 0, .int .i64 0, .int .i64 0]) ?_ 3 _ rfl; (with_reducible repeat (first | refine blk_drewN ?_ _ | refine blk_drew ?_ | refine blk_alloc ?_ _)); refine blk_put (cs := #[.int .i64 t204, .int .i64 t205, .int .i64 0, .int .i64 0, .int .i64 0, .int .i64 0]) ?_ 2 _ rfl; (with_reducible repeat (first | refine blk_drewN ?_ _ | refine blk_drew ?_ | refine blk_alloc ?_ _)); refine blk_put (cs := #[.int .i64 t204, .int .i64 0, .int .i64 0, .int .i64 0, .int .i64 0, .int .i64 0]) ?_ 1 _ rfl; (with_reducible repeat (first | refine blk_drewN ?_ _ | refine blk_drew ?_ | refine blk_alloc ?_ _)); refine blk_put (cs := #[.int .i64 0, .int .i64 0, .int .i64 0, .int .i64 0, .int .i64 0, .int .i64 0]) ?_ 0 _ rfl; (with_reducible repeat (first | refine blk_drewN ?_ _ | refine blk_drew ?_ | refine blk_alloc ?_ _)); exact BK211.out⟩
          have n1_ : Aside0 (Below w.heap.size w ((((((w15.setCell ⟨gb211, 0, none⟩ (.int .i64 t204)).setCell ⟨gb211, 1, none⟩ (.int .i64 t205)).setCell ⟨gb211, 2, none⟩ (.int .i64 t206)).setCell ⟨gb211, 3, none⟩ (.int .i64 t207)).setCell ⟨gb211, 4, none⟩ (.int .i64 t208)).setCell ⟨gb211, 5, none⟩ (.int .i64 t209))) := ⟨by repeat (first | (with_reducible first | exact HB.out | apply below_alloc | apply pw_below_drewN | apply below_drew1 | refine below_set ?_ GE211.out) | exact HB.out)⟩
          (try clear BK211)
          (try clear HB)
          generalize ((((((w15.setCell ⟨gb211, 0, none⟩ (.int .i64 t204)).setCell ⟨gb211, 1, none⟩ (.int .i64 t205)).setCell ⟨gb211, 2, none⟩ (.int .i64 t206)).setCell ⟨gb211, 3, none⟩ (.int .i64 t207)).setCell ⟨gb211, 4, none⟩ (.int .i64 t208)).setCell ⟨gb211, 5, none⟩ (.int .i64 t209)) = w17 at n0_ n1_ ⊢
          have BK211 := n0_
          have HB := n1_
          clear n0_ n1_
          (repeat (rw [drewN_self w17]; generalize hq_ : World.drewN w17 _ = w17; have n0_ : Aside0 (w17.heap[gb211]? = some (.cells #[.int .i64 t204, .int .i64 t205, .int .i64 t206, .int .i64 t207, .int .i64 t208, .int .i64 t209] 54 (0, 0))) := ⟨by rw [← hq_]; exact (by (with_reducible repeat (first | refine blk_drewN ?_ _ | refine blk_drew ?_ | refine blk_alloc ?_ _)); exact BK211.out)⟩; have n1_ : Aside0 (Below w.heap.size w w17) := ⟨by rw [← hq_]; exact (by repeat (first | (with_reducible first | exact HB.out | apply below_alloc | apply pw_below_drewN | apply below_drew1 | refine below_set ?_ GE211.out) | exact HB.out))⟩; clear BK211 HB hq_; have BK211 := n0_; have HB := n1_; clear n0_ n1_))
          have n0_ := Aside0.mk (blk_drew BK211.out)
          have n1_ := Aside0.mk (below_drew1 HB.out)
          clear BK211
          clear HB
          have BK211 := n0_
          have HB := n1_
          clear n0_ n1_
          refine start_ (n := 13) (S := fun w' => w'.cell? ⟨gb211, 0, none⟩ = some (.int .i64 t204) ∧ w'.cell? ⟨gb211, 1, none⟩ = some (.int .i64 t205) ∧ w'.cell? ⟨gb211, 2, none⟩ = some (.int .i64 t206) ∧ w'.cell? ⟨gb211, 3, none⟩ = some (.int .i64 t207) ∧ w'.cell? ⟨gb211, 4, none⟩ = some (.int .i64 t208) ∧ w'.cell? ⟨gb211, 5, none⟩ = some (.int .i64 t209)) (ds := []) #[false, false, false, false, false, false, false, false, false, false, false, false, false] (by kernel_rfl) rfl rfl ⟨(blk_cell BK211.out 0).trans rfl, (blk_cell BK211.out 1).trans rfl, (blk_cell BK211.out 2).trans rfl, (blk_cell BK211.out 3).trans rfl, (blk_cell BK211.out 4).trans rfl, (blk_cell BK211.out 5).trans rfl⟩ (fun hHeld => ?_); refine with_tabW params_LandTicks.tab6 params_LandTicks.bits6 (fun HT_ HW_ => ?_)
          generalize w17.drew = w18 at BK211 HB hHeld ⊢
          refine pure_ (i := 0) (N := some 19) (v := ?_) (a' := ?_) #[true, false, false, false, false, false, false, false, false, false, false, false, false] rfl rfl (any_of HT_.out (by kernel_rfl)) (fun _ _ _ h => h) (Or.inl ⟨by rfl, ?_⟩) ?_ ?_
          rotate_left
          · intro w'
            go_simp
            with_reducible rfl
          rotate_left
          · simp only [Act.put, List.setIfInBounds_toArray, List.set_cons_zero, List.set_cons_succ, i64_w, i32_w]
            rfl
          refine pure_ (i := 1) (N := some 20) (v := ?_) (a' := ?_) #[true, true, false, false, false, false, false, false, false, false, false, false, false] rfl rfl (any_of HT_.out (by kernel_rfl)) (fun _ _ _ h => h) (Or.inl ⟨by rfl, ?_⟩) ?_ ?_
          rotate_left
          · intro w'
            go_simp
            with_reducible rfl
          rotate_left
          · simp only [Act.put, List.setIfInBounds_toArray, List.set_cons_zero, List.set_cons_succ, i64_w, i32_w]
            rfl
          refine pure_ (i := 2) (N := some 21) (v := ?_) (a' := ?_) #[true, true, true, false, false, false, false, false, false, false, false, false, false] rfl rfl (any_of HT_.out (by kernel_rfl)) (fun _ _ _ h => h) (Or.inl ⟨by rfl, ?_⟩) ?_ ?_
          rotate_left
          · intro w'
            go_simp
            with_reducible rfl
          rotate_left
          · simp only [Act.put, List.setIfInBounds_toArray, List.set_cons_zero, List.set_cons_succ, i64_w, i32_w]
            rfl
          refine pure_ (i := 4) (N := some 23) (v := ?_) (a' := ?_) #[true, true, true, false, true, false, false, false, false, false, false, false, false] rfl rfl (any_of HT_.out (by kernel_rfl)) (fun _ _ _ h => h) (Or.inl ⟨by rfl, ?_⟩) ?_ ?_
          rotate_left
          · intro w'
            go_simp
            with_reducible rfl
          rotate_left
          · simp only [Act.put, List.setIfInBounds_toArray, List.set_cons_zero, List.set_cons_succ, i64_w, i32_w]
            rfl
          refine pure_ (i := 8) (N := some 27) (v := ?_) (a' := ?_) #[true, true, true, false, true, false, false, false, true, false, false, false, false] rfl rfl (any_of HT_.out (by kernel_rfl)) (fun _ _ _ h => h) (Or.inl ⟨by rfl, ?_⟩) ?_ ?_
          rotate_left
          · intro w'
            go_simp
            with_reducible rfl
          rotate_left
          · simp only [Act.put, List.setIfInBounds_toArray, List.set_cons_zero, List.set_cons_succ, i64_w, i32_w]
            rfl
          refine take_ (i := 3) (N := some 22) (v := ?_) (a' := ?_) #[true, true, true, true, true, false, false, false, true, false, false, false, false] rfl rfl (take_ofW HT_.out HW_.out (by kernel_rfl)) (fun _ _ _ h => h) (Or.inl ⟨by rfl, ?_⟩) hHeld ?_ ?_
          rotate_left
          · rintro w' ⟨s0, s1, s2, s3, s4, s5⟩
            go_simp
            with_reducible rfl
          rotate_left
          · simp only [Act.put, List.setIfInBounds_toArray, List.set_cons_zero, List.set_cons_succ, i64_w, i32_w]
            rfl
          refine take_ (i := 5) (N := some 24) (v := ?_) (a' := ?_) #[true, true, true, true, true, true, false, false, true, false, false, false, false] rfl rfl (take_ofW HT_.out HW_.out (by kernel_rfl)) (fun _ _ _ h => h) (Or.inl ⟨by rfl, ?_⟩) hHeld ?_ ?_
          rotate_left
          · rintro w' ⟨s0, s1, s2, s3, s4, s5⟩
            go_simp
            with_reducible rfl
          rotate_left
          · simp only [Act.put, List.setIfInBounds_toArray, List.set_cons_zero, List.set_cons_succ, i64_w, i32_w]
            rfl
          refine take_ (i := 9) (N := some 28) (v := ?_) (a' := ?_) #[true, true, true, true, true, true, false, false, true, true, false, false, false] rfl rfl (take_ofW HT_.out HW_.out (by kernel_rfl)) (fun _ _ _ h => h) (Or.inl ⟨by rfl, ?_⟩) hHeld ?_ ?_
          rotate_left
          · rintro w' ⟨s0, s1, s2, s3, s4, s5⟩
            go_simp
            with_reducible rfl
          rotate_left
          · simp only [Act.put, List.setIfInBounds_toArray, List.set_cons_zero, List.set_cons_succ, i64_w, i32_w]
            rfl
          refine pure_ (i := 10) (N := some 29) (v := ?_) (a' := ?_) #[true, true, true, true, true, true, false, false, true, true, true, false, false] rfl rfl (any_of HT_.out (by kernel_rfl)) (fun _ _ _ h => h) (Or.inl ⟨by rfl, ?_⟩) ?_ ?_
          rotate_left
          · intro w'
            go_simp
            with_reducible rfl
          rotate_left
          · simp only [Act.put, List.setIfInBounds_toArray, List.set_cons_zero, List.set_cons_succ, i64_w, i32_w]
            rfl
          refine one_ (i := 6) (N := some 25) #[true, true, true, true, true, true, true, false, true, true, true, false, false] rfl rfl (one_of HT_.out (by kernel_rfl)) (by decide) (fun K hK => ?_)
          refine goes_ Try.func33 (by kernel_rfl) rfl #[.int .i64 t207, .int .i64 t204] (by rfl) rfl rfl (by (try simp only [List.map_toArray, List.map_cons, List.map_nil]); first | done | rfl | (simp only [List.length_drop, List.length_take]; rfl)) ?_
          with_reducible refine (params_way.calls t207 t204 t213 _ A10.out).mono ?_
          rintro e w' ⟨rfl, ⟨nd, rfl⟩⟩
          refine ⟨_, rfl, ?_⟩
          refine hK.out _ _ ⟨(blk_cell BK211.out 0).trans rfl, (blk_cell BK211.out 1).trans rfl, (blk_cell BK211.out 2).trans rfl, (blk_cell BK211.out 3).trans rfl, (blk_cell BK211.out 4).trans rfl, (blk_cell BK211.out 5).trans rfl⟩ (fun hHeld => ?_)
          clear hK K
          refine norm_ (a' := ?_) ?_ ?_
          rotate_left
          · show Act.put _ (some 25) _ = _
            simp only [Act.put, List.setIfInBounds_toArray, List.set_cons_zero, List.set_cons_succ, i64_w, i32_w]
            rfl
          refine pure_ (i := 7) (N := some 26) (v := ?_) (a' := ?_) #[true, true, true, true, true, true, true, true, true, true, true, false, false] rfl rfl (any_of HT_.out (by kernel_rfl)) (fun _ _ _ h => h) (Or.inl ⟨by rfl, ?_⟩) ?_ ?_
          rotate_left
          · intro w'
            go_simp
            with_reducible rfl
          rotate_left
          · simp only [Act.put, List.setIfInBounds_toArray, List.set_cons_zero, List.set_cons_succ, i64_w, i32_w]
            rfl
          refine pure_ (i := 11) (N := some 30) (v := ?_) (a' := ?_) #[true, true, true, true, true, true, true, true, true, true, true, true, false] rfl rfl (any_of HT_.out (by kernel_rfl)) (fun _ _ _ h => h) (Or.inl ⟨by rfl, ?_⟩) ?_ ?_
          rotate_left
          · intro w'
            go_simp
            with_reducible rfl
          rotate_left
          · simp only [Act.put, List.setIfInBounds_toArray, List.set_cons_zero, List.set_cons_succ, i64_w, i32_w]
            rfl
          refine pure_ (i := 12) (N := some 8) (v := ?_) (a' := ?_) #[true, true, true, true, true, true, true, true, true, true, true, true, true] rfl rfl (any_of HT_.out (by kernel_rfl)) (fun _ _ _ h => h) (Or.inl ⟨by rfl, ?_⟩) ?_ ?_
          rotate_left
          · intro w'
            go_simp
            with_reducible rfl
          rotate_left
          · simp only [Act.put, List.setIfInBounds_toArray, List.set_cons_zero, List.set_cons_succ, i64_w, i32_w]
            rfl
          refine done_ (done_of HT_.out (by kernel_rfl)) ?_
          try go_wp2
          (repeat (rw [drewN_self w18]; generalize hq_ : World.drewN w18 _ = w18; have n0_ : Aside0 (w18.heap[gb211]? = some (.cells #[.int .i64 t204, .int .i64 t205, .int .i64 t206, .int .i64 t207, .int .i64 t208, .int .i64 t209] 54 (0, 0))) := ⟨by rw [← hq_]; exact (by (with_reducible repeat (first | refine blk_drewN ?_ _ | refine blk_drew ?_ | refine blk_alloc ?_ _)); exact BK211.out)⟩; have n1_ : Aside0 (Below w.heap.size w w18) := ⟨by rw [← hq_]; exact (by repeat (first | (with_reducible first | exact HB.out | apply below_alloc | apply pw_below_drewN | apply below_drew1 | refine below_set ?_ GE211.out) | exact HB.out))⟩; clear BK211 HB hq_; have BK211 := n0_; have HB := n1_; clear n0_ n1_))
          have n0_ := Aside0.mk (blk_drew BK211.out)
          have n1_ := Aside0.mk (below_drew1 HB.out)
          clear BK211
          clear HB
          have BK211 := n0_
          have HB := n1_
          clear n0_ n1_
          have p214 : 0 ≤ (9 : Int) := (by omega)
          have q214 : 9 < (l0.length : Int) := of_decide_eq_true (by first | (with_reducible assumption) | assumption)
          obtain ⟨ad214, e214, hx214_0⟩ := Kd.at_int HR0.out 9 p214 q214
          have hw214_0 := hx214_0
          (try rw [show ((9 : Int)).toNat = 9 from rfl] at hw214_0)
          (try rw [show 9 * 1 = 9 from rfl] at hw214_0)
          (try simp only [Nat.reduceMul, Nat.reduceEqDiff, Go.Addr.add, ↓reduceIte] at hw214_0)
          cases e214
          (try simp only [show (9 : Int).toNat = 9 from rfl, Nat.reduceMul, Nat.reduceEqDiff, Go.Addr.add, ↓reduceIte] at hx214_0)
          have qi214 : (9 < l0.length) = True := eq_true (by omega)
          (try rw [show ((9 : Int)).toNat = 9 from rfl] at hx214_0)
          replace hx214_0 := (HB.out.cell (World.block_lt_of_cell? w _ hx214_0)).trans hx214_0
          replace p214 := eq_true p214
          replace q214 := eq_true q214
          have p215 : 0 ≤ (9 : Int) := (by omega)
          have q215 : 9 < (l0.length : Int) := of_decide_eq_true (by first | (with_reducible assumption) | assumption)
          obtain ⟨ad215, e215, hx215_0⟩ := Kd.at_int HR0.out 9 p215 q215
          have hw215_0 := hx215_0
          (try rw [show ((9 : Int)).toNat = 9 from rfl] at hw215_0)
          (try rw [show 9 * 1 = 9 from rfl] at hw215_0)
          (try simp only [Nat.reduceMul, Nat.reduceEqDiff, Go.Addr.add, ↓reduceIte] at hw215_0)
          obtain rfl : ad214 = ad215 := (by injection e215)
          (try simp only [show (9 : Int).toNat = 9 from rfl, Nat.reduceMul, Nat.reduceEqDiff, Go.Addr.add, ↓reduceIte] at hx215_0)
          have qi215 : (9 < l0.length) = True := eq_true (by omega)
          (try rw [show ((9 : Int)).toNat = 9 from rfl] at hx215_0)
          replace hx215_0 := (HB.out.cell (World.block_lt_of_cell? w _ hx215_0)).trans hx215_0
          replace p215 := eq_true p215
          replace q215 := eq_true q215
          refine start_ (n := 23) (S := fun w' => w'.cell? ⟨gb211, 0, none⟩ = some (.int .i64 t204) ∧ w'.cell? ⟨gb211, 1, none⟩ = some (.int .i64 t205) ∧ w'.cell? ⟨gb211, 2, none⟩ = some (.int .i64 t206) ∧ w'.cell? ⟨gb211, 3, none⟩ = some (.int .i64 t207) ∧ w'.cell? ⟨gb211, 4, none⟩ = some (.int .i64 t208) ∧ w'.cell? ⟨gb211, 5, none⟩ = some (.int .i64 t209) ∧ w'.cell? ⟨ad214.block, ad214.off + 9, none⟩ = some (.int .i64 (rd l0 9)) ∧ w'.cell? ⟨ad214.block, ad214.off + 9, none⟩ = some (.int .i64 (rd l0 9))) (ds := []) #[false, false, false, false, false, false, false, false, false, false, false, false, false, false, false, false, false, false, false, false, false, false, false] (by kernel_rfl) rfl rfl ⟨(blk_cell BK211.out 0).trans rfl, (blk_cell BK211.out 1).trans rfl, (blk_cell BK211.out 2).trans rfl, (blk_cell BK211.out 3).trans rfl, (blk_cell BK211.out 4).trans rfl, (blk_cell BK211.out 5).trans rfl, ((HB.out.cell (World.block_lt_of_cell? w _ hw214_0)).trans hw214_0), ((HB.out.cell (World.block_lt_of_cell? w _ hw215_0)).trans hw215_0)⟩ (fun hHeld => ?_); refine with_tabW params_LandTicks.tab7 params_LandTicks.bits7 (fun HT_ HW_ => ?_)
          generalize w18.drew = w19 at BK211 HB hx214_0 hx215_0 hHeld ⊢
          refine pure_ (i := 0) (N := some 31) (v := ?_) (a' := ?_) #[true, false, false, false, false, false, false, false, false, false, false, false, false, false, false, false, false, false, false, false, false, false, false] rfl rfl (any_of HT_.out (by kernel_rfl)) (fun _ _ _ h => h) (Or.inl ⟨by rfl, ?_⟩) ?_ ?_
          rotate_left
          · intro w'
            go_simp
            with_reducible rfl
          rotate_left
          · simp only [Act.put, List.setIfInBounds_toArray, List.set_cons_zero, List.set_cons_succ, i64_w, i32_w]
            rfl
          refine pure_ (i := 2) (N := some 33) (v := ?_) (a' := ?_) #[true, false, true, false, false, false, false, false, false, false, false, false, false, false, false, false, false, false, false, false, false, false, false] rfl rfl (any_of HT_.out (by kernel_rfl)) (fun _ _ _ h => h) (Or.inl ⟨by rfl, ?_⟩) ?_ ?_
          rotate_left
          · intro w'
            go_simp
            with_reducible rfl
          rotate_left
          · simp only [Act.put, List.setIfInBounds_toArray, List.set_cons_zero, List.set_cons_succ, i64_w, i32_w]
            rfl
          refine pure_ (i := 5) (N := some 36) (v := ?_) (a' := ?_) #[true, false, true, false, false, true, false, false, false, false, false, false, false, false, false, false, false, false, false, false, false, false, false] rfl rfl (any_of HT_.out (by kernel_rfl)) (fun _ _ _ h => h) (Or.inl ⟨by rfl, ?_⟩) ?_ ?_
          rotate_left
          · intro w'
            go_simp
            with_reducible rfl
          rotate_left
          · simp only [Act.put, List.setIfInBounds_toArray, List.set_cons_zero, List.set_cons_succ, i64_w, i32_w]
            rfl
          refine pure_ (i := 6) (N := some 37) (v := ?_) (a' := ?_) #[true, false, true, false, false, true, true, false, false, false, false, false, false, false, false, false, false, false, false, false, false, false, false] rfl rfl (any_of HT_.out (by kernel_rfl)) (fun _ _ _ h => h) (Or.inl ⟨by rfl, ?_⟩) ?_ ?_
          rotate_left
          · intro w'
            go_simp
            with_reducible rfl
          rotate_left
          · simp only [Act.put, List.setIfInBounds_toArray, List.set_cons_zero, List.set_cons_succ, i64_w, i32_w]
            rfl
          refine pure_ (i := 10) (N := some 41) (v := ?_) (a' := ?_) #[true, false, true, false, false, true, true, false, false, false, true, false, false, false, false, false, false, false, false, false, false, false, false] rfl rfl (any_of HT_.out (by kernel_rfl)) (fun _ _ _ h => h) (Or.inl ⟨by rfl, ?_⟩) ?_ ?_
          rotate_left
          · intro w'
            go_simp
            with_reducible rfl
          rotate_left
          · simp only [Act.put, List.setIfInBounds_toArray, List.set_cons_zero, List.set_cons_succ, i64_w, i32_w]
            rfl
          refine pure_ (i := 11) (N := some 42) (v := ?_) (a' := ?_) #[true, false, true, false, false, true, true, false, false, false, true, true, false, false, false, false, false, false, false, false, false, false, false] rfl rfl (any_of HT_.out (by kernel_rfl)) (fun _ _ _ h => h) (Or.inl ⟨by rfl, ?_⟩) ?_ ?_
          rotate_left
          · intro w'
            go_simp
            with_reducible rfl
          rotate_left
          · simp only [Act.put, List.setIfInBounds_toArray, List.set_cons_zero, List.set_cons_succ, i64_w, i32_w]
            rfl
          refine pure_ (i := 12) (N := some 43) (v := ?_) (a' := ?_) #[true, false, true, false, false, true, true, false, false, false, true, true, true, false, false, false, false, false, false, false, false, false, false] rfl rfl (any_of HT_.out (by kernel_rfl)) (fun _ _ _ h => h) (Or.inl ⟨by rfl, ?_⟩) ?_ ?_
          rotate_left
          · intro w'
            go_simp
            with_reducible rfl
          rotate_left
          · simp only [Act.put, List.setIfInBounds_toArray, List.set_cons_zero, List.set_cons_succ, i64_w, i32_w]
            rfl
          refine pure_ (i := 14) (N := some 45) (v := ?_) (a' := ?_) #[true, false, true, false, false, true, true, false, false, false, true, true, true, false, true, false, false, false, false, false, false, false, false] rfl rfl (any_of HT_.out (by kernel_rfl)) (fun _ _ _ h => h) (Or.inl ⟨by rfl, ?_⟩) ?_ ?_
          rotate_left
          · intro w'
            go_simp
            with_reducible rfl
          rotate_left
          · simp only [Act.put, List.setIfInBounds_toArray, List.set_cons_zero, List.set_cons_succ, i64_w, i32_w]
            rfl
          refine take_ (i := 1) (N := some 32) (v := ?_) (a' := ?_) #[true, true, true, false, false, true, true, false, false, false, true, true, true, false, true, false, false, false, false, false, false, false, false] rfl rfl (take_ofW HT_.out HW_.out (by kernel_rfl)) (fun _ _ _ h => h) (Or.inl ⟨by rfl, ?_⟩) hHeld ?_ ?_
          rotate_left
          · rintro w' ⟨s0, s1, s2, s3, s4, s5, s6, s7⟩
            go_simp
            with_reducible rfl
          rotate_left
          · simp only [Act.put, List.setIfInBounds_toArray, List.set_cons_zero, List.set_cons_succ, i64_w, i32_w]
            rfl
          refine take_ (i := 3) (N := some 34) (v := ?_) (a' := ?_) #[true, true, true, true, false, true, true, false, false, false, true, true, true, false, true, false, false, false, false, false, false, false, false] rfl rfl (take_ofW HT_.out HW_.out (by kernel_rfl)) (fun _ _ _ h => h) (Or.inl ⟨by rfl, ?_⟩) hHeld ?_ ?_
          rotate_left
          · rintro w' ⟨s0, s1, s2, s3, s4, s5, s6, s7⟩
            go_simp
            with_reducible rfl
          rotate_left
          · simp only [Act.put, List.setIfInBounds_toArray, List.set_cons_zero, List.set_cons_succ, i64_w, i32_w]
            rfl
          refine pure_ (i := 4) (N := some 35) (v := ?_) (a' := ?_) #[true, true, true, true, true, true, true, false, false, false, true, true, true, false, true, false, false, false, false, false, false, false, false] rfl rfl (any_of HT_.out (by kernel_rfl)) (fun _ _ _ h => h) (Or.inl ⟨by rfl, ?_⟩) ?_ ?_
          rotate_left
          · intro w'
            go_simp
            with_reducible rfl
          rotate_left
          · simp only [Act.put, List.setIfInBounds_toArray, List.set_cons_zero, List.set_cons_succ, i64_w, i32_w]
            rfl
          refine take_ (i := 7) (N := some 38) (v := ?_) (a' := ?_) #[true, true, true, true, true, true, true, true, false, false, true, true, true, false, true, false, false, false, false, false, false, false, false] rfl rfl (take_ofW HT_.out HW_.out (by kernel_rfl)) (fun _ _ _ h => h) (Or.inl ⟨by rfl, ?_⟩) hHeld ?_ ?_
          rotate_left
          · rintro w' ⟨s0, s1, s2, s3, s4, s5, s6, s7⟩
            go_simp
            with_reducible rfl
          rotate_left
          · simp only [Act.put, List.setIfInBounds_toArray, List.set_cons_zero, List.set_cons_succ, i64_w, i32_w]
            rfl
          refine pure_ (i := 8) (N := some 39) (v := ?_) (a' := ?_) #[true, true, true, true, true, true, true, true, true, false, true, true, true, false, true, false, false, false, false, false, false, false, false] rfl rfl (any_of HT_.out (by kernel_rfl)) (fun _ _ _ h => h) (Or.inl ⟨by rfl, ?_⟩) ?_ ?_
          rotate_left
          · intro w'
            go_simp
            with_reducible rfl
          rotate_left
          · simp only [Act.put, List.setIfInBounds_toArray, List.set_cons_zero, List.set_cons_succ, i64_w, i32_w]
            rfl
          refine pure_ (i := 9) (N := some 40) (v := ?_) (a' := ?_) #[true, true, true, true, true, true, true, true, true, true, true, true, true, false, true, false, false, false, false, false, false, false, false] rfl rfl (any_of HT_.out (by kernel_rfl)) (fun _ _ _ h => h) (Or.inl ⟨by rfl, ?_⟩) ?_ ?_
          rotate_left
          · intro w'
            go_simp
            with_reducible rfl
          rotate_left
          · simp only [Act.put, List.setIfInBounds_toArray, List.set_cons_zero, List.set_cons_succ, i64_w, i32_w]
            rfl
          refine take_ (i := 13) (N := some 44) (v := ?_) (a' := ?_) #[true, true, true, true, true, true, true, true, true, true, true, true, true, true, true, false, false, false, false, false, false, false, false] rfl rfl (take_ofW HT_.out HW_.out (by kernel_rfl)) (fun _ _ _ h => h) (Or.inl ⟨by rfl, ?_⟩) hHeld ?_ ?_
          rotate_left
          · rintro w' ⟨s0, s1, s2, s3, s4, s5, s6, s7⟩
            go_simp
            with_reducible rfl
          rotate_left
          · simp only [Act.put, List.setIfInBounds_toArray, List.set_cons_zero, List.set_cons_succ, i64_w, i32_w]
            rfl
          refine take_ (i := 15) (N := some 46) (v := ?_) (a' := ?_) #[true, true, true, true, true, true, true, true, true, true, true, true, true, true, true, true, false, false, false, false, false, false, false] rfl rfl (take_ofW HT_.out HW_.out (by kernel_rfl)) (fun _ _ _ h => h) (Or.inl ⟨by rfl, ?_⟩) hHeld ?_ ?_
          rotate_left
          · rintro w' ⟨s0, s1, s2, s3, s4, s5, s6, s7⟩
            go_simp
            with_reducible rfl
          rotate_left
          · simp only [Act.put, List.setIfInBounds_toArray, List.set_cons_zero, List.set_cons_succ, i64_w, i32_w]
            rfl
          refine pure_ (i := 16) (N := some 47) (v := ?_) (a' := ?_) #[true, true, true, true, true, true, true, true, true, true, true, true, true, true, true, true, true, false, false, false, false, false, false] rfl rfl (any_of HT_.out (by kernel_rfl)) (fun _ _ _ h => h) (Or.inl ⟨by rfl, ?_⟩) ?_ ?_
          rotate_left
          · intro w'
            go_simp
            with_reducible rfl
          rotate_left
          · simp only [Act.put, List.setIfInBounds_toArray, List.set_cons_zero, List.set_cons_succ, i64_w, i32_w]
            rfl
          refine one_ (i := 17) (N := some 48) #[true, true, true, true, true, true, true, true, true, true, true, true, true, true, true, true, true, true, false, false, false, false, false] rfl rfl (one_of HT_.out (by kernel_rfl)) (by decide) (fun K hK => ?_)
          refine goes_ Try.func32 (by kernel_rfl) rfl #[.int .i64 (wrap64 ((wrap64 ((wrap64 (a1 * 6400)) + t213)) + (wrap64 (16 * t207)))), .int .i64 (wrap64 ((rd l0 9) - t205))] (by rfl) rfl rfl (by (try simp only [List.map_toArray, List.map_cons, List.map_nil]); first | done | rfl | (simp only [List.length_drop, List.length_take]; rfl)) ?_
          with_reducible refine (params_up.calls (wrap64 ((wrap64 ((wrap64 (a1 * 6400)) + t213)) + (wrap64 (16 * t207)))) (wrap64 ((rd l0 9) - t205)) t216 _ A13.out).mono ?_
          rintro e w' ⟨rfl, ⟨nd, rfl⟩⟩
          refine ⟨_, rfl, ?_⟩
          refine hK.out _ _ ⟨(blk_cell BK211.out 0).trans rfl, (blk_cell BK211.out 1).trans rfl, (blk_cell BK211.out 2).trans rfl, (blk_cell BK211.out 3).trans rfl, (blk_cell BK211.out 4).trans rfl, (blk_cell BK211.out 5).trans rfl, ((HB.out.cell (World.block_lt_of_cell? w _ hw214_0)).trans hw214_0), ((HB.out.cell (World.block_lt_of_cell? w _ hw215_0)).trans hw215_0)⟩ (fun hHeld => ?_)
          clear hK K
          refine norm_ (a' := ?_) ?_ ?_
          rotate_left
          · show Act.put _ (some 48) _ = _
            simp only [Act.put, List.setIfInBounds_toArray, List.set_cons_zero, List.set_cons_succ, i64_w, i32_w]
            rfl
          refine pure_ (i := 18) (N := some 49) (v := ?_) (a' := ?_) #[true, true, true, true, true, true, true, true, true, true, true, true, true, true, true, true, true, true, true, false, false, false, false] rfl rfl (any_of HT_.out (by kernel_rfl)) (fun _ _ _ h => h) (Or.inl ⟨by rfl, ?_⟩) ?_ ?_
          rotate_left
          · intro w'
            go_simp
            with_reducible rfl
          rotate_left
          · simp only [Act.put, List.setIfInBounds_toArray, List.set_cons_zero, List.set_cons_succ, i64_w, i32_w]
            rfl
          refine pure_ (i := 19) (N := some 50) (v := ?_) (a' := ?_) #[true, true, true, true, true, true, true, true, true, true, true, true, true, true, true, true, true, true, true, true, false, false, false] rfl rfl (any_of HT_.out (by kernel_rfl)) (fun _ _ _ h => h) (Or.inl ⟨by rfl, ?_⟩) ?_ ?_
          rotate_left
          · intro w'
            go_simp
            with_reducible rfl
          rotate_left
          · simp only [Act.put, List.setIfInBounds_toArray, List.set_cons_zero, List.set_cons_succ, i64_w, i32_w]
            rfl
          refine pure_ (i := 20) (N := some 51) (v := ?_) (a' := ?_) #[true, true, true, true, true, true, true, true, true, true, true, true, true, true, true, true, true, true, true, true, true, false, false] rfl rfl (any_of HT_.out (by kernel_rfl)) (fun _ _ _ h => h) (Or.inl ⟨by rfl, ?_⟩) ?_ ?_
          rotate_left
          · intro w'
            go_simp
            with_reducible rfl
          rotate_left
          · simp only [Act.put, List.setIfInBounds_toArray, List.set_cons_zero, List.set_cons_succ, i64_w, i32_w]
            rfl
          refine pure_ (i := 21) (N := some 4) (v := ?_) (a' := ?_) #[true, true, true, true, true, true, true, true, true, true, true, true, true, true, true, true, true, true, true, true, true, true, false] rfl rfl (any_of HT_.out (by kernel_rfl)) (fun _ _ _ h => h) (Or.inl ⟨by rfl, ?_⟩) ?_ ?_
          rotate_left
          · intro w'
            go_simp
            with_reducible rfl
          rotate_left
          · simp only [Act.put, List.setIfInBounds_toArray, List.set_cons_zero, List.set_cons_succ, i64_w, i32_w]
            rfl
          refine pure_ (i := 22) (N := some 5) (v := ?_) (a' := ?_) #[true, true, true, true, true, true, true, true, true, true, true, true, true, true, true, true, true, true, true, true, true, true, true] rfl rfl (any_of HT_.out (by kernel_rfl)) (fun _ _ _ h => h) (Or.inl ⟨by rfl, ?_⟩) ?_ ?_
          rotate_left
          · intro w'
            go_simp
            with_reducible rfl
          rotate_left
          · simp only [Act.put, List.setIfInBounds_toArray, List.set_cons_zero, List.set_cons_succ, i64_w, i32_w]
            rfl
          refine done_ (done_of HT_.out (by kernel_rfl)) ?_
          try go_wp2
          go_ret2
          exact ⟨by first | rfl | (simp [errW_none, errW_some] <;> rfl) | (simp [*, errW_none, errW_some] <;> rfl), by repeat (first | (with_reducible first | exact HB.out | apply below_alloc | apply pw_below_drewN | apply below_drew1 | refine below_set ?_ GE211.out) | exact HB.out)⟩
        · rw [if_neg c12] at H
          exact absurd H (by simp)
  · rw [if_neg c4] at H
    have c4b0 : (t210 == 0) = false := beq_eq_false_iff_ne.mpr c4
    have c4b1 : (t210 != 0) = true := bne_iff_ne.mpr c4
    simp only [Option.some.injEq, Prod.mk.injEq] at H
    obtain ⟨rfl, rfl⟩ := H
    go_enter Try.func28, Try.ntmps28
    go_wp2_with (first | ((with_reducible refine gate_callee (f := 18) rfl ?_); refine goesL_ (some 11) rfl rfl Try.func18 (by kernel_rfl) rfl #[.slice A0 l0.length c0] rfl (by (try simp only [List.map_toArray, List.map_cons, List.map_nil]); first | done | rfl | (simp only [List.length_drop, List.length_take]; rfl)) ?_; (with_reducible refine (params_Margins.calls k _ _ l0 t204 t205 t206 t207 t208 t209 t210 _ ?side1 ?side2 A3.out).mono ?_); (case side1 => repeat (first | exact HR0.out | (with_reducible refine Kd.C_alloc ?_ _) | (with_reducible refine Kd.C_drewN ?_ _) | (with_reducible refine Kd.C_drew ?_))); (case side2 => exact HC0.out); rintro e w20 ⟨rfl, hb⟩; refine ⟨_, rfl, ?_⟩; have n0_ := Aside0.mk (below_step (by repeat (first | (with_reducible first | exact HB.out | apply below_alloc | apply pw_below_drewN | apply below_drew1) | exact HB.out)) hb); clear HB; have HB := n0_; clear n0_; (try clear hb); (try clear hb2); (try clear hk); (try clear hi)) | ((with_reducible refine gate_dst (N := 6) rfl ?_); refine box_event ?hg (N := 6) ?hd (cs := #[.int .i64 0, .int .i64 0, .int .i64 0, .int .i64 0, .int .i64 0, .int .i64 0]) (t := 54) ?hr ?_; (case hd => rfl); (case hg => rfl); (case hr => first | (go_simp; done) | (go_simp; rfl)); intro gb211 hg w21 hbox hb; have n0_ := Aside0.mk (below_step (by repeat (first | (with_reducible first | exact HB.out | apply below_alloc | apply pw_below_drewN | apply below_drew1) | exact HB.out)) hb); have n1_ := Aside0.mk (hbox); have n2_ := Aside0.mk ((by rw [hg]; exact (below_size (by repeat (first | (with_reducible first | exact HB.out | apply below_alloc | apply pw_below_drewN | apply below_drew1) | exact HB.out))) : w.heap.size ≤ gb211)); have n3_ := Aside0.mk ((by rw [hg]; exact (below_size (by repeat (first | (with_reducible first | exact HB.out | apply below_alloc | apply pw_below_drewN | apply below_drew1) | exact HB.out))) : w.heap.size ≤ gb211)); clear HB; have HB := n0_; have BK211 := n1_; have GW211 := n2_; have GE211 := n3_; clear n0_ n1_ n2_ n3_; clear hb hbox hg; have hcz22_0 := blk_cells6 (w := w21) (g := gb211) BK211.out; have hfz22_0 := blk_frozen BK211.out))
    go_ret2
    exact ⟨by first | rfl | (simp [errW_none, errW_some] <;> rfl) | (simp [*, errW_none, errW_some] <;> rfl), by repeat (first | (with_reducible first | exact HB.out | apply below_alloc | apply pw_below_drewN | apply below_drew1 | refine below_set ?_ GE211.out) | exact HB.out)⟩

/-! ### params_ReturnTicks: function 29, by hand -/
def params_ReturnTicks.al (l0 : List Int) (mm : Int) (sp : Int) : Option Int := if rd l0 6 = 0 then none else (params_up.f (wrap64 (19200 * mm)) sp).bind fun t => some (wrap64 ((wrap64 ((wrap64 (8 * (wrap64 (Int.tdiv sp (rd l0 6))))) + t)) + 800))
def params_ReturnTicks.f (k : Nat) (l0 : List Int) (a1 : Int) (a2 : Int) : Option (Int × Int) := (params_Check.f k l0).bind fun t13 => if t13 = 0 then ((params_outside.f a1).bind fun t18 => (params_outside.f a2).bind fun t21 => if t18 = true then some (0, 1) else if t21 = true then some (0, 1) else if (l0.length : Int) = 24 then (if rd l0 6 = 0 then none else (params_ReturnTicks.al l0 (wrap64 ((mx a1 (rd l0 10)) + 1000)) (rd l0 8)).bind fun p => (params_ReturnTicks.al l0 a2 (rd l0 7)).bind fun q => (params_up.f (wrap64 (12800 * (wrap64 ((mx a1 (rd l0 10)) + 1000)))) (rd l0 9)).bind fun s => some (wrap64 ((wrap64 ((wrap64 ((wrap64 ((wrap64 (p + q)) + (wrap64 (8 * (wrap64 (Int.tdiv (wrap64 ((rd l0 8) + (rd l0 9))) (rd l0 6))))))) + s)) + 40)) + 64), 0)) else none) else some (0, t13)
theorem params_ReturnTicks.mono : ∀ a0 a1 a2 k, LeO (params_ReturnTicks.f k a0 a1 a2) (params_ReturnTicks.f (k + 1) a0 a1 a2) := by
  intro a0 a1 a2 k
  unfold params_ReturnTicks.f
  exact LeO.bind (params_Check.mono _ _) (fun _ => LeO.refl _)
set_option maxHeartbeats 8000000 in
set_option maxRecDepth 100000 in
theorem params_ReturnTicks.along_q (l0 : List Int) (ad : Addr) (c0 : Nat) (g : Nat) (mm sp r : Int) (w : World) (hb : w.cell? ⟨g, 0, none⟩ = some (.slice (some ad) l0.length c0)) (h6 : w.cell? ⟨ad.block, ad.off + 6, none⟩ = some (.int .i64 (rd l0 6))) (hl : (l0.length : Int) = 24) (h : params_ReturnTicks.al l0 mm sp = some r) :
    Calls Try.prog 43 #[.int .i64 mm, .int .i64 sp, .pointer (some ⟨g, 0, none⟩)] w fun e w' => e = .returned (.int .i64 r) ∧ ∃ n, w' = w.drewN n := by
  unfold params_ReturnTicks.al at h
  simp only [← i64_w] at h
  by_cases z : rd l0 6 = 0
  · rw [if_pos z] at h; cases h
  rw [if_neg z] at h
  replace h := Option.bind_eq_some_iff.mp h
  obtain ⟨t, e1, h⟩ := h
  obtain rfl := Option.some.inj h
  have E1 := Aside0.mk e1
  clear e1 h
  have zb : (rd l0 6 == 0) = false := beq_eq_false_iff_ne.mpr z
  have hlen : l0.length = 24 := by omega
  rw [hlen] at hb
  go_enter Try.func43, Try.ntmps43
  go_wp2
  go_region_held3 (fun w' => w'.cell? ⟨g, 0, none⟩ = some (.slice (some ad) 24 c0) ∧ w'.cell? ⟨ad.block, ad.off + 6, none⟩ = some (.int .i64 (rd l0 6))) (go_keep)
    (first | (go_at_call 32; (with_reducible refine (params_up.calls (IntKind.i64.wrap (19200 * mm)) sp t _ E1.out).mono ?_); rintro e w' ⟨rfl, ⟨nd, rfl⟩⟩))
  all_goals go_wp2
  all_goals go_ret
  all_goals exact ⟨rfl, nd + 1, by simp [World.drew, World.drewN]; omega⟩
theorem params_ReturnTicks.at24 {w : World} {ad : Addr} {l : List Int} (h : Kd.C (Kd.int .i64) w (some ad) l.length l) (hl : (l.length : Int) = 24) (i : Nat) (hi : i < 24) (h0 : i ≠ 0) : w.cell? ⟨ad.block, ad.off + i, none⟩ = some (.int .i64 (rd l (i : Int))) := by
  obtain ⟨ad', e, hx⟩ := Kd.at_int h (i : Int) (by omega) (by omega)
  obtain rfl : ad = ad' := by injection e
  rw [Int.toNat_natCast] at hx
  unfold Addr.add at hx
  rw [if_neg h0] at hx
  exact hx
set_option maxHeartbeats 8000000 in
set_option maxRecDepth 100000 in
theorem params_ReturnTicks.calls (k : Nat) (A0 : Option Addr) (c0 : Nat) (l0 : List Int) (a1 : Int) (a2 : Int) (r1 : Int) (r2 : Int) (w : World) (hr0 : Kd.C (Kd.int .i64) w A0 l0.length l0) (hc0 : l0.length ≤ c0) (h : params_ReturnTicks.f k l0 a1 a2 = some (r1, r2)) :
    Calls Try.prog 29 #[.slice A0 l0.length c0, .int .i64 a1, .int .i64 a2] w fun e w' => e = .returned (.tuple #[.int .i64 r1, .int .i64 r2]) ∧ Below w.heap.size w w' := by
  have HR0 := Aside0.mk hr0
  have HC0 := Aside0.mk hc0
  clear hc0
  unfold params_ReturnTicks.f at h
  replace h := Option.bind_eq_some_iff.mp h
  obtain ⟨t13, e13, h⟩ := h
  have E13 := Aside0.mk e13
  clear e13
  by_cases c : t13 = 0
  · rw [if_pos c] at h
    have cb : (t13 != 0) = false := bne_eq_false_iff_eq.mpr c
    clear c
    replace h := Option.bind_eq_some_iff.mp h
    obtain ⟨t18, e18, h⟩ := h
    replace h := Option.bind_eq_some_iff.mp h
    obtain ⟨t21, e21, h⟩ := h
    cases t18 with
    | true =>
      rw [if_pos rfl] at h
      simp only [Option.some.injEq, Prod.mk.injEq] at h
      obtain ⟨rfl, rfl⟩ := h
      have E18 := Aside0.mk e18
      clear e18 e21 hr0
      go_enter Try.func29, Try.ntmps29
      go_wp2_with (first | ((with_reducible refine gate_dst (N := 3) rfl ?_); refine box_event ?hg (N := 3) ?hd (cs := #[.slice A0 l0.length c0]) (t := 22) ?hr ?_; (case hd => rfl); (case hg => rfl); (case hr => first | (go_simp; done) | (go_simp; rfl)); intro gb hg w2 hbox hb; have HB2 := Aside0.mk hb; have BK2 := Aside0.mk hbox; have GE2 := Aside0.mk (show w.heap.size ≤ gb by omega); have HR2 := Aside0.mk (Kd.C_below HR0.out hb); clear hb hbox hg; have hcz := (blk_cell BK2.out 0).trans rfl; have hfz := blk_frozen BK2.out 0) | (go_at_call 31; (with_reducible refine (params_Check.calls k A0 c0 l0 t13 _ HR2.out HC0.out E13.out).mono ?_); rintro e w3 ⟨rfl, hb⟩; have HB3 := Aside0.mk (below_step HB2.out hb); have BK3 := Aside0.mk (blk_below BK2.out hb); have HR3 := Aside0.mk (Kd.C_below HR2.out hb); (try clear hb); (try clear hcz); (try clear hfz); have hcz := (blk_cell BK3.out 0).trans rfl) | (go_at_call 42; (with_reducible refine (params_outside.calls a1 _ _ E18.out).mono ?_); rintro e w' ⟨rfl, ⟨nd, rfl⟩⟩))
      go_ret2
      exact ⟨rfl, by repeat (first | exact HB3.out | apply pw_below_drewN | apply below_drew1)⟩
    | false =>
      rw [if_neg (by decide)] at h
      have E18 := Aside0.mk e18
      clear e18
      cases t21 with
      | true =>
        rw [if_pos rfl] at h
        simp only [Option.some.injEq, Prod.mk.injEq] at h
        obtain ⟨rfl, rfl⟩ := h
        have E21 := Aside0.mk e21
        clear e21 hr0
        go_enter Try.func29, Try.ntmps29
        go_wp2_with (first | ((with_reducible refine gate_dst (N := 3) rfl ?_); refine box_event ?hg (N := 3) ?hd (cs := #[.slice A0 l0.length c0]) (t := 22) ?hr ?_; (case hd => rfl); (case hg => rfl); (case hr => first | (go_simp; done) | (go_simp; rfl)); intro gb hg w2 hbox hb; have HB2 := Aside0.mk hb; have BK2 := Aside0.mk hbox; have GE2 := Aside0.mk (show w.heap.size ≤ gb by omega); have HR2 := Aside0.mk (Kd.C_below HR0.out hb); clear hb hbox hg; have hcz := (blk_cell BK2.out 0).trans rfl; have hfz := blk_frozen BK2.out 0) | (go_at_call 31; (with_reducible refine (params_Check.calls k A0 c0 l0 t13 _ HR2.out HC0.out E13.out).mono ?_); rintro e w3 ⟨rfl, hb⟩; have HB3 := Aside0.mk (below_step HB2.out hb); have BK3 := Aside0.mk (blk_below BK2.out hb); have HR3 := Aside0.mk (Kd.C_below HR2.out hb); (try clear hb); (try clear hcz); (try clear hfz); have hcz := (blk_cell BK3.out 0).trans rfl) | (go_at_call 42; (with_reducible refine (params_outside.calls a1 _ _ E18.out).mono ?_); rintro e w' ⟨rfl, ⟨nd, rfl⟩⟩) | (go_at_call 42; (with_reducible refine (params_outside.calls a2 _ _ E21.out).mono ?_); rintro e w' ⟨rfl, ⟨nd, rfl⟩⟩))
        go_ret2
        exact ⟨rfl, by repeat (first | exact HB3.out | apply pw_below_drewN | apply below_drew1)⟩
      | false =>
        rw [if_neg (by decide)] at h
        have E21 := Aside0.mk e21
        clear e21
        by_cases hl : (l0.length : Int) = 24
        · rw [if_pos hl] at h
          obtain ⟨M, hM⟩ : ∃ M, mx a1 (rd l0 10) = M := ⟨_, rfl⟩
          rw [hM] at h
          have hM_ : (if a1 < rd l0 10 then rd l0 10 else a1) = M := hM
          clear hM
          obtain ⟨G, hG⟩ : ∃ G, wrap64 (M + 1000) = G := ⟨_, rfl⟩
          rw [hG] at h
          have hG2 : IntKind.i64.wrap (M + 1000) = G := (i64_w _).trans hG
          simp only [← i64_w] at h
          by_cases z : rd l0 6 = 0
          · rw [if_pos z] at h; cases h
          rw [if_neg z] at h
          have zb : (rd l0 6 == 0) = false := beq_eq_false_iff_ne.mpr z
          replace h := Option.bind_eq_some_iff.mp h
          obtain ⟨p, ep, h⟩ := h
          replace h := Option.bind_eq_some_iff.mp h
          obtain ⟨q, eq_, h⟩ := h
          replace h := Option.bind_eq_some_iff.mp h
          obtain ⟨s, es, h⟩ := h
          simp only [Option.some.injEq, Prod.mk.injEq] at h
          obtain ⟨rfl, rfl⟩ := h
          have EP := Aside0.mk ep
          have EQ := Aside0.mk eq_
          have ES := Aside0.mk es
          clear ep eq_ es
          obtain ⟨ad, ea, _⟩ := Kd.at_int hr0 0 (by decide) (by omega)
          clear hr0
          subst ea
          have b6 : (6 < l0.length) = True := eq_true (by omega)
          have g6 : ((6 : Int) < (l0.length : Int)) = True := eq_true (by omega)
          have d6 : decide (6 < l0.length) = true := decide_eq_true (by omega)
          have f6 : decide ((6 : Int) < (l0.length : Int)) = true := decide_eq_true (by omega)
          have b7 : (7 < l0.length) = True := eq_true (by omega)
          have g7 : ((7 : Int) < (l0.length : Int)) = True := eq_true (by omega)
          have d7 : decide (7 < l0.length) = true := decide_eq_true (by omega)
          have f7 : decide ((7 : Int) < (l0.length : Int)) = true := decide_eq_true (by omega)
          have b8 : (8 < l0.length) = True := eq_true (by omega)
          have g8 : ((8 : Int) < (l0.length : Int)) = True := eq_true (by omega)
          have d8 : decide (8 < l0.length) = true := decide_eq_true (by omega)
          have f8 : decide ((8 : Int) < (l0.length : Int)) = true := decide_eq_true (by omega)
          have b9 : (9 < l0.length) = True := eq_true (by omega)
          have g9 : ((9 : Int) < (l0.length : Int)) = True := eq_true (by omega)
          have d9 : decide (9 < l0.length) = true := decide_eq_true (by omega)
          have f9 : decide ((9 : Int) < (l0.length : Int)) = true := decide_eq_true (by omega)
          have b10 : (10 < l0.length) = True := eq_true (by omega)
          have g10 : ((10 : Int) < (l0.length : Int)) = True := eq_true (by omega)
          have d10 : decide (10 < l0.length) = true := decide_eq_true (by omega)
          have f10 : decide ((10 : Int) < (l0.length : Int)) = true := decide_eq_true (by omega)
          have hmf : ∀ (fn : Fn) (first cap : Array Value) (w : World), (Instr.makeFunc fn first cap).run Try.prog w = .ok (.func fn first cap) w := fun _ _ _ _ => rfl
          have HL := Aside0.mk hl
          clear hl
          go_enter Try.func29, Try.ntmps29
          go_wp2_with (first | ((with_reducible refine gate_dst (N := 3) rfl ?_); refine box_event ?hg (N := 3) ?hd (cs := #[.slice (some ad) l0.length c0]) (t := 22) ?hr ?_; (case hd => rfl); (case hg => rfl); (case hr => first | (go_simp; done) | (go_simp; rfl)); intro gb hg w2 hbox hb; have HB2 := Aside0.mk hb; have BK2 := Aside0.mk hbox; have GE2 := Aside0.mk (show w.heap.size ≤ gb by omega); have HR2 := Aside0.mk (Kd.C_below HR0.out hb); clear hb hbox hg; have hcz := (blk_cell BK2.out 0).trans rfl; have hfz := blk_frozen BK2.out 0) | (go_at_call 31; (with_reducible refine (params_Check.calls k (some ad) c0 l0 t13 _ HR2.out HC0.out E13.out).mono ?_); rintro e w3 ⟨rfl, hb⟩; have HB3 := Aside0.mk (below_step HB2.out hb); have BK3 := Aside0.mk (blk_below BK2.out hb); have HR3 := Aside0.mk (Kd.C_below HR2.out hb); (try clear hb); (try clear hcz); (try clear hfz); have hcz := (blk_cell BK3.out 0).trans rfl; have h6 := params_ReturnTicks.at24 HR3.out HL.out 6 (by decide) (by decide); have h7 := params_ReturnTicks.at24 HR3.out HL.out 7 (by decide) (by decide); have h8 := params_ReturnTicks.at24 HR3.out HL.out 8 (by decide) (by decide); have h9 := params_ReturnTicks.at24 HR3.out HL.out 9 (by decide) (by decide); have h10 := params_ReturnTicks.at24 HR3.out HL.out 10 (by decide) (by decide)) | (go_at_call 42; (with_reducible refine (params_outside.calls a1 _ _ E18.out).mono ?_); rintro e w' ⟨rfl, ⟨nd, rfl⟩⟩) | (go_at_call 42; (with_reducible refine (params_outside.calls a2 _ _ E21.out).mono ?_); rintro e w' ⟨rfl, ⟨nd, rfl⟩⟩))
          go_region_held3 (fun w' => w'.cell? ⟨gb, 0, none⟩ = some (.slice (some ad) l0.length c0) ∧ w'.cell? ⟨ad.block, ad.off + 6, none⟩ = some (.int .i64 (rd l0 6)) ∧ w'.cell? ⟨ad.block, ad.off + 8, none⟩ = some (.int .i64 (rd l0 8)) ∧ w'.cell? ⟨ad.block, ad.off + 9, none⟩ = some (.int .i64 (rd l0 9))) (go_keep) (fail)
          all_goals go_wp2
          go_region_held3 (fun w' => w'.cell? ⟨gb, 0, none⟩ = some (.slice (some ad) l0.length c0) ∧ w'.cell? ⟨ad.block, ad.off + 6, none⟩ = some (.int .i64 (rd l0 6)) ∧ w'.cell? ⟨ad.block, ad.off + 7, none⟩ = some (.int .i64 (rd l0 7)) ∧ w'.cell? ⟨ad.block, ad.off + 8, none⟩ = some (.int .i64 (rd l0 8)) ∧ w'.cell? ⟨ad.block, ad.off + 9, none⟩ = some (.int .i64 (rd l0 9))) (go_keep)
            (first
              | (go_at_call 43; (with_reducible refine (params_ReturnTicks.along_q l0 ad c0 gb _ _ p _ ?s1 ?s2 HL.out EP.out).mono ?_); (case s1 => go_keep); (case s2 => go_keep); rintro e w' ⟨rfl, nd, rfl⟩)
              | (go_at_call 43; (with_reducible refine (params_ReturnTicks.along_q l0 ad c0 gb _ _ q _ ?s1 ?s2 HL.out EQ.out).mono ?_); (case s1 => go_keep); (case s2 => go_keep); rintro e w' ⟨rfl, nd, rfl⟩)
              | (go_at_call 32; (with_reducible refine (params_up.calls _ _ s _ ES.out).mono ?_); rintro e w' ⟨rfl, ⟨nd, rfl⟩⟩))
          all_goals go_wp2
          all_goals go_ret2
          all_goals exact ⟨rfl, by repeat (first | exact HB3.out | apply pw_below_drewN | apply below_drew1)⟩
        · rw [if_neg hl] at h; cases h
  · rw [if_neg c] at h
    have cb : (t13 != 0) = true := bne_iff_ne.mpr c
    clear c hr0
    simp only [Option.some.injEq, Prod.mk.injEq] at h
    obtain ⟨rfl, rfl⟩ := h
    go_enter Try.func29, Try.ntmps29
    go_wp2_with (first | ((with_reducible refine gate_dst (N := 3) rfl ?_); refine box_event ?hg (N := 3) ?hd (cs := #[.slice A0 l0.length c0]) (t := 22) ?hr ?_; (case hd => rfl); (case hg => rfl); (case hr => first | (go_simp; done) | (go_simp; rfl)); intro gb hg w2 hbox hb; have HB2 := Aside0.mk hb; have BK2 := Aside0.mk hbox; have GE2 := Aside0.mk (show w.heap.size ≤ gb by omega); have HR2 := Aside0.mk (Kd.C_below HR0.out hb); clear hb hbox hg; have hcz := (blk_cell BK2.out 0).trans rfl; have hfz := blk_frozen BK2.out 0) | (go_at_call 31; (with_reducible refine (params_Check.calls k A0 c0 l0 t13 _ HR2.out HC0.out E13.out).mono ?_); rintro e w3 ⟨rfl, hb⟩; have HB3 := Aside0.mk (below_step HB2.out hb); have BK3 := Aside0.mk (blk_below BK2.out hb); have HR3 := Aside0.mk (Kd.C_below HR2.out hb); (try clear hb); (try clear hcz); (try clear hfz); have hcz := (blk_cell BK3.out 0).trans rfl))
    go_ret2
    exact ⟨rfl, by repeat (first | exact HB3.out | apply pw_below_drewN | apply below_drew1)⟩


/-! ### power_Battery_Tier: function 16, by hand -/
def power_Battery_Tier.f (k : Nat) (s0_0 : List Int) (s0_1 : Int) (s0_2 : Bool) (s0_3 : Int) (s0_4 : Int) (a1 a2 : Int) : Option (Int × Int × Bool × Int × Int) := if s0_2 = true then ((fix_Clamp.f a1 0 536870912).bind fun h => (params_LandTicks.f k s0_0 h).bind fun l => (fix_Clamp.f a2 0 536870912).bind fun d => (params_ReturnTicks.f k s0_0 h d).bind fun b => if 17 < s0_0.length then (if s0_3 < wrap64 (rd s0_0 17 + wrap64 (s0_1 * wrap64 (l.1 + 8))) then some (2, s0_1, s0_2, s0_3, s0_4) else if s0_3 < wrap64 (wrap64 (rd s0_0 17 + wrap64 (s0_1 * wrap64 (l.1 + 8))) + wrap64 (s0_1 * b.1)) then some (1, s0_1, s0_2, s0_3, s0_4) else some (0, s0_1, s0_2, s0_3, s0_4)) else none) else some (2, s0_1, s0_2, s0_3, s0_4)
theorem power_Battery_Tier.mono : ∀ a0 a1 a2 a3 a4 a5 a6 k, LeO (power_Battery_Tier.f k a0 a1 a2 a3 a4 a5 a6) (power_Battery_Tier.f (k + 1) a0 a1 a2 a3 a4 a5 a6) := by
  intro a0 a1 a2 a3 a4 a5 a6 k
  unfold power_Battery_Tier.f
  refine LeO.ite ?_ (LeO.refl _)
  refine LeO.bind (LeO.refl _) (fun _ => ?_)
  refine LeO.bind (params_LandTicks.mono _ _ _) (fun _ => ?_)
  refine LeO.bind (LeO.refl _) (fun _ => ?_)
  exact LeO.bind (params_ReturnTicks.mono _ _ _ _) (fun _ => LeO.refl _)
theorem power_Battery_Tier.at17 {w : World} {ad : Addr} {l : List Int} (j : Nat) (hj : j ≠ 0) (h : Kd.C (Kd.int .i64) w (some ad) l.length l) (hl : j < l.length) : w.cell? ⟨ad.block, ad.off + j, none⟩ = some (.int .i64 (rd l (j : Int))) := by
  obtain ⟨ad', e, hx⟩ := Kd.at_int h (j : Int) (by omega) (by omega)
  obtain rfl : ad = ad' := by injection e
  rw [show ((j : Nat) : Int).toNat = j from by omega] at hx
  have h0 : ad.add j = ⟨ad.block, ad.off + j, none⟩ := by
    unfold Addr.add
    rw [if_neg hj]
  rw [h0] at hx
  exact hx
set_option maxHeartbeats 8000000 in
set_option maxRecDepth 100000 in
theorem power_Battery_Tier.calls (k : Nat) (g : Nat) (s0_0 : List Int) (s0_1 : Int) (s0_2 : Bool) (s0_3 : Int) (s0_4 : Int) (a1 a2 : Int) (r1 : Int) (r2 : Int) (r3 : Bool) (r4 r5 : Int) (w0 w : World) (hI : IsS63 w0 w g s0_0 s0_1 s0_2 s0_3 s0_4) (hB : Below w0.heap.size w0 w) (h : power_Battery_Tier.f k s0_0 s0_1 s0_2 s0_3 s0_4 a1 a2 = some (r1, r2, r3, r4, r5)) :
    Calls Try.prog 16 #[.pointer (some ⟨g, 0, none⟩), .int .i64 a1, .int .i64 a2] w fun e w' => e = .returned (.int .u8 r1) ∧ IsS63 w0 w' g s0_0 r2 r3 r4 r5 ∧ Below w0.heap.size w0 w' ∧ KeepBut w w' g none := by
  have hu63 := Try.underlying63
  have hu31 := Try.underlying31
  unfold power_Battery_Tier.f at h
  obtain ⟨Aq, cq, hblk, _, hrow⟩ := id hI
  have HK := Aside0.mk (KeepBut.refl w g none)
  have HB := Aside0.mk hB
  have HI := Aside0.mk hI
  have HR := Aside0.mk (Kd.R_reads' hrow)
  have hcs := blk_cells5 (w := w) (g := g) hblk
  clear hB hI hrow
  cases s0_2 with
  | false =>
    rw [if_neg (by decide)] at h
    simp only [Option.some.injEq, Prod.mk.injEq] at h
    obtain ⟨rfl, rfl, rfl, rfl, rfl⟩ := h
    clear hblk
    go_enter Try.func16, Try.ntmps16
    go_wp2
    go_ret
    exact ⟨rfl, HI.out, HB.out, HK.out⟩
  | true =>
    rw [if_pos rfl] at h
    replace h := Option.bind_eq_some_iff.mp h
    obtain ⟨q, e1, h⟩ := h
    replace h := Option.bind_eq_some_iff.mp h
    obtain ⟨⟨l1, l2⟩, e2, h⟩ := h
    replace h := Option.bind_eq_some_iff.mp h
    obtain ⟨d, e3, h⟩ := h
    replace h := Option.bind_eq_some_iff.mp h
    obtain ⟨⟨b1, b2⟩, e4, h⟩ := h
    dsimp only at h
    have E1 := Aside0.mk e1
    have E2 := Aside0.mk e2
    have E3 := Aside0.mk e3
    have E4 := Aside0.mk e4
    clear e1 e2 e3 e4
    by_cases c : 17 < s0_0.length
    case neg => rw [if_neg c] at h; cases h
    rw [if_pos c] at h
    obtain ⟨ad, ea, _⟩ := Kd.at_int HR.out.2.2 0 (by decide) (by omega)
    subst ea
    have H := Aside0.mk h
    have HC := Aside0.mk c
    clear h c
    have BS0 := Aside0.mk hblk
    clear hblk
    go_enter Try.func16, Try.ntmps16
    go_wp2_with (first
      | (go_at_call 27; (with_reducible refine (fix_Clamp.calls a1 0 536870912 q _ E1.out).mono ?_); rintro e w1 ⟨rfl, ⟨nd, rfl⟩⟩)
      | (go_at_call 28; (with_reducible refine (params_LandTicks.calls k (some ad) cq s0_0 q l1 l2 _ ?s1 HR.out.2.1 E2.out).mono ?_); (case s1 => repeat (first | exact HR.out.2.2 | (with_reducible refine Kd.C_drewN ?_ _) | (with_reducible refine Kd.C_drew ?_))); rintro e w2 ⟨rfl, hb2⟩; have HB2 := Aside0.mk hb2; clear hb2))
    have BS2 := Aside0.mk (blk_below (g := g) (o := .cells #[.slice (some ad) s0_0.length cq, .int .i64 s0_1, .bool true, .int .i64 s0_3, .int .i64 s0_4] 63 (0, 0)) (by (with_reducible repeat (first | refine blk_drewN ?_ _ | refine blk_drew ?_)); exact BS0.out) HB2.out)
    have HI2 := Aside0.mk (IsS63.below (show IsS63 w0 _ g s0_0 s0_1 true s0_3 s0_4 from by repeat (first | exact HI.out | apply IsS63.drewN | apply IsS63.drew)) HB2.out)
    have HBB2 := Aside0.mk (below_step (show Below w0.heap.size w0 _ from by repeat (first | exact HB.out | apply pw_below_drewN | apply below_drew1)) HB2.out)
    have HK2 := Aside0.mk (KeepBut.trans (show KeepBut w _ g none from by repeat (first | exact HK.out | apply keep_drewN | apply keep_drew)) (KeepBut.of_below HB2.out g none) (.inl rfl))
    have HR2 := Aside0.mk (Kd.C_below (show Kd.C (Kd.int .i64) _ (some ad) s0_0.length s0_0 from by repeat (first | exact HR.out.2.2 | (with_reducible refine Kd.C_drewN ?_ _) | (with_reducible refine Kd.C_drew ?_))) HB2.out)
    clear hcs HB2
    have x02 : _ := (blk_cell BS2.out 0).trans rfl
    go_region_held3 (fun w' => w'.cell? ⟨g, 0, none⟩ = some (.slice (some ad) s0_0.length cq)) (go_keep)
      (first
        | (go_at_call 27; (with_reducible refine (fix_Clamp.calls a2 0 536870912 d _ E3.out).mono ?_); rintro e w3 ⟨rfl, ⟨nd3, rfl⟩⟩)
        | (go_at_call 29; (with_reducible refine (params_ReturnTicks.calls k (some ad) cq s0_0 q d b1 b2 _ ?s1 HR.out.2.1 E4.out).mono ?_); (case s1 => repeat (first | exact HR2.out | (with_reducible refine Kd.C_drewN ?_ _) | (with_reducible refine Kd.C_drew ?_))); rintro e w5 ⟨rfl, hb5⟩; have BS5 := Aside0.mk (blk_below (g := g) (o := .cells #[.slice (some ad) s0_0.length cq, .int .i64 s0_1, .bool true, .int .i64 s0_3, .int .i64 s0_4] 63 (0, 0)) (by (with_reducible repeat (first | refine blk_drewN ?_ _ | refine blk_drew ?_)); exact BS2.out) hb5); have HI5 := Aside0.mk (IsS63.below (show IsS63 w0 _ g s0_0 s0_1 true s0_3 s0_4 from by repeat (first | exact HI2.out | apply IsS63.drewN | apply IsS63.drew)) hb5); have HBB5 := Aside0.mk (below_step (show Below w0.heap.size w0 _ from by repeat (first | exact HBB2.out | apply pw_below_drewN | apply below_drew1)) hb5); have HK5 := Aside0.mk (KeepBut.trans (show KeepBut w _ g none from by repeat (first | exact HK2.out | apply keep_drewN | apply keep_drew)) (KeepBut.of_below hb5 g none) (.inl rfl)); have HR5 := Aside0.mk (Kd.C_below (show Kd.C (Kd.int .i64) _ (some ad) s0_0.length s0_0 from by repeat (first | exact HR2.out | (with_reducible refine Kd.C_drewN ?_ _) | (with_reducible refine Kd.C_drew ?_))) hb5); clear hb5; have x05 : _ := (blk_cell BS5.out 0).trans rfl))
    go_wp2
    clear x02 x05
    have y0 : _ := (blk_cell BS5.out 0).trans rfl
    have y1 : _ := (blk_cell BS5.out 1).trans rfl
    have y17 : _ := power_Battery_Tier.at17 17 (by decide) HR5.out HC.out
    have b17 : (17 < s0_0.length) = True := eq_true HC.out
    have g17 : ((17 : Int) < (s0_0.length : Int)) = True := eq_true (by have := HC.out; omega)
    have d17 : decide (17 < s0_0.length) = true := decide_eq_true HC.out
    have f17 : decide ((17 : Int) < (s0_0.length : Int)) = true := decide_eq_true (by have := HC.out; omega)
    go_region_held3 (fun w' => w'.cell? ⟨g, 0, none⟩ = some (.slice (some ad) s0_0.length cq) ∧ w'.cell? ⟨g, 1, none⟩ = some (.int .i64 s0_1) ∧ w'.cell? ⟨ad.block, ad.off + 17, none⟩ = some (.int .i64 (rd s0_0 17))) (go_keep) (fail)
    clear y0 y1 y17
    have z1 : _ := (blk_cell BS5.out 1).trans rfl
    have z3 : _ := (blk_cell BS5.out 3).trans rfl
    simp only [i64_w]
    replace H := H.out
    obtain ⟨N1, hN1⟩ : ∃ N1, N1 = wrap64 (rd s0_0 17 + wrap64 (s0_1 * wrap64 (l1 + 8))) := ⟨_, rfl⟩
    rw [← hN1] at H ⊢
    have HN1 := Aside0.mk hN1
    clear hN1
    by_cases cA : s0_3 < N1
    · rw [if_pos cA] at H
      simp only [Option.some.injEq, Prod.mk.injEq] at H
      obtain ⟨rfl, rfl, rfl, rfl, rfl⟩ := H
      have cAb : decide (s0_3 < N1) = true := decide_eq_true cA
      go_wp2
      go_ret
      exact ⟨rfl, HI5.out.drew, below_drew1 HBB5.out, keep_drew HK5.out⟩
    · rw [if_neg cA] at H
      have cAb : decide (s0_3 < N1) = false := decide_eq_false cA
      go_wp2
      obtain ⟨N2, hN2⟩ : ∃ N2, N2 = wrap64 (N1 + wrap64 (s0_1 * b1)) := ⟨_, rfl⟩
      rw [← hN2] at H
      go_region_held3 (fun w' => w'.cell? ⟨g, 1, none⟩ = some (.int .i64 s0_1) ∧ w'.cell? ⟨g, 3, none⟩ = some (.int .i64 s0_3)) (go_keep) (fail)
      simp only [i64_w]
      rw [← hN2]
      clear hN2
      by_cases cB : s0_3 < N2
      · rw [if_pos cB] at H
        simp only [Option.some.injEq, Prod.mk.injEq] at H
        obtain ⟨rfl, rfl, rfl, rfl, rfl⟩ := H
        have cBb : decide (s0_3 < N2) = true := decide_eq_true cB
        rw [cBb]
        go_wp2
        go_ret
        exact ⟨rfl, HI5.out.drew.drew, below_drew1 (below_drew1 HBB5.out), keep_drew (keep_drew HK5.out)⟩
      · rw [if_neg cB] at H
        simp only [Option.some.injEq, Prod.mk.injEq] at H
        obtain ⟨rfl, rfl, rfl, rfl, rfl⟩ := H
        have cBb : decide (s0_3 < N2) = false := decide_eq_false cB
        rw [cBb]
        go_wp2
        go_ret
        exact ⟨rfl, HI5.out.drew.drew, below_drew1 (below_drew1 HBB5.out), keep_drew (keep_drew HK5.out)⟩


/-! ### params_Defaults: function 22 -/
def params_Defaults.tb0_0 : List Int := [0, 1, 0, 1, 0, 0, 4, 1600, 1600, 2000, 1000, 500, 200, 100, 40, 40, 1, 0, 0, 0, 0, 1, 0, 16]
def params_Defaults.tb0_1 : List Int := [16, 200, 16, 200, 16, 4, 32, 64000, 32000, 16000, 120000, 120000, 10000, 10000, 40000, 40000, 40, 1000000000, 1000000, 1000, 1000, 10000, 16384, 3200]
def params_Defaults.tb0_2 : List Int := [6, 20, 4, 20, 4, 2, 12, 16000, 8000, 8000, 5000, 2000, 1000, 500, 4000, 400, 8, 1000, 100, 1, 2, 500, 4000, 800]
set_option maxRecDepth 100000 in
theorem params_Defaults.row0 (j : Int) (h0 : 0 ≤ j) (h1 : j < 24) (W : World) : (Instr.index 74 (.agg #[.int .i64 0, .int .i64 16, .int .i64 6, .int .i64 1, .int .i64 200, .int .i64 20, .int .i64 0, .int .i64 16, .int .i64 4, .int .i64 1, .int .i64 200, .int .i64 20, .int .i64 0, .int .i64 16, .int .i64 4, .int .i64 0, .int .i64 4, .int .i64 2, .int .i64 4, .int .i64 32, .int .i64 12, .int .i64 1600, .int .i64 64000, .int .i64 16000, .int .i64 1600, .int .i64 32000, .int .i64 8000, .int .i64 2000, .int .i64 16000, .int .i64 8000, .int .i64 1000, .int .i64 120000, .int .i64 5000, .int .i64 500, .int .i64 120000, .int .i64 2000, .int .i64 200, .int .i64 10000, .int .i64 1000, .int .i64 100, .int .i64 10000, .int .i64 500, .int .i64 40, .int .i64 40000, .int .i64 4000, .int .i64 40, .int .i64 40000, .int .i64 400, .int .i64 1, .int .i64 40, .int .i64 8, .int .i64 0, .int .i64 1000000000, .int .i64 1000, .int .i64 0, .int .i64 1000000, .int .i64 100, .int .i64 0, .int .i64 1000, .int .i64 1, .int .i64 0, .int .i64 1000, .int .i64 2, .int .i64 1, .int .i64 10000, .int .i64 500, .int .i64 0, .int .i64 16384, .int .i64 4000, .int .i64 16, .int .i64 3200, .int .i64 800]) (.int .i64 j)).run Try.prog W = .ok (.agg #[.int .i64 (rd params_Defaults.tb0_0 j), .int .i64 (rd params_Defaults.tb0_1 j), .int .i64 (rd params_Defaults.tb0_2 j)]) W := by
  have hj : j = 0 ∨ j = 1 ∨ j = 2 ∨ j = 3 ∨ j = 4 ∨ j = 5 ∨ j = 6 ∨ j = 7 ∨ j = 8 ∨ j = 9 ∨ j = 10 ∨ j = 11 ∨ j = 12 ∨ j = 13 ∨ j = 14 ∨ j = 15 ∨ j = 16 ∨ j = 17 ∨ j = 18 ∨ j = 19 ∨ j = 20 ∨ j = 21 ∨ j = 22 ∨ j = 23 := by omega
  rcases hj with rfl | rfl | rfl | rfl | rfl | rfl | rfl | rfl | rfl | rfl | rfl | rfl | rfl | rfl | rfl | rfl | rfl | rfl | rfl | rfl | rfl | rfl | rfl | rfl
  all_goals rfl
def params_Defaults.l0 : Nat → List Int → Int → Option (List Int)
  | 0, _, _ => none
  | k + 1, x1, x6 => if x6 < 24 then (if 0 ≤ x6 then (if x1.length < 17592186044416 then (params_Defaults.l0 k (x1 ++ [rd params_Defaults.tb0_2 x6]) (wrap64 (x6 + 1))) else (none)) else (none)) else (some x1)
def params_Defaults.f (k : Nat)  : Option (List Int) := (params_rows.f).bind fun bt220 => (params_Defaults.l0 k (([] : List Int)) 0)
theorem params_Defaults.mono_l : ∀ k, (∀ y0 y1, LeO (params_Defaults.l0 k y0 y1) (params_Defaults.l0 (k + 1) y0 y1))
  | 0 => fun _ _ r h => by simp [params_Defaults.l0] at h
  | k + 1 => by
    have ih0 := params_Defaults.mono_l k
    · intro y0 y1
      unfold params_Defaults.l0
      repeat' first
      | (with_reducible exact ih0 _ _)
      | (with_reducible exact LeO.refl _)
      | (with_reducible exact LeO.none _)
      | (with_reducible refine LeO.ite ?_ ?_)
      | (with_reducible refine LeO.bind ?_ (fun _ => ?_))
      | exact ih0 _ _
      | exact LeO.none _
      | refine LeO.ite ?_ ?_
      | refine LeO.bind ?_ (fun _ => ?_)
theorem params_Defaults.mono : ∀ k, LeO (params_Defaults.f k ) (params_Defaults.f (k + 1) ) := by
  intro  k
  have ih0 := params_Defaults.mono_l k
  unfold params_Defaults.f
  repeat' first
      | (with_reducible exact ih0 _ _)
      | (with_reducible exact LeO.refl _)
      | (with_reducible exact LeO.none _)
      | (with_reducible refine LeO.ite ?_ ?_)
      | (with_reducible refine LeO.bind ?_ (fun _ => ?_))
      | exact ih0 _ _
      | exact LeO.none _
      | refine LeO.ite ?_ ?_
      | refine LeO.bind ?_ (fun _ => ?_)
set_option maxHeartbeats 8000000 in
set_option maxRecDepth 100000 in
theorem params_Defaults.calls (k : Nat)  (r : List Int) (w : World) (h : params_Defaults.f k  = some r) :
    Calls Try.prog 22 #[] w fun e w' => ∃ v0_ : Value, e = .returned (v0_) ∧ Kd.R (Kd.int .i64) 3 w' w.heap.size (fun _ => True) v0_ r ∧ Below w.heap.size w w' := by
  have hu73 := Try.underlying73
  have hu74 := Try.underlying74
  have HB := Aside0.mk (Below.refl w.heap.size w)
  have H : ((params_rows.f).bind fun bt220 => (params_Defaults.l0 k (([] : List Int)) 0)) = some r := h
  clear h
  obtain ⟨y217, hy217⟩ : ∃ y_ : List Int, y_ = (([] : List Int)) := ⟨_, rfl⟩
  replace H : ((params_rows.f).bind fun bt220 => (params_Defaults.l0 k y217 0)) = some r := by first | (rw [hy217]; with_reducible exact H) | (have H2_ := (Option.bind_some _ _).symm.trans H; rw [hy217]; with_reducible exact H2_) | (have H2_ := (Option.bind_some _ _).symm.trans H; with_reducible exact H2_) | with_reducible exact H | (rw [hy217]; exact H) | exact H
  have Ny217 := Aside0.mk hy217
  clear hy217
  replace H := Option.bind_eq_some_iff.mp H
  obtain ⟨⟨t220, t221, t222, t223, t224, t225, t226, t227, t228, t229, t230, t231, t232, t233, t234, t235, t236, t237, t238, t239, t240, t241, t242, t243, t244, t245, t246, t247, t248, t249, t250, t251, t252, t253, t254, t255, t256, t257, t258, t259, t260, t261, t262, t263, t264, t265, t266, t267, t268, t269, t270, t271, t272, t273, t274, t275, t276, t277, t278, t279, t280, t281, t282, t283, t284, t285, t286, t287, t288, t289, t290, t291⟩, A10, H⟩ := H
  replace H : (params_Defaults.l0 k y217 0) = some r := H
  have A1 := Aside0.mk A10
  clear A10
  have A1E := A1.out
  simp only [params_rows.f, Option.some.injEq, Prod.mk.injEq] at A1E
  obtain ⟨rfl, rfl, rfl, rfl, rfl, rfl, rfl, rfl, rfl, rfl, rfl, rfl, rfl, rfl, rfl, rfl, rfl, rfl, rfl, rfl, rfl, rfl, rfl, rfl, rfl, rfl, rfl, rfl, rfl, rfl, rfl, rfl, rfl, rfl, rfl, rfl, rfl, rfl, rfl, rfl, rfl, rfl, rfl, rfl, rfl, rfl, rfl, rfl, rfl, rfl, rfl, rfl, rfl, rfl, rfl, rfl, rfl, rfl, rfl, rfl, rfl, rfl, rfl, rfl, rfl, rfl, rfl, rfl, rfl, rfl, rfl, rfl⟩ := A1E
  have H' := Aside0.mk H
  clear H
  go_enter Try.func22, Try.ntmps22
  go_wp2_with (first | ((with_reducible refine gate_dst (N := 4) rfl ?_); refine Kd.R_make0 (Kd.int .i64) _ 3 rfl (N := 4) rfl 22 _ _ rfl 24 rfl rfl Try.underlying22 (.int .i64 0) 8 info3 (by decide) (ok := fun _ => True) (okp := fun _ => True) (fun _ hk => hk) trivial (by omega) (Below.refl _ _) (Nat.le_refl _) ?_; intro v218 w2 ho3 hb hg_ hnew_; clear hg_ hnew_; (first | rw [← Ny217.out] at ho3 | (simp only [Int.reduceToNat] at ho3; rw [← Ny217.out] at ho3)); have n0_ := Aside0.mk (Kd.R_lower ho3 (below_size (by repeat (first | (with_reducible first | exact HB.out | apply below_alloc | apply pw_below_drewN | apply below_drew1) | exact HB.out)))); have n1_ := Aside0.mk (below_step (by repeat (first | (with_reducible first | exact HB.out | apply below_alloc | apply pw_below_drewN | apply below_drew1) | exact HB.out)) hb); clear HB; have HO219 := n0_; have HB := n1_; clear n0_ n1_; clear hb ho3) | ((with_reducible refine gate_callee (f := 37) rfl ?_); refine goesL_ (some 5) rfl rfl Try.func37 (by kernel_rfl) rfl #[] rfl (by (try simp only [List.map_toArray, List.map_cons, List.map_nil]); first | done | rfl | (simp only [List.length_drop, List.length_take]; rfl)) ?_; (with_reducible refine (params_rows.calls  0 16 6 1 200 20 0 16 4 1 200 20 0 16 4 0 4 2 4 32 12 1600 64000 16000 1600 32000 8000 2000 16000 8000 1000 120000 5000 500 120000 2000 200 10000 1000 100 10000 500 40 40000 4000 40 40000 400 1 40 8 0 1000000000 1000 0 1000000 100 0 1000 1 0 1000 2 1 10000 500 0 16384 4000 16 3200 800 _ A1.out).mono ?_); rintro e w4 ⟨rfl, hb⟩; refine ⟨_, rfl, ?_⟩; have n0_ := Aside0.mk (Kd.R_below (by (with_reducible repeat (first | apply Kd.R_alloc | apply Kd.R_drewN | apply Kd.R_drew)); exact HO219.out) hb); have n1_ := Aside0.mk (below_step (by repeat (first | (with_reducible first | exact HB.out | apply below_alloc | apply pw_below_drewN | apply below_drew1) | exact HB.out)) hb); clear HO219; clear HB; have HO219 := n0_; have HB := n1_; clear n0_ n1_; (try clear hb); (try clear hb2); (try clear hk); (try clear hi)))
  go_loopg [1, 6] k (fun kq v1 v6 w' => ∃ (x1_1 : List Int) (x6_1 : Int), v6 = .int .i64 x6_1 ∧ Aside0 (params_Defaults.l0 kq x1_1 x6_1 = some r) ∧ Aside0 (kq ≤ k) ∧ Aside0 (Kd.R (Kd.int .i64) 3 w' w.heap.size (fun _ => True) v1 x1_1) ∧ Aside0 (Below w.heap.size w w'))
  case atStart => exact ⟨(y217), (0), (by first | rfl | (simp; done) | (simp [*]; done)), H', ⟨Nat.le_refl _⟩, ⟨by (with_reducible repeat (first | apply Kd.R_alloc | apply Kd.R_drewN | apply Kd.R_drew)); exact HO219.out⟩, ⟨by repeat (first | (with_reducible first | exact HB.out | apply below_alloc | apply pw_below_drewN | apply below_drew1) | exact HB.out)⟩⟩
  case round =>
    clear H'
    try clear c2
    try clear p2
    try clear c3
    obtain ⟨x1_1, x6_1, rfl, HA, HK1, HO_1, HB⟩ := hrel
    cases gk with
    | zero => exact absurd HA.out (by simp [params_Defaults.l0])
    | succ k1 =>
      have H := HA.out
      clear HA
      simp only [params_Defaults.l0] at H
      by_cases c5 : x6_1 < 24
      · rw [if_pos c5] at H
        have c5b0 : decide (x6_1 < 24) = true := decide_eq_true c5
        clear c5
        by_cases c6 : 0 ≤ x6_1
        · rw [if_pos c6] at H
          have c6b0 := eq_true c6
          have c6b1 : decide (0 ≤ x6_1) = true := decide_eq_true c6
          clear c6
          have c7b0 := eq_true (of_decide_eq_true (by first | (with_reducible assumption) | assumption) : x6_1 < 24)
          have hix8 := params_Defaults.row0 x6_1 (of_decide_eq_true (by first | (with_reducible assumption) | assumption)) (of_decide_eq_true (by first | (with_reducible assumption) | assumption))
          by_cases c9 : x1_1.length < 17592186044416
          · rw [if_pos c9] at H
            have LMc9 := Aside0.mk c9
            clear c9
            obtain ⟨y293, hy293⟩ : ∃ y_ : List Int, y_ = (x1_1 ++ [rd params_Defaults.tb0_2 x6_1]) := ⟨_, rfl⟩
            replace H : (params_Defaults.l0 k1 y293 (wrap64 (x6_1 + 1))) = some r := by first | (rw [hy293]; with_reducible exact H) | (have H2_ := (Option.bind_some _ _).symm.trans H; rw [hy293]; with_reducible exact H2_) | (have H2_ := (Option.bind_some _ _).symm.trans H; with_reducible exact H2_) | with_reducible exact H | (rw [hy293]; exact H) | exact H
            have Ny293 := Aside0.mk hy293
            clear hy293
            have H' := Aside0.mk H
            clear H
            go_wp2_with (first | ((with_reducible refine gate_dst (N := 3) rfl ?_); refine box_event ?hg (N := 3) ?hd (cs := #[.int .i64 0, .int .i64 0, .int .i64 0]) (t := 73) ?hr ?_; (case hd => rfl); (case hg => rfl); (case hr => first | (go_simp; done) | (go_simp; rfl)); intro gb292 hg w10 hbox hb; have n0_ := Aside0.mk (Kd.R_below (by (with_reducible repeat (first | apply Kd.R_alloc | apply Kd.R_drewN | apply Kd.R_drew)); exact HO_1.out) hb); have n1_ := Aside0.mk (below_step (by repeat (first | (with_reducible first | exact HB.out | apply below_alloc | apply pw_below_drewN | apply below_drew1) | exact HB.out)) hb); have n2_ := Aside0.mk (hbox); have n3_ := Aside0.mk ((by rw [hg]; exact (below_size (by repeat (first | (with_reducible first | exact HB.out | apply below_alloc | apply pw_below_drewN | apply below_drew1) | exact HB.out))) : w.heap.size ≤ gb292)); have n4_ := Aside0.mk ((by rw [hg]; exact (below_size (by repeat (first | (with_reducible first | exact HB.out | apply below_alloc | apply pw_below_drewN | apply below_drew1) | exact HB.out))) : w.heap.size ≤ gb292)); clear HO_1; clear HB; have HO_1 := n0_; have HB := n1_; have BK292 := n2_; have GW292 := n3_; have GE292 := n4_; clear n0_ n1_ n2_ n3_ n4_; clear hb hbox hg; have hcz11_0 := blk_cells3 (w := w10) (g := gb292) BK292.out; have hfz11_0 := blk_frozen BK292.out) | ((with_reducible refine gate_builtin (b := .append) (xs := #[.tmp 9, .tmp 12]) rfl ?_); at_builtin; refine Kd.R_append (Kd.int .i64) (w0 := w) w.heap.size rfl (.tmp 9) (.tmp 12) 22 3 (.int .i64 0) 8 rfl Try.underlying22 info3 rfl (by decide) (by omega) u1 x1_1 (rd params_Defaults.tb0_2 x6_1) [.int .i64 (rd params_Defaults.tb0_2 x6_1)] (fun _ => True) (fun _ => False) rfl (by first | (go_simp; done) | (go_simp; rfl)) ?aP (fun _ hk => hk.elim) ?aF ?aO ?aB ?aS ?aL ?_; (case aP => exact rfl); (case aB => exact (by repeat (first | (with_reducible first | exact HB.out | apply below_alloc | apply pw_below_drewN | apply below_drew1 | refine below_set ?_ GE292.out) | exact HB.out))); (case aF => exact (fun _ _ => trivial)); (case aO => exact (by (with_reducible repeat (first | apply Kd.R_alloc | apply Kd.R_drewN | apply Kd.R_drew)); exact Kd.R_mono (Kd.R_far (p := ⟨gb292, 2, none⟩) (Kd.R_far (p := ⟨gb292, 1, none⟩) (Kd.R_far (p := ⟨gb292, 0, none⟩) (Kd.R_types HO_1.out BK292.out (by decide)) (fun _ hk => hk.2) (.int .i64 (rd params_Defaults.tb0_0 x6_1))) (fun _ hk => hk.2) (.int .i64 (rd params_Defaults.tb0_1 x6_1))) (fun _ hk => hk.2) (.int .i64 (rd params_Defaults.tb0_2 x6_1))) (fun _ hk => trivial))); (case aS => exact (below_size (by repeat (first | (with_reducible first | exact HB.out | apply below_alloc | apply pw_below_drewN | apply below_drew1 | refine below_set ?_ GE292.out) | exact HB.out)))); (case aL => have := LMc9.out; omega); intro v294 w12 ho hb hg hat; rw [← Ny293.out] at ho; have n0_ := Aside0.mk (blk_grown (g := gb292) (o := .cells #[.int .i64 (rd params_Defaults.tb0_0 x6_1), .int .i64 (rd params_Defaults.tb0_1 x6_1), .int .i64 (rd params_Defaults.tb0_2 x6_1)] 73 (0, 0)) (by (with_reducible repeat (first | refine blk_drewN ?_ _ | refine blk_drew ?_ | refine blk_alloc ?_ _)); refine blk_put (cs := #[.int .i64 (rd params_Defaults.tb0_0 x6_1), .int .i64 (rd params_Defaults.tb0_1 x6_1), .int .i64 0]) ?_ 2 _ rfl; (with_reducible repeat (first | refine blk_drewN ?_ _ | refine blk_drew ?_ | refine blk_alloc ?_ _)); refine blk_put (cs := #[.int .i64 (rd params_Defaults.tb0_0 x6_1), .int .i64 0, .int .i64 0]) ?_ 1 _ rfl; (with_reducible repeat (first | refine blk_drewN ?_ _ | refine blk_drew ?_ | refine blk_alloc ?_ _)); refine blk_put (cs := #[.int .i64 0, .int .i64 0, .int .i64 0]) ?_ 0 _ rfl; (with_reducible repeat (first | refine blk_drewN ?_ _ | refine blk_drew ?_ | refine blk_alloc ?_ _)); exact BK292.out) hg (Kd.R_ne HO_1.out BK292.out (by decide))); have n1_ := Aside0.mk (hb); have n2_ := Aside0.mk (ho); clear BK292; clear HB; clear HO_1; have BK292 := n0_; have HB := n1_; have HO295 := n2_; clear n0_ n1_ n2_; clear ho hb hg hat))
            go_roundg k1
            case measure => have := HK1.out; omega
            case rel => exact ⟨(y293), (wrap64 (x6_1 + 1)), (by first | rfl | (simp; done) | (simp [*]; done)), H', ⟨by have := HK1.out; omega⟩, ⟨by (with_reducible repeat (first | apply Kd.R_alloc | apply Kd.R_drewN | apply Kd.R_drew)); exact HO295.out⟩, ⟨by repeat (first | (with_reducible first | exact HB.out | apply below_alloc | apply pw_below_drewN | apply below_drew1 | refine below_set ?_ GE292.out) | exact HB.out)⟩⟩
          · rw [if_neg c9] at H
            exact absurd H (by simp)
        · rw [if_neg c6] at H
          exact absurd H (by simp)
      · rw [if_neg c5] at H
        have c5b0 : decide (x6_1 < 24) = false := decide_eq_false c5
        clear c5
        obtain rfl := Option.some.inj H
        go_wp2
        go_ret
        exact ⟨_, by first | rfl | (simp [errW_none, errW_some] <;> rfl) | (simp [*, errW_none, errW_some] <;> rfl), by (with_reducible repeat (first | apply Kd.R_alloc | apply Kd.R_drewN | apply Kd.R_drew)); exact HO_1.out, by repeat (first | (with_reducible first | exact HB.out | apply below_alloc | apply pw_below_drewN | apply below_drew1) | exact HB.out)⟩

end Go.Proofs.Ytmmlahckcgjofaa.PPowerRises
