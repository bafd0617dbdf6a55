-- WRITTEN BY wip/tools/aprint.py of this claim's repository over the kit's words: not typed by hand
import Derived.Test.YtaabdnamofmfcaaPParamsTimesx0
import Derived.Test.YtaabdnamofmfcaaPParamsTimesx1
import Derived.Test.YtaabdnamofmfcaaPParamsTimesx3
import Derived.Test.YtaabdnamofmfcaaPParamsTimesx5
import Derived.Test.YtaabdnamofmfcaaPParamsTimesx6
import Derived.Test.YtaabdnamofmfcaaPParamsTimesx7
namespace Go.Proofs.Ytaabdnamofmfcaa.PParamsTimes
open Go.RowKit Go.Proofs.YtaabdnamofmfcaaW.PrintWords Go.Proofs.YtaabdnamofmfcaaW.PrintLast Go.Proofs.YtaabdnamofmfcaaW.PrintMore
attribute [local go_sem] max2_int min2_int max_two min_two max_three min_three max_four min_four   -- for this text's walks alone
set_option linter.unusedVariables false
set_option linter.unusedSimpArgs false

/-! ### windhoverref08_far: function 46 -/
def windhoverref08_far.f (a0 : Int) : Option (Bool) := if a0 < 0 then (some true) else (some (decide (a0 > 536870912)))
set_option maxHeartbeats 8000000 in
set_option maxRecDepth 100000 in
theorem windhoverref08_far.calls (a0 : Int) (r : Bool) (w : World) (h : windhoverref08_far.f a0 = some r) :
    Calls Try.prog 46 #[.int .i64 a0] w fun e w' => e = .returned (.bool r) ∧ Drawn0 w w' := by
  have H : (if a0 < 0 then (some true) else (some (decide (a0 > 536870912)))) = some r := h
  clear h
  by_cases c2 : a0 < 0
  · rw [if_pos c2] at H
    have c2b0 : decide (a0 < 0) = true := decide_eq_true c2
    clear c2
    obtain rfl := Option.some.inj H
    go_enter Try.func46, Try.ntmps46
    go_wp2
    go_ret
    exact ⟨by first | rfl | (simp; done) | (simp [*]; done), by repeat (first | exact Drawn0.refl _ | apply Drawn0.step)⟩
  · rw [if_neg c2] at H
    have c2b0 : decide (a0 < 0) = false := decide_eq_false c2
    clear c2
    obtain rfl := Option.some.inj H
    go_enter Try.func46, Try.ntmps46
    go_wp2
    go_ret
    exact ⟨by first | rfl | (simp; done) | (simp [*]; done), by repeat (first | exact Drawn0.refl _ | apply Drawn0.step)⟩

/-! ### windhoverref08_LandTicks: function 27 -/
def windhoverref08_LandTicks.f (k : Nat) (l0 : List Int) (a1 : Int) : Option (Int × Int) := (windhoverref08_Margins.f k l0).bind fun bt361 => (if bt361.2.2.2.2.2.2 = 0 then ((windhoverref08_far.f a1).bind fun t369 => (if t369 = true then (some (0, 1)) else (if 9 < (l0.length : Int) then (if bt361.1 = 0 then (none) else ((windhoverref08_Way.f k bt361.2.2.2.1 bt361.1).bind fun t371 => ((windhoverref08_up.f (wrap64 ((wrap64 ((wrap64 (a1 * 6400)) + t371)) + (wrap64 (16 * bt361.2.2.2.1)))) (wrap64 ((rd l0 9) - bt361.2.1))).bind fun t372 => (some (wrap64 ((wrap64 ((wrap64 ((wrap64 (Int.tdiv bt361.2.2.2.1 bt361.1)) + (wrap64 (Int.tdiv (rd l0 9) 32)))) + t372)) + 104), 0))))) else (none)))) else (some (0, bt361.2.2.2.2.2.2)))
theorem windhoverref08_LandTicks.mono : ∀ a0 a1 k, LeO (windhoverref08_LandTicks.f k a0 a1) (windhoverref08_LandTicks.f (k + 1) a0 a1) := by
  intro a0 a1 k
  unfold windhoverref08_LandTicks.f
  repeat' first
      | (with_reducible exact windhoverref08_Margins.mono _ _)
      | (with_reducible exact windhoverref08_Way.mono _ _ _)
      | (with_reducible exact LeO.refl _)
      | (with_reducible exact LeO.none _)
      | (with_reducible refine LeO.ite ?_ ?_)
      | (with_reducible refine LeO.bind ?_ (fun _ => ?_))
      | exact windhoverref08_Margins.mono _ _
      | exact windhoverref08_Way.mono _ _ _
      | exact LeO.none _
      | refine LeO.ite ?_ ?_
      | refine LeO.bind ?_ (fun _ => ?_)
def windhoverref08_LandTicks.T7 : Bool × List (List Nat × List Nat) := (true, [([], []), ([0], [0]), ([], []), ([2], [2]), ([1, 3], [1, 3]), ([], []), ([5], [5]), ([4, 6], [4, 6]), ([], []), ([8], [8]), ([], []), ([10], [10]), ([], []), ([12], [12]), ([11, 13], [11, 13]), ([9, 14], [9, 14]), ([], []), ([16], [16]), ([17], [17]), ([15, 18], [15, 18]), ([], []), ([], []), ([21], [21]), ([20, 22], [20, 22]), ([19, 23, 14], [19, 23]), ([7, 24], [7, 24]), ([25], [25]), ([26, 24, 0, 1, 2, 3, 4, 5, 6, 7, 8, 9, 10, 11, 12, 13, 14, 15, 16, 17, 18, 19, 20, 21, 22, 23, 24, 25, 26], [26]), ([27, 0, 1, 2, 3, 4, 5, 6, 7, 8, 9, 10, 11, 12, 13, 14, 15, 16, 17, 18, 19, 20, 21, 22, 23, 24, 25, 26, 27], [])])
def windhoverref08_LandTicks.B7 : List Nat := [0, 1, 0, 4, 15, 0, 32, 127, 0, 256, 0, 1024, 0, 4096, 15360, 32512, 0, 65536, 196608, 524032, 0, 0, 2097152, 7340032, 16776960, 33554431, 67108863, 134217727, 268435455]
theorem windhoverref08_LandTicks.tab7 : rtab .any (opsOf Try.f27 7) = windhoverref08_LandTicks.T7 := by kernel_rfl
theorem windhoverref08_LandTicks.bits7 : waitsOk windhoverref08_LandTicks.T7.2 windhoverref08_LandTicks.B7 = true := by kernel_rfl
set_option maxHeartbeats 8000000 in
set_option maxRecDepth 100000 in
theorem windhoverref08_LandTicks.calls (k : Nat) (A0 : Option Addr) (c0 : Nat) (l0 : List Int) (a1 : Int) (r1 : Int) (r2 : Int) (w : World) (hr0 : Kd.C (Kd.int .i64) w A0 l0.length l0) (hc0 : l0.length ≤ c0) (h : windhoverref08_LandTicks.f k l0 a1 = some (r1, r2)) :
    Calls Try.prog 27 #[.slice A0 l0.length c0, .int .i64 a1] w fun e w' => e = .returned (.tuple #[.int .i64 r1, .int .i64 r2]) ∧ Below w.heap.size w w' := by
  have hu30 := Try.underlying30
  have HR0 := Aside0.mk hr0
  have HC0 := Aside0.mk hc0
  clear hr0 hc0
  have HB := Aside0.mk (Below.refl w.heap.size w)
  have H : ((windhoverref08_Margins.f k l0).bind fun bt361 => (if bt361.2.2.2.2.2.2 = 0 then ((windhoverref08_far.f a1).bind fun t369 => (if t369 = true then (some (0, 1)) else (if 9 < (l0.length : Int) then (if bt361.1 = 0 then (none) else ((windhoverref08_Way.f k bt361.2.2.2.1 bt361.1).bind fun t371 => ((windhoverref08_up.f (wrap64 ((wrap64 ((wrap64 (a1 * 6400)) + t371)) + (wrap64 (16 * bt361.2.2.2.1)))) (wrap64 ((rd l0 9) - bt361.2.1))).bind fun t372 => (some (wrap64 ((wrap64 ((wrap64 ((wrap64 (Int.tdiv bt361.2.2.2.1 bt361.1)) + (wrap64 (Int.tdiv (rd l0 9) 32)))) + t372)) + 104), 0))))) else (none)))) else (some (0, bt361.2.2.2.2.2.2)))) = some (r1, r2) := h
  clear h
  replace H := Option.bind_eq_some_iff.mp H
  obtain ⟨⟨t361, t362, t363, t364, t365, t366, t367⟩, A30, H⟩ := H
  replace H : (if t367 = 0 then ((windhoverref08_far.f a1).bind fun t369 => (if t369 = true then (some (0, 1)) else (if 9 < (l0.length : Int) then (if t361 = 0 then (none) else ((windhoverref08_Way.f k t364 t361).bind fun t371 => ((windhoverref08_up.f (wrap64 ((wrap64 ((wrap64 (a1 * 6400)) + t371)) + (wrap64 (16 * t364)))) (wrap64 ((rd l0 9) - t362))).bind fun t372 => (some (wrap64 ((wrap64 ((wrap64 ((wrap64 (Int.tdiv t364 t361)) + (wrap64 (Int.tdiv (rd l0 9) 32)))) + t372)) + 104), 0))))) else (none)))) else (some (0, t367))) = some (r1, r2) := H
  have A3 := Aside0.mk A30
  clear A30
  by_cases c4 : t367 = 0
  · rw [if_pos c4] at H
    have c4b0 : (t367 == 0) = true := beq_iff_eq.mpr c4
    have c4b1 : (t367 != 0) = false := bne_eq_false_iff_eq.mpr c4
    clear c4
    replace H := Option.bind_eq_some_iff.mp H
    obtain ⟨t369, A50, H⟩ := H
    replace H : (if t369 = true then (some (0, 1)) else (if 9 < (l0.length : Int) then (if t361 = 0 then (none) else ((windhoverref08_Way.f k t364 t361).bind fun t371 => ((windhoverref08_up.f (wrap64 ((wrap64 ((wrap64 (a1 * 6400)) + t371)) + (wrap64 (16 * t364)))) (wrap64 ((rd l0 9) - t362))).bind fun t372 => (some (wrap64 ((wrap64 ((wrap64 ((wrap64 (Int.tdiv t364 t361)) + (wrap64 (Int.tdiv (rd l0 9) 32)))) + t372)) + 104), 0))))) else (none))) = some (r1, r2) := H
    have A5 := Aside0.mk A50
    clear A50
    by_cases c6 : t369 = true
    · subst c6
      have H1 : (some (0, 1)) = some (r1, r2) := by rw [if_pos rfl] at H; exact H
      clear H
      have H := H1
      clear H1
      simp only [Option.some.injEq, Prod.mk.injEq] at H
      obtain ⟨rfl, rfl⟩ := H
      go_enter Try.func27, Try.ntmps27
      go_wp2_with (first | ((with_reducible refine gate_callee (f := 17) rfl ?_); refine goesL_ (some 11) rfl rfl Try.func17 (by kernel_rfl) rfl #[.slice A0 l0.length c0] rfl (by (try simp only [List.map_toArray, List.map_cons, List.map_nil]); first | done | rfl | (simp only [List.length_drop, List.length_take]; rfl)) ?_; (with_reducible refine (windhoverref08_Margins.calls k _ _ l0 t361 t362 t363 t364 t365 t366 t367 _ ?side1 ?side2 A3.out).mono ?_); (case side1 => repeat (first | exact HR0.out | (with_reducible refine Kd.C_alloc ?_ _) | (with_reducible refine Kd.C_drewN ?_ _) | (with_reducible refine Kd.C_drew ?_))); (case side2 => exact HC0.out); rintro e w7 ⟨rfl, hb⟩; refine ⟨_, rfl, ?_⟩; have n0_ := Aside0.mk (below_step (by repeat (first | (with_reducible first | exact HB.out | apply below_alloc | apply pw_below_drewN | apply below_drew1) | exact HB.out)) hb); clear HB; have HB := n0_; clear n0_; (try clear hb); (try clear hb2); (try clear hk); (try clear hi)) | ((with_reducible refine gate_dst (N := 6) rfl ?_); refine box_event ?hg (N := 6) ?hd (cs := #[.int .i64 0, .int .i64 0, .int .i64 0, .int .i64 0, .int .i64 0, .int .i64 0]) (t := 30) ?hr ?_; (case hd => rfl); (case hg => rfl); (case hr => first | (go_simp; done) | (go_simp; rfl)); intro gb368 hg w8 hbox hb; have n0_ := Aside0.mk (below_step (by repeat (first | (with_reducible first | exact HB.out | apply below_alloc | apply pw_below_drewN | apply below_drew1) | exact HB.out)) hb); have n1_ := Aside0.mk (hbox); have n2_ := Aside0.mk ((by rw [hg]; exact (below_size (by repeat (first | (with_reducible first | exact HB.out | apply below_alloc | apply pw_below_drewN | apply below_drew1) | exact HB.out))) : w.heap.size ≤ gb368)); have n3_ := Aside0.mk ((by rw [hg]; exact (below_size (by repeat (first | (with_reducible first | exact HB.out | apply below_alloc | apply pw_below_drewN | apply below_drew1) | exact HB.out))) : w.heap.size ≤ gb368)); clear HB; have HB := n0_; have BK368 := n1_; have GW368 := n2_; have GE368 := n3_; clear n0_ n1_ n2_ n3_; clear hb hbox hg; have hcz9_0 := blk_cells6 (w := w8) (g := gb368) BK368.out; have hfz9_0 := blk_frozen BK368.out) | ((with_reducible refine gate_callee (f := 46) rfl ?_); refine goesL_ (some 18) rfl rfl Try.func46 (by kernel_rfl) rfl #[.int .i64 a1] rfl (by (try simp only [List.map_toArray, List.map_cons, List.map_nil]); first | done | rfl | (simp only [List.length_drop, List.length_take]; rfl)) ?_; (with_reducible refine (windhoverref08_far.calls a1 true _ A5.out).mono ?_); rintro e w' ⟨rfl, ⟨nd, rfl⟩⟩; refine ⟨_, rfl, ?_⟩))
      go_ret2
      exact ⟨by first | rfl | (simp [errW_none, errW_some] <;> rfl) | (simp [*, errW_none, errW_some] <;> rfl), by repeat (first | (with_reducible first | exact HB.out | apply below_alloc | apply pw_below_drewN | apply below_drew1 | refine below_set ?_ GE368.out) | exact HB.out)⟩
    · replace c6 := Bool.eq_false_iff.mpr c6
      subst c6
      have H1 : (if 9 < (l0.length : Int) then (if t361 = 0 then (none) else ((windhoverref08_Way.f k t364 t361).bind fun t371 => ((windhoverref08_up.f (wrap64 ((wrap64 ((wrap64 (a1 * 6400)) + t371)) + (wrap64 (16 * t364)))) (wrap64 ((rd l0 9) - t362))).bind fun t372 => (some (wrap64 ((wrap64 ((wrap64 ((wrap64 (Int.tdiv t364 t361)) + (wrap64 (Int.tdiv (rd l0 9) 32)))) + t372)) + 104), 0))))) else (none)) = some (r1, r2) := by rw [if_neg (show ¬ (false = true) by decide)] at H; exact H
      clear H
      have H := H1
      clear H1
      by_cases c10 : 9 < (l0.length : Int)
      · rw [if_pos c10] at H
        have c10b0 : decide (9 < (l0.length : Int)) = true := decide_eq_true c10
        have c10b1 : decide (9 < l0.length) = true := decide_eq_true (by omega)
        clear c10
        by_cases c11 : t361 = 0
        · rw [if_pos c11] at H
          exact absurd H (by simp)
        · rw [if_neg c11] at H
          have c11b0 : (t361 == 0) = false := beq_eq_false_iff_ne.mpr c11
          have c11b1 : (t361 != 0) = true := bne_iff_ne.mpr c11
          replace H := Option.bind_eq_some_iff.mp H
          obtain ⟨t371, A120, H⟩ := H
          replace H : ((windhoverref08_up.f (wrap64 ((wrap64 ((wrap64 (a1 * 6400)) + t371)) + (wrap64 (16 * t364)))) (wrap64 ((rd l0 9) - t362))).bind fun t372 => (some (wrap64 ((wrap64 ((wrap64 ((wrap64 (Int.tdiv t364 t361)) + (wrap64 (Int.tdiv (rd l0 9) 32)))) + t372)) + 104), 0))) = some (r1, r2) := H
          have A12 := Aside0.mk A120
          clear A120
          replace H := Option.bind_eq_some_iff.mp H
          obtain ⟨t372, A130, H⟩ := H
          replace H : (some (wrap64 ((wrap64 ((wrap64 ((wrap64 (Int.tdiv t364 t361)) + (wrap64 (Int.tdiv (rd l0 9) 32)))) + t372)) + 104), 0)) = some (r1, r2) := H
          have A13 := Aside0.mk A130
          clear A130
          simp only [Option.some.injEq, Prod.mk.injEq] at H
          obtain ⟨rfl, rfl⟩ := H
          go_enter Try.func27, Try.ntmps27
          try go_wp2_with (first | ((with_reducible refine gate_callee (f := 17) rfl ?_); refine goesL_ (some 11) rfl rfl Try.func17 (by kernel_rfl) rfl #[.slice A0 l0.length c0] rfl (by (try simp only [List.map_toArray, List.map_cons, List.map_nil]); first | done | rfl | (simp only [List.length_drop, List.length_take]; rfl)) ?_; (with_reducible refine (windhoverref08_Margins.calls k _ _ l0 t361 t362 t363 t364 t365 t366 t367 _ ?side1 ?side2 A3.out).mono ?_); (case side1 => repeat (first | exact HR0.out | (with_reducible refine Kd.C_alloc ?_ _) | (with_reducible refine Kd.C_drewN ?_ _) | (with_reducible refine Kd.C_drew ?_))); (case side2 => exact HC0.out); rintro e w14 ⟨rfl, hb⟩; refine ⟨_, rfl, ?_⟩; have n0_ := Aside0.mk (below_step (by repeat (first | (with_reducible first | exact HB.out | apply below_alloc | apply pw_below_drewN | apply below_drew1) | exact HB.out)) hb); clear HB; have HB := n0_; clear n0_; (try clear hb); (try clear hb2); (try clear hk); (try clear hi)) | ((with_reducible refine gate_dst (N := 6) rfl ?_); refine box_event ?hg (N := 6) ?hd (cs := #[.int .i64 0, .int .i64 0, .int .i64 0, .int .i64 0, .int .i64 0, .int .i64 0]) (t := 30) ?hr ?_; (case hd => rfl); (case hg => rfl); (case hr => first | (go_simp; done) | (go_simp; rfl)); intro gb368 hg w15 hbox hb; have n0_ := Aside0.mk (below_step (by repeat (first | (with_reducible first | exact HB.out | apply below_alloc | apply pw_below_drewN | apply below_drew1) | exact HB.out)) hb); have n1_ := Aside0.mk (hbox); have n2_ := Aside0.mk ((by rw [hg]; exact (below_size (by repeat (first | (with_reducible first | exact HB.out | apply below_alloc | apply pw_below_drewN | apply below_drew1) | exact HB.out))) : w.heap.size ≤ gb368)); have n3_ := Aside0.mk ((by rw [hg]; exact (below_size (by repeat (first | (with_reducible first | exact HB.out | apply below_alloc | apply pw_below_drewN | apply below_drew1) | exact HB.out))) : w.heap.size ≤ gb368)); clear HB; have HB := n0_; have BK368 := n1_; have GW368 := n2_; have GE368 := n3_; clear n0_ n1_ n2_ n3_; clear hb hbox hg; have hcz16_0 := blk_cells6 (w := w15) (g := gb368) BK368.out; have hfz16_0 := blk_frozen BK368.out) | ((with_reducible refine gate_callee (f := 46) rfl ?_); refine goesL_ (some 18) rfl rfl Try.func46 (by kernel_rfl) rfl #[.int .i64 a1] rfl (by (try simp only [List.map_toArray, List.map_cons, List.map_nil]); first | done | rfl | (simp only [List.length_drop, List.length_take]; rfl)) ?_; (with_reducible refine (windhoverref08_far.calls a1 false _ A5.out).mono ?_); rintro e w' ⟨rfl, ⟨nd, rfl⟩⟩; refine ⟨_, rfl, ?_⟩; have p370 : 0 ≤ (9 : Int) := (by omega); have q370 : 9 < (l0.length : Int) := of_decide_eq_true (by first | (with_reducible assumption) | assumption); obtain ⟨ad370, e370, hx370_0⟩ := Kd.at_int HR0.out 9 p370 q370; cases e370; (try simp only [show (9 : Int).toNat = 9 from rfl, Nat.reduceMul, Nat.reduceEqDiff, Go.Addr.add, ↓reduceIte] at hx370_0); have qi370 : (9 < l0.length) = True := eq_true (by omega); (try rw [show ((9 : Int)).toNat = 9 from rfl] at hx370_0); have hn370_0 : ad370.block ≠ gb368 := Nat.ne_of_lt (Nat.lt_of_lt_of_le (by have := World.block_lt_of_cell? _ _ hx370_0; first | rwa [add_block] at this | exact this) GW368.out); have hn370_1 : ad370.block ≠ gb368 := Nat.ne_of_lt (Nat.lt_of_lt_of_le (by have := World.block_lt_of_cell? _ _ hx370_0; first | rwa [add_block] at this | exact this) GW368.out); have hn370_2 : ad370.block ≠ gb368 := Nat.ne_of_lt (Nat.lt_of_lt_of_le (by have := World.block_lt_of_cell? _ _ hx370_0; first | rwa [add_block] at this | exact this) GW368.out); have hn370_3 : ad370.block ≠ gb368 := Nat.ne_of_lt (Nat.lt_of_lt_of_le (by have := World.block_lt_of_cell? _ _ hx370_0; first | rwa [add_block] at this | exact this) GW368.out); have hn370_4 : ad370.block ≠ gb368 := Nat.ne_of_lt (Nat.lt_of_lt_of_le (by have := World.block_lt_of_cell? _ _ hx370_0; first | rwa [add_block] at this | exact this) GW368.out); have hn370_5 : ad370.block ≠ gb368 := Nat.ne_of_lt (Nat.lt_of_lt_of_le (by have := World.block_lt_of_cell? _ _ hx370_0; first | rwa [add_block] at this | exact this) GW368.out); replace hx370_0 := (HB.out.cell (World.block_lt_of_cell? w _ hx370_0)).trans hx370_0; replace hx370_0 := (cell_far (p := ⟨gb368, 0, none⟩) (by first | (rw [add_block]; exact hn370_0) | (show (Addr.add _ _).block ≠ _; rw [add_block]; exact hn370_0) | exact hn370_0) (.int .i64 t361)).trans hx370_0; replace hx370_0 := (cell_far (p := ⟨gb368, 1, none⟩) (by first | (rw [add_block]; exact hn370_1) | (show (Addr.add _ _).block ≠ _; rw [add_block]; exact hn370_1) | exact hn370_1) (.int .i64 t362)).trans hx370_0; replace hx370_0 := (cell_far (p := ⟨gb368, 2, none⟩) (by first | (rw [add_block]; exact hn370_2) | (show (Addr.add _ _).block ≠ _; rw [add_block]; exact hn370_2) | exact hn370_2) (.int .i64 t363)).trans hx370_0; replace hx370_0 := (cell_far (p := ⟨gb368, 3, none⟩) (by first | (rw [add_block]; exact hn370_3) | (show (Addr.add _ _).block ≠ _; rw [add_block]; exact hn370_3) | exact hn370_3) (.int .i64 t364)).trans hx370_0; replace hx370_0 := (cell_far (p := ⟨gb368, 4, none⟩) (by first | (rw [add_block]; exact hn370_4) | (show (Addr.add _ _).block ≠ _; rw [add_block]; exact hn370_4) | exact hn370_4) (.int .i64 t365)).trans hx370_0; replace hx370_0 := (cell_far (p := ⟨gb368, 5, none⟩) (by first | (rw [add_block]; exact hn370_5) | (show (Addr.add _ _).block ≠ _; rw [add_block]; exact hn370_5) | exact hn370_5) (.int .i64 t366)).trans hx370_0; clear hn370_0; clear hn370_1; clear hn370_2; clear hn370_3; clear hn370_4; clear hn370_5; replace p370 := eq_true p370; replace q370 := eq_true q370))
          (repeat (rw [drewN_self w15]; generalize hq_ : World.drewN w15 _ = w15; have n0_ := Aside0.mk (blk_at hq_ BK368.out); have n1_ := Aside0.mk (below_at hq_ HB.out); clear hq_ BK368 HB; have BK368 := n0_; have HB := n1_; clear n0_ n1_))
          have n0_ : Aside0 (((((((w15.setCell ⟨gb368, 0, none⟩ (.int .i64 t361)).setCell ⟨gb368, 1, none⟩ (.int .i64 t362)).setCell ⟨gb368, 2, none⟩ (.int .i64 t363)).setCell ⟨gb368, 3, none⟩ (.int .i64 t364)).setCell ⟨gb368, 4, none⟩ (.int .i64 t365)).setCell ⟨gb368, 5, none⟩ (.int .i64 t366)).heap[gb368]? = some (.cells #[.int .i64 t361, .int .i64 t362, .int .i64 t363, .int .i64 t364, .int .i64 t365, .int .i64 t366] 30 (0, 0))) := ⟨by (with_reducible repeat (first | refine blk_drewN ?_ _ | refine blk_drew ?_ | refine blk_alloc ?_ _)); refine blk_put (cs := #[.int .i64 t361, .int .i64 t362, .int .i64 t363, .int .i64 t364, .int .i64 t365, .int .i64 0]) ?_ 5 _ rfl; (with_reducible repeat (first | refine blk_drewN ?_ _ | refine blk_drew ?_ | refine blk_alloc ?_ _)); refine blk_put (cs := #[.int .i64 t361, .int .i64 t362, .int .i64 t363, .int .i64 t364, .int .i64 0, .int .i64 0]) ?_ 4 _ rfl; (with_reducible repeat (first | refine blk_drewN ?_ _ | refine blk_drew ?_ | refine blk_alloc ?_ _)); refine blk_put (cs := #[.int .i64 t361, .int .i64 t362, .int .i64 t363, .int .i64 0, .int .i64 0, .int .i64 0]) ?_ 3 _ rfl; (with_reducible repeat (first | refine blk_drewN ?_ _ | refine blk_drew ?_ | refine blk_alloc ?_ _)); refine blk_put (cs := #[.int .i64 t361, .int .i64 t362, .int .i64 0, .int .i64 0, .int .i64 0, .int .i64 0]) ?_ 2 _ rfl; (with_reducible repeat (first | refine blk_drewN ?_ _ | refine blk_drew ?_ | refine blk_alloc ?_ _)); refine blk_put (cs := #[.int .i64 t361, .int .i64 0, .int .i64 0, .int .i64 0, .int .i64 0, .int .i64 0]) ?_ 1 _ rfl; (with_reducible repeat (first | refine blk_drewN ?_ _ | refine blk_drew ?_ | refine blk_alloc ?_ _)); refine blk_put (cs := #[.int .i64 0, .int .i64 0, .int .i64 0, .int .i64 0, .int .i64 0, .int .i64 0]) ?_ 0 _ rfl; (with_reducible repeat (first | refine blk_drewN ?_ _ | refine blk_drew ?_ | refine blk_alloc ?_ _)); exact BK368.out⟩
          have n1_ : Aside0 (Below w.heap.size w ((((((w15.setCell ⟨gb368, 0, none⟩ (.int .i64 t361)).setCell ⟨gb368, 1, none⟩ (.int .i64 t362)).setCell ⟨gb368, 2, none⟩ (.int .i64 t363)).setCell ⟨gb368, 3, none⟩ (.int .i64 t364)).setCell ⟨gb368, 4, none⟩ (.int .i64 t365)).setCell ⟨gb368, 5, none⟩ (.int .i64 t366))) := ⟨by repeat (first | (with_reducible first | exact HB.out | apply below_alloc | apply pw_below_drewN | apply below_drew1 | refine below_set ?_ GE368.out) | exact HB.out)⟩
          (try clear BK368)
          (try clear HB)
          generalize ((((((w15.setCell ⟨gb368, 0, none⟩ (.int .i64 t361)).setCell ⟨gb368, 1, none⟩ (.int .i64 t362)).setCell ⟨gb368, 2, none⟩ (.int .i64 t363)).setCell ⟨gb368, 3, none⟩ (.int .i64 t364)).setCell ⟨gb368, 4, none⟩ (.int .i64 t365)).setCell ⟨gb368, 5, none⟩ (.int .i64 t366)) = w17 at n0_ n1_ ⊢
          have BK368 := n0_
          have HB := n1_
          clear n0_ n1_
          (repeat (rw [drewN_self w17]; generalize hq_ : World.drewN w17 _ = w17; have n0_ : Aside0 (w17.heap[gb368]? = some (.cells #[.int .i64 t361, .int .i64 t362, .int .i64 t363, .int .i64 t364, .int .i64 t365, .int .i64 t366] 30 (0, 0))) := ⟨by rw [← hq_]; exact (by (with_reducible repeat (first | refine blk_drewN ?_ _ | refine blk_drew ?_ | refine blk_alloc ?_ _)); exact BK368.out)⟩; have n1_ : Aside0 (Below w.heap.size w w17) := ⟨by rw [← hq_]; exact (by repeat (first | (with_reducible first | exact HB.out | apply below_alloc | apply pw_below_drewN | apply below_drew1 | refine below_set ?_ GE368.out) | exact HB.out))⟩; clear BK368 HB hq_; have BK368 := n0_; have HB := n1_; clear n0_ n1_))
          have n0_ := Aside0.mk (blk_drew BK368.out)
          have n1_ := Aside0.mk (below_drew1 HB.out)
          clear BK368
          clear HB
          have BK368 := n0_
          have HB := n1_
          clear n0_ n1_
          refine start_ (n := 29) (S := fun w' => w'.cell? ⟨gb368, 0, none⟩ = some (.int .i64 t361) ∧ w'.cell? ⟨gb368, 1, none⟩ = some (.int .i64 t362) ∧ w'.cell? ⟨gb368, 2, none⟩ = some (.int .i64 t363) ∧ w'.cell? ⟨gb368, 3, none⟩ = some (.int .i64 t364) ∧ w'.cell? ⟨gb368, 4, none⟩ = some (.int .i64 t365) ∧ w'.cell? ⟨gb368, 5, none⟩ = some (.int .i64 t366)) (ds := []) #[false, false, false, false, false, false, false, false, false, false, false, false, false, false, false, false, false, false, false, false, false, false, false, false, false, false, false, false, false] (by kernel_rfl) rfl rfl ⟨(blk_cell BK368.out 0).trans rfl, (blk_cell BK368.out 1).trans rfl, (blk_cell BK368.out 2).trans rfl, (blk_cell BK368.out 3).trans rfl, (blk_cell BK368.out 4).trans rfl, (blk_cell BK368.out 5).trans rfl⟩ (fun hHeld => ?_); refine with_tabW windhoverref08_LandTicks.tab7 windhoverref08_LandTicks.bits7 (fun HT_ HW_ => ?_)
          generalize w17.drew = w18 at BK368 HB hHeld ⊢
          refine pure_ (i := 0) (N := some 22) (v := ?_) (a' := ?_) #[true, false, false, false, false, false, false, false, false, false, false, false, false, false, false, false, false, false, false, false, false, false, false, false, false, false, false, false, false] rfl rfl (any_of HT_.out (by kernel_rfl)) (fun _ _ _ h => h) (Or.inl ⟨by rfl, ?_⟩) ?_ ?_
          rotate_left
          · intro w'
            go_simp
            with_reducible rfl
          rotate_left
          · simp only [Act.put, List.setIfInBounds_toArray, List.set_cons_zero, List.set_cons_succ, i64_w, i32_w]
            rfl
          refine pure_ (i := 2) (N := some 24) (v := ?_) (a' := ?_) #[true, false, true, false, false, false, false, false, false, false, false, false, false, false, false, false, false, false, false, false, false, false, false, false, false, false, false, false, false] rfl rfl (any_of HT_.out (by kernel_rfl)) (fun _ _ _ h => h) (Or.inl ⟨by rfl, ?_⟩) ?_ ?_
          rotate_left
          · intro w'
            go_simp
            with_reducible rfl
          rotate_left
          · simp only [Act.put, List.setIfInBounds_toArray, List.set_cons_zero, List.set_cons_succ, i64_w, i32_w]
            rfl
          refine pure_ (i := 5) (N := some 27) (v := ?_) (a' := ?_) #[true, false, true, false, false, true, false, false, false, false, false, false, false, false, false, false, false, false, false, false, false, false, false, false, false, false, false, false, false] rfl rfl (any_of HT_.out (by kernel_rfl)) (fun _ _ _ h => h) (Or.inl ⟨by rfl, ?_⟩) ?_ ?_
          rotate_left
          · intro w'
            go_simp
            with_reducible rfl
          rotate_left
          · simp only [Act.put, List.setIfInBounds_toArray, List.set_cons_zero, List.set_cons_succ, i64_w, i32_w]
            rfl
          refine pure_ (i := 6) (N := some 28) (v := ?_) (a' := ?_) #[true, false, true, false, false, true, true, false, false, false, false, false, false, false, false, false, false, false, false, false, false, false, false, false, false, false, false, false, false] rfl rfl (any_of HT_.out (by kernel_rfl)) (fun _ _ _ h => h) (Or.inl ⟨by rfl, ?_⟩) ?_ ?_
          rotate_left
          · intro w'
            go_simp
            with_reducible rfl
          rotate_left
          · simp only [Act.put, List.setIfInBounds_toArray, List.set_cons_zero, List.set_cons_succ, i64_w, i32_w]
            rfl
          refine pure_ (i := 8) (N := some 30) (v := ?_) (a' := ?_) #[true, false, true, false, false, true, true, false, true, false, false, false, false, false, false, false, false, false, false, false, false, false, false, false, false, false, false, false, false] rfl rfl (any_of HT_.out (by kernel_rfl)) (fun _ _ _ h => h) (Or.inl ⟨by rfl, ?_⟩) ?_ ?_
          rotate_left
          · intro w'
            go_simp
            with_reducible rfl
          rotate_left
          · simp only [Act.put, List.setIfInBounds_toArray, List.set_cons_zero, List.set_cons_succ, i64_w, i32_w]
            rfl
          refine pure_ (i := 9) (N := some 31) (v := ?_) (a' := ?_) #[true, false, true, false, false, true, true, false, true, true, false, false, false, false, false, false, false, false, false, false, false, false, false, false, false, false, false, false, false] rfl rfl (any_of HT_.out (by kernel_rfl)) (fun _ _ _ h => h) (Or.inl ⟨by rfl, ?_⟩) ?_ ?_
          rotate_left
          · intro w'
            go_simp
            with_reducible rfl
          rotate_left
          · simp only [Act.put, List.setIfInBounds_toArray, List.set_cons_zero, List.set_cons_succ, i64_w, i32_w]
            rfl
          refine pure_ (i := 10) (N := some 32) (v := ?_) (a' := ?_) #[true, false, true, false, false, true, true, false, true, true, true, false, false, false, false, false, false, false, false, false, false, false, false, false, false, false, false, false, false] rfl rfl (any_of HT_.out (by kernel_rfl)) (fun _ _ _ h => h) (Or.inl ⟨by rfl, ?_⟩) ?_ ?_
          rotate_left
          · intro w'
            go_simp
            with_reducible rfl
          rotate_left
          · simp only [Act.put, List.setIfInBounds_toArray, List.set_cons_zero, List.set_cons_succ, i64_w, i32_w]
            rfl
          refine pure_ (i := 12) (N := some 34) (v := ?_) (a' := ?_) #[true, false, true, false, false, true, true, false, true, true, true, false, true, false, false, false, false, false, false, false, false, false, false, false, false, false, false, false, false] rfl rfl (any_of HT_.out (by kernel_rfl)) (fun _ _ _ h => h) (Or.inl ⟨by rfl, ?_⟩) ?_ ?_
          rotate_left
          · intro w'
            go_simp
            with_reducible rfl
          rotate_left
          · simp only [Act.put, List.setIfInBounds_toArray, List.set_cons_zero, List.set_cons_succ, i64_w, i32_w]
            rfl
          refine pure_ (i := 16) (N := some 38) (v := ?_) (a' := ?_) #[true, false, true, false, false, true, true, false, true, true, true, false, true, false, false, false, true, false, false, false, false, false, false, false, false, false, false, false, false] rfl rfl (any_of HT_.out (by kernel_rfl)) (fun _ _ _ h => h) (Or.inl ⟨by rfl, ?_⟩) ?_ ?_
          rotate_left
          · intro w'
            go_simp
            with_reducible rfl
          rotate_left
          · simp only [Act.put, List.setIfInBounds_toArray, List.set_cons_zero, List.set_cons_succ, i64_w, i32_w]
            rfl
          refine pure_ (i := 20) (N := some 42) (v := ?_) (a' := ?_) #[true, false, true, false, false, true, true, false, true, true, true, false, true, false, false, false, true, false, false, false, true, false, false, false, false, false, false, false, false] rfl rfl (any_of HT_.out (by kernel_rfl)) (fun _ _ _ h => h) (Or.inl ⟨by rfl, ?_⟩) ?_ ?_
          rotate_left
          · intro w'
            go_simp
            with_reducible rfl
          rotate_left
          · simp only [Act.put, List.setIfInBounds_toArray, List.set_cons_zero, List.set_cons_succ, i64_w, i32_w]
            rfl
          refine pure_ (i := 21) (N := some 43) (v := ?_) (a' := ?_) #[true, false, true, false, false, true, true, false, true, true, true, false, true, false, false, false, true, false, false, false, true, true, false, false, false, false, false, false, false] rfl rfl (any_of HT_.out (by kernel_rfl)) (fun _ _ _ h => h) (Or.inl ⟨by rfl, ?_⟩) ?_ ?_
          rotate_left
          · intro w'
            go_simp
            with_reducible rfl
          rotate_left
          · simp only [Act.put, List.setIfInBounds_toArray, List.set_cons_zero, List.set_cons_succ, i64_w, i32_w]
            rfl
          refine take_ (i := 1) (N := some 23) (v := ?_) (a' := ?_) #[true, true, true, false, false, true, true, false, true, true, true, false, true, false, false, false, true, false, false, false, true, true, false, false, false, false, false, false, false] rfl rfl (take_ofW HT_.out HW_.out (by kernel_rfl)) (fun _ _ _ h => h) (Or.inl ⟨by rfl, ?_⟩) hHeld ?_ ?_
          rotate_left
          · rintro w' ⟨s0, s1, s2, s3, s4, s5⟩
            go_simp
            with_reducible rfl
          rotate_left
          · simp only [Act.put, List.setIfInBounds_toArray, List.set_cons_zero, List.set_cons_succ, i64_w, i32_w]
            rfl
          refine take_ (i := 3) (N := some 25) (v := ?_) (a' := ?_) #[true, true, true, true, false, true, true, false, true, true, true, false, true, false, false, false, true, false, false, false, true, true, false, false, false, false, false, false, false] rfl rfl (take_ofW HT_.out HW_.out (by kernel_rfl)) (fun _ _ _ h => h) (Or.inl ⟨by rfl, ?_⟩) hHeld ?_ ?_
          rotate_left
          · rintro w' ⟨s0, s1, s2, s3, s4, s5⟩
            go_simp
            with_reducible rfl
          rotate_left
          · simp only [Act.put, List.setIfInBounds_toArray, List.set_cons_zero, List.set_cons_succ, i64_w, i32_w]
            rfl
          refine pure_ (i := 4) (N := some 26) (v := ?_) (a' := ?_) #[true, true, true, true, true, true, true, false, true, true, true, false, true, false, false, false, true, false, false, false, true, true, false, false, false, false, false, false, false] rfl rfl (any_of HT_.out (by kernel_rfl)) (fun _ _ _ h => h) (Or.inl ⟨by rfl, ?_⟩) ?_ ?_
          rotate_left
          · intro w'
            go_simp
            with_reducible rfl
          rotate_left
          · simp only [Act.put, List.setIfInBounds_toArray, List.set_cons_zero, List.set_cons_succ, i64_w, i32_w]
            rfl
          refine pure_ (i := 7) (N := some 29) (v := ?_) (a' := ?_) #[true, true, true, true, true, true, true, true, true, true, true, false, true, false, false, false, true, false, false, false, true, true, false, false, false, false, false, false, false] rfl rfl (any_of HT_.out (by kernel_rfl)) (fun _ _ _ h => h) (Or.inl ⟨by rfl, ?_⟩) ?_ ?_
          rotate_left
          · intro w'
            go_simp
            with_reducible rfl
          rotate_left
          · simp only [Act.put, List.setIfInBounds_toArray, List.set_cons_zero, List.set_cons_succ, i64_w, i32_w]
            rfl
          refine take_ (i := 11) (N := some 33) (v := ?_) (a' := ?_) #[true, true, true, true, true, true, true, true, true, true, true, true, true, false, false, false, true, false, false, false, true, true, false, false, false, false, false, false, false] rfl rfl (take_ofW HT_.out HW_.out (by kernel_rfl)) (fun _ _ _ h => h) (Or.inl ⟨by rfl, ?_⟩) hHeld ?_ ?_
          rotate_left
          · rintro w' ⟨s0, s1, s2, s3, s4, s5⟩
            go_simp
            with_reducible rfl
          rotate_left
          · simp only [Act.put, List.setIfInBounds_toArray, List.set_cons_zero, List.set_cons_succ, i64_w, i32_w]
            rfl
          refine take_ (i := 13) (N := some 35) (v := ?_) (a' := ?_) #[true, true, true, true, true, true, true, true, true, true, true, true, true, true, false, false, true, false, false, false, true, true, false, false, false, false, false, false, false] rfl rfl (take_ofW HT_.out HW_.out (by kernel_rfl)) (fun _ _ _ h => h) (Or.inl ⟨by rfl, ?_⟩) hHeld ?_ ?_
          rotate_left
          · rintro w' ⟨s0, s1, s2, s3, s4, s5⟩
            go_simp
            with_reducible rfl
          rotate_left
          · simp only [Act.put, List.setIfInBounds_toArray, List.set_cons_zero, List.set_cons_succ, i64_w, i32_w]
            rfl
          refine take_ (i := 17) (N := some 39) (v := ?_) (a' := ?_) #[true, true, true, true, true, true, true, true, true, true, true, true, true, true, false, false, true, true, false, false, true, true, false, false, false, false, false, false, false] rfl rfl (take_ofW HT_.out HW_.out (by kernel_rfl)) (fun _ _ _ h => h) (Or.inl ⟨by rfl, ?_⟩) hHeld ?_ ?_
          rotate_left
          · rintro w' ⟨s0, s1, s2, s3, s4, s5⟩
            go_simp
            with_reducible rfl
          rotate_left
          · simp only [Act.put, List.setIfInBounds_toArray, List.set_cons_zero, List.set_cons_succ, i64_w, i32_w]
            rfl
          refine pure_ (i := 18) (N := some 40) (v := ?_) (a' := ?_) #[true, true, true, true, true, true, true, true, true, true, true, true, true, true, false, false, true, true, true, false, true, true, false, false, false, false, false, false, false] rfl rfl (any_of HT_.out (by kernel_rfl)) (fun _ _ _ h => h) (Or.inl ⟨by rfl, ?_⟩) ?_ ?_
          rotate_left
          · intro w'
            go_simp
            with_reducible rfl
          rotate_left
          · simp only [Act.put, List.setIfInBounds_toArray, List.set_cons_zero, List.set_cons_succ, i64_w, i32_w]
            rfl
          refine take_ (i := 22) (N := some 44) (v := ?_) (a' := ?_) #[true, true, true, true, true, true, true, true, true, true, true, true, true, true, false, false, true, true, true, false, true, true, true, false, false, false, false, false, false] rfl rfl (take_ofW HT_.out HW_.out (by kernel_rfl)) (fun _ _ _ h => h) (Or.inl ⟨by rfl, ?_⟩) hHeld ?_ ?_
          rotate_left
          · rintro w' ⟨s0, s1, s2, s3, s4, s5⟩
            go_simp
            with_reducible rfl
          rotate_left
          · simp only [Act.put, List.setIfInBounds_toArray, List.set_cons_zero, List.set_cons_succ, i64_w, i32_w]
            rfl
          refine pure_ (i := 23) (N := some 45) (v := ?_) (a' := ?_) #[true, true, true, true, true, true, true, true, true, true, true, true, true, true, false, false, true, true, true, false, true, true, true, true, false, false, false, false, false] rfl rfl (any_of HT_.out (by kernel_rfl)) (fun _ _ _ h => h) (Or.inl ⟨by rfl, ?_⟩) ?_ ?_
          rotate_left
          · intro w'
            go_simp
            with_reducible rfl
          rotate_left
          · simp only [Act.put, List.setIfInBounds_toArray, List.set_cons_zero, List.set_cons_succ, i64_w, i32_w]
            rfl
          refine one_ (i := 14) (N := some 36) #[true, true, true, true, true, true, true, true, true, true, true, true, true, true, true, false, true, true, true, false, true, true, true, true, false, false, false, false, false] rfl rfl (one_of HT_.out (by kernel_rfl)) (by decide) (fun K hK => ?_)
          refine goes_ Try.func42 (by kernel_rfl) rfl #[.int .i64 t364, .int .i64 t361] (by rfl) rfl rfl (by (try simp only [List.map_toArray, List.map_cons, List.map_nil]); first | done | rfl | (simp only [List.length_drop, List.length_take]; rfl)) ?_
          with_reducible refine (windhoverref08_Way.calls k t364 t361 t371 _ A12.out).mono ?_
          rintro e w' ⟨rfl, ⟨nd, rfl⟩⟩
          refine ⟨_, rfl, ?_⟩
          refine hK.out _ _ ⟨(blk_cell BK368.out 0).trans rfl, (blk_cell BK368.out 1).trans rfl, (blk_cell BK368.out 2).trans rfl, (blk_cell BK368.out 3).trans rfl, (blk_cell BK368.out 4).trans rfl, (blk_cell BK368.out 5).trans rfl⟩ (fun hHeld => ?_)
          clear hK K
          refine norm_ (a' := ?_) ?_ ?_
          rotate_left
          · show Act.put _ (some 36) _ = _
            simp only [Act.put, List.setIfInBounds_toArray, List.set_cons_zero, List.set_cons_succ, i64_w, i32_w]
            rfl
          refine pure_ (i := 15) (N := some 37) (v := ?_) (a' := ?_) #[true, true, true, true, true, true, true, true, true, true, true, true, true, true, true, true, true, true, true, false, true, true, true, true, false, false, false, false, false] rfl rfl (any_of HT_.out (by kernel_rfl)) (fun _ _ _ h => h) (Or.inl ⟨by rfl, ?_⟩) ?_ ?_
          rotate_left
          · intro w'
            go_simp
            with_reducible rfl
          rotate_left
          · simp only [Act.put, List.setIfInBounds_toArray, List.set_cons_zero, List.set_cons_succ, i64_w, i32_w]
            rfl
          refine pure_ (i := 19) (N := some 41) (v := ?_) (a' := ?_) #[true, true, true, true, true, true, true, true, true, true, true, true, true, true, true, true, true, true, true, true, true, true, true, true, false, false, false, false, false] rfl rfl (any_of HT_.out (by kernel_rfl)) (fun _ _ _ h => h) (Or.inl ⟨by rfl, ?_⟩) ?_ ?_
          rotate_left
          · intro w'
            go_simp
            with_reducible rfl
          rotate_left
          · simp only [Act.put, List.setIfInBounds_toArray, List.set_cons_zero, List.set_cons_succ, i64_w, i32_w]
            rfl
          refine one_ (i := 24) (N := some 46) #[true, true, true, true, true, true, true, true, true, true, true, true, true, true, true, true, true, true, true, true, true, true, true, true, true, false, false, false, false] rfl rfl (one_of HT_.out (by kernel_rfl)) (by decide) (fun K hK => ?_)
          refine goes_ Try.func41 (by kernel_rfl) rfl #[.int .i64 (wrap64 ((wrap64 ((wrap64 (a1 * 6400)) + t371)) + (wrap64 (16 * t364)))), .int .i64 (wrap64 ((rd l0 9) - t362))] (by rfl) rfl rfl (by (try simp only [List.map_toArray, List.map_cons, List.map_nil]); first | done | rfl | (simp only [List.length_drop, List.length_take]; rfl)) ?_
          with_reducible refine (windhoverref08_up.calls (wrap64 ((wrap64 ((wrap64 (a1 * 6400)) + t371)) + (wrap64 (16 * t364)))) (wrap64 ((rd l0 9) - t362)) t372 _ A13.out).mono ?_
          rintro e w' ⟨rfl, ⟨nd, rfl⟩⟩
          refine ⟨_, rfl, ?_⟩
          refine hK.out _ _ ⟨(blk_cell BK368.out 0).trans rfl, (blk_cell BK368.out 1).trans rfl, (blk_cell BK368.out 2).trans rfl, (blk_cell BK368.out 3).trans rfl, (blk_cell BK368.out 4).trans rfl, (blk_cell BK368.out 5).trans rfl⟩ (fun hHeld => ?_)
          clear hK K
          refine norm_ (a' := ?_) ?_ ?_
          rotate_left
          · show Act.put _ (some 46) _ = _
            simp only [Act.put, List.setIfInBounds_toArray, List.set_cons_zero, List.set_cons_succ, i64_w, i32_w]
            rfl
          refine pure_ (i := 25) (N := some 47) (v := ?_) (a' := ?_) #[true, true, true, true, true, true, true, true, true, true, true, true, true, true, true, true, true, true, true, true, true, true, true, true, true, true, false, false, false] rfl rfl (any_of HT_.out (by kernel_rfl)) (fun _ _ _ h => h) (Or.inl ⟨by rfl, ?_⟩) ?_ ?_
          rotate_left
          · intro w'
            go_simp
            with_reducible rfl
          rotate_left
          · simp only [Act.put, List.setIfInBounds_toArray, List.set_cons_zero, List.set_cons_succ, i64_w, i32_w]
            rfl
          refine pure_ (i := 26) (N := some 48) (v := ?_) (a' := ?_) #[true, true, true, true, true, true, true, true, true, true, true, true, true, true, true, true, true, true, true, true, true, true, true, true, true, true, true, false, false] rfl rfl (any_of HT_.out (by kernel_rfl)) (fun _ _ _ h => h) (Or.inl ⟨by rfl, ?_⟩) ?_ ?_
          rotate_left
          · intro w'
            go_simp
            with_reducible rfl
          rotate_left
          · simp only [Act.put, List.setIfInBounds_toArray, List.set_cons_zero, List.set_cons_succ, i64_w, i32_w]
            rfl
          refine pure_ (i := 27) (N := some 4) (v := ?_) (a' := ?_) #[true, true, true, true, true, true, true, true, true, true, true, true, true, true, true, true, true, true, true, true, true, true, true, true, true, true, true, true, false] rfl rfl (any_of HT_.out (by kernel_rfl)) (fun _ _ _ h => h) (Or.inl ⟨by rfl, ?_⟩) ?_ ?_
          rotate_left
          · intro w'
            go_simp
            with_reducible rfl
          rotate_left
          · simp only [Act.put, List.setIfInBounds_toArray, List.set_cons_zero, List.set_cons_succ, i64_w, i32_w]
            rfl
          refine pure_ (i := 28) (N := some 5) (v := ?_) (a' := ?_) #[true, true, true, true, true, true, true, true, true, true, true, true, true, true, true, true, true, true, true, true, true, true, true, true, true, true, true, true, true] rfl rfl (any_of HT_.out (by kernel_rfl)) (fun _ _ _ h => h) (Or.inl ⟨by rfl, ?_⟩) ?_ ?_
          rotate_left
          · intro w'
            go_simp
            with_reducible rfl
          rotate_left
          · simp only [Act.put, List.setIfInBounds_toArray, List.set_cons_zero, List.set_cons_succ, i64_w, i32_w]
            rfl
          refine done_ (done_of HT_.out (by kernel_rfl)) ?_
          try go_wp2
          go_ret2
          exact ⟨by first | rfl | (simp [errW_none, errW_some] <;> rfl) | (simp [*, errW_none, errW_some] <;> rfl), by repeat (first | (with_reducible first | exact HB.out | apply below_alloc | apply pw_below_drewN | apply below_drew1 | refine below_set ?_ GE368.out) | exact HB.out)⟩
      · rw [if_neg c10] at H
        exact absurd H (by simp)
  · rw [if_neg c4] at H
    have c4b0 : (t367 == 0) = false := beq_eq_false_iff_ne.mpr c4
    have c4b1 : (t367 != 0) = true := bne_iff_ne.mpr c4
    simp only [Option.some.injEq, Prod.mk.injEq] at H
    obtain ⟨rfl, rfl⟩ := H
    go_enter Try.func27, Try.ntmps27
    go_wp2_with (first | ((with_reducible refine gate_callee (f := 17) rfl ?_); refine goesL_ (some 11) rfl rfl Try.func17 (by kernel_rfl) rfl #[.slice A0 l0.length c0] rfl (by (try simp only [List.map_toArray, List.map_cons, List.map_nil]); first | done | rfl | (simp only [List.length_drop, List.length_take]; rfl)) ?_; (with_reducible refine (windhoverref08_Margins.calls k _ _ l0 t361 t362 t363 t364 t365 t366 t367 _ ?side1 ?side2 A3.out).mono ?_); (case side1 => repeat (first | exact HR0.out | (with_reducible refine Kd.C_alloc ?_ _) | (with_reducible refine Kd.C_drewN ?_ _) | (with_reducible refine Kd.C_drew ?_))); (case side2 => exact HC0.out); rintro e w19 ⟨rfl, hb⟩; refine ⟨_, rfl, ?_⟩; have n0_ := Aside0.mk (below_step (by repeat (first | (with_reducible first | exact HB.out | apply below_alloc | apply pw_below_drewN | apply below_drew1) | exact HB.out)) hb); clear HB; have HB := n0_; clear n0_; (try clear hb); (try clear hb2); (try clear hk); (try clear hi)) | ((with_reducible refine gate_dst (N := 6) rfl ?_); refine box_event ?hg (N := 6) ?hd (cs := #[.int .i64 0, .int .i64 0, .int .i64 0, .int .i64 0, .int .i64 0, .int .i64 0]) (t := 30) ?hr ?_; (case hd => rfl); (case hg => rfl); (case hr => first | (go_simp; done) | (go_simp; rfl)); intro gb368 hg w20 hbox hb; have n0_ := Aside0.mk (below_step (by repeat (first | (with_reducible first | exact HB.out | apply below_alloc | apply pw_below_drewN | apply below_drew1) | exact HB.out)) hb); have n1_ := Aside0.mk (hbox); have n2_ := Aside0.mk ((by rw [hg]; exact (below_size (by repeat (first | (with_reducible first | exact HB.out | apply below_alloc | apply pw_below_drewN | apply below_drew1) | exact HB.out))) : w.heap.size ≤ gb368)); have n3_ := Aside0.mk ((by rw [hg]; exact (below_size (by repeat (first | (with_reducible first | exact HB.out | apply below_alloc | apply pw_below_drewN | apply below_drew1) | exact HB.out))) : w.heap.size ≤ gb368)); clear HB; have HB := n0_; have BK368 := n1_; have GW368 := n2_; have GE368 := n3_; clear n0_ n1_ n2_ n3_; clear hb hbox hg; have hcz21_0 := blk_cells6 (w := w20) (g := gb368) BK368.out; have hfz21_0 := blk_frozen BK368.out))
    go_ret2
    exact ⟨by first | rfl | (simp [errW_none, errW_some] <;> rfl) | (simp [*, errW_none, errW_some] <;> rfl), by repeat (first | (with_reducible first | exact HB.out | apply below_alloc | apply pw_below_drewN | apply below_drew1 | refine below_set ?_ GE368.out) | exact HB.out)⟩

/-! ### params_ReturnTicks: function 28, by hand -/
def params_ReturnTicks.al (l0 : List Int) (mm : Int) (sp : Int) : Option Int := if rd l0 6 = 0 then none else (params_up.f (wrap64 (19200 * mm)) sp).bind fun t => some (wrap64 ((wrap64 ((wrap64 (8 * (wrap64 (Int.tdiv sp (rd l0 6))))) + t)) + 800))
def params_ReturnTicks.f (k : Nat) (l0 : List Int) (a1 : Int) (a2 : Int) : Option (Int × Int) := (params_Check.f k l0).bind fun t13 => if t13 = 0 then ((params_outside.f a1).bind fun t18 => (params_outside.f a2).bind fun t21 => if t18 = true then some (0, 1) else if t21 = true then some (0, 1) else if (l0.length : Int) = 24 then (if rd l0 6 = 0 then none else (params_ReturnTicks.al l0 (wrap64 ((mx a1 (rd l0 10)) + 1000)) (rd l0 8)).bind fun p => (params_ReturnTicks.al l0 a2 (rd l0 7)).bind fun q => (params_up.f (wrap64 (12800 * (wrap64 ((mx a1 (rd l0 10)) + 1000)))) (rd l0 9)).bind fun s => some (wrap64 ((wrap64 ((wrap64 ((wrap64 ((wrap64 (p + q)) + (wrap64 (8 * (wrap64 (Int.tdiv (wrap64 ((rd l0 8) + (rd l0 9))) (rd l0 6))))))) + s)) + 40)) + 64), 0)) else none) else some (0, t13)
theorem params_ReturnTicks.mono : ∀ a0 a1 a2 k, LeO (params_ReturnTicks.f k a0 a1 a2) (params_ReturnTicks.f (k + 1) a0 a1 a2) := by
  intro a0 a1 a2 k
  unfold params_ReturnTicks.f
  exact LeO.bind (params_Check.mono _ _) (fun _ => LeO.refl _)
set_option maxHeartbeats 8000000 in
set_option maxRecDepth 100000 in
theorem params_ReturnTicks.along_q (l0 : List Int) (ad : Addr) (c0 : Nat) (g : Nat) (mm sp r : Int) (w : World) (hb : w.cell? ⟨g, 0, none⟩ = some (.slice (some ad) l0.length c0)) (h6 : w.cell? ⟨ad.block, ad.off + 6, none⟩ = some (.int .i64 (rd l0 6))) (hl : (l0.length : Int) = 24) (h : params_ReturnTicks.al l0 mm sp = some r) :
    Calls Try.prog 47 #[.int .i64 mm, .int .i64 sp, .pointer (some ⟨g, 0, none⟩)] w fun e w' => e = .returned (.int .i64 r) ∧ ∃ n, w' = w.drewN n := by
  unfold params_ReturnTicks.al at h
  simp only [← i64_w] at h
  by_cases z : rd l0 6 = 0
  · rw [if_pos z] at h; cases h
  rw [if_neg z] at h
  replace h := Option.bind_eq_some_iff.mp h
  obtain ⟨t, e1, h⟩ := h
  obtain rfl := Option.some.inj h
  have E1 := Aside0.mk e1
  clear e1 h
  have zb : (rd l0 6 == 0) = false := beq_eq_false_iff_ne.mpr z
  have hlen : l0.length = 24 := by omega
  rw [hlen] at hb
  go_enter Try.func47, Try.ntmps47
  go_wp2
  go_region_held3 (fun w' => w'.cell? ⟨g, 0, none⟩ = some (.slice (some ad) 24 c0) ∧ w'.cell? ⟨ad.block, ad.off + 6, none⟩ = some (.int .i64 (rd l0 6))) (go_keep)
    (first | (go_at_call 39; (with_reducible refine (params_up.calls (IntKind.i64.wrap (19200 * mm)) sp t _ E1.out).mono ?_); rintro e w' ⟨rfl, ⟨nd, rfl⟩⟩))
  all_goals go_wp2
  all_goals go_ret
  all_goals exact ⟨rfl, nd + 1, by simp [World.drew, World.drewN]; omega⟩
theorem params_ReturnTicks.at24 {w : World} {ad : Addr} {l : List Int} (h : Kd.C (Kd.int .i64) w (some ad) l.length l) (hl : (l.length : Int) = 24) (i : Nat) (hi : i < 24) (h0 : i ≠ 0) : w.cell? ⟨ad.block, ad.off + i, none⟩ = some (.int .i64 (rd l (i : Int))) := by
  obtain ⟨ad', e, hx⟩ := Kd.at_int h (i : Int) (by omega) (by omega)
  obtain rfl : ad = ad' := by injection e
  rw [Int.toNat_natCast] at hx
  unfold Addr.add at hx
  rw [if_neg h0] at hx
  exact hx
set_option maxHeartbeats 8000000 in
set_option maxRecDepth 100000 in
theorem params_ReturnTicks.calls (k : Nat) (A0 : Option Addr) (c0 : Nat) (l0 : List Int) (a1 : Int) (a2 : Int) (r1 : Int) (r2 : Int) (w : World) (hr0 : Kd.C (Kd.int .i64) w A0 l0.length l0) (hc0 : l0.length ≤ c0) (h : params_ReturnTicks.f k l0 a1 a2 = some (r1, r2)) :
    Calls Try.prog 28 #[.slice A0 l0.length c0, .int .i64 a1, .int .i64 a2] w fun e w' => e = .returned (.tuple #[.int .i64 r1, .int .i64 r2]) ∧ Below w.heap.size w w' := by
  have HR0 := Aside0.mk hr0
  have HC0 := Aside0.mk hc0
  clear hc0
  unfold params_ReturnTicks.f at h
  replace h := Option.bind_eq_some_iff.mp h
  obtain ⟨t13, e13, h⟩ := h
  have E13 := Aside0.mk e13
  clear e13
  by_cases c : t13 = 0
  · rw [if_pos c] at h
    have cb : (t13 != 0) = false := bne_eq_false_iff_eq.mpr c
    clear c
    replace h := Option.bind_eq_some_iff.mp h
    obtain ⟨t18, e18, h⟩ := h
    replace h := Option.bind_eq_some_iff.mp h
    obtain ⟨t21, e21, h⟩ := h
    cases t18 with
    | true =>
      rw [if_pos rfl] at h
      simp only [Option.some.injEq, Prod.mk.injEq] at h
      obtain ⟨rfl, rfl⟩ := h
      have E18 := Aside0.mk e18
      clear e18 e21 hr0
      go_enter Try.func28, Try.ntmps28
      go_wp2_with (first | ((with_reducible refine gate_dst (N := 3) rfl ?_); refine box_event ?hg (N := 3) ?hd (cs := #[.slice A0 l0.length c0]) (t := 22) ?hr ?_; (case hd => rfl); (case hg => rfl); (case hr => first | (go_simp; done) | (go_simp; rfl)); intro gb hg w2 hbox hb; have HB2 := Aside0.mk hb; have BK2 := Aside0.mk hbox; have GE2 := Aside0.mk (show w.heap.size ≤ gb by omega); have HR2 := Aside0.mk (Kd.C_below HR0.out hb); clear hb hbox hg; have hcz := (blk_cell BK2.out 0).trans rfl; have hfz := blk_frozen BK2.out 0) | (go_at_call 12; (with_reducible refine (params_Check.calls k A0 c0 l0 t13 _ HR2.out HC0.out E13.out).mono ?_); rintro e w3 ⟨rfl, hb⟩; have HB3 := Aside0.mk (below_step HB2.out hb); have BK3 := Aside0.mk (blk_below BK2.out hb); have HR3 := Aside0.mk (Kd.C_below HR2.out hb); (try clear hb); (try clear hcz); (try clear hfz); have hcz := (blk_cell BK3.out 0).trans rfl) | (go_at_call 45; (with_reducible refine (params_outside.calls a1 _ _ E18.out).mono ?_); rintro e w' ⟨rfl, ⟨nd, rfl⟩⟩))
      go_ret2
      exact ⟨rfl, by repeat (first | exact HB3.out | apply pw_below_drewN | apply below_drew1)⟩
    | false =>
      rw [if_neg (by decide)] at h
      have E18 := Aside0.mk e18
      clear e18
      cases t21 with
      | true =>
        rw [if_pos rfl] at h
        simp only [Option.some.injEq, Prod.mk.injEq] at h
        obtain ⟨rfl, rfl⟩ := h
        have E21 := Aside0.mk e21
        clear e21 hr0
        go_enter Try.func28, Try.ntmps28
        go_wp2_with (first | ((with_reducible refine gate_dst (N := 3) rfl ?_); refine box_event ?hg (N := 3) ?hd (cs := #[.slice A0 l0.length c0]) (t := 22) ?hr ?_; (case hd => rfl); (case hg => rfl); (case hr => first | (go_simp; done) | (go_simp; rfl)); intro gb hg w2 hbox hb; have HB2 := Aside0.mk hb; have BK2 := Aside0.mk hbox; have GE2 := Aside0.mk (show w.heap.size ≤ gb by omega); have HR2 := Aside0.mk (Kd.C_below HR0.out hb); clear hb hbox hg; have hcz := (blk_cell BK2.out 0).trans rfl; have hfz := blk_frozen BK2.out 0) | (go_at_call 12; (with_reducible refine (params_Check.calls k A0 c0 l0 t13 _ HR2.out HC0.out E13.out).mono ?_); rintro e w3 ⟨rfl, hb⟩; have HB3 := Aside0.mk (below_step HB2.out hb); have BK3 := Aside0.mk (blk_below BK2.out hb); have HR3 := Aside0.mk (Kd.C_below HR2.out hb); (try clear hb); (try clear hcz); (try clear hfz); have hcz := (blk_cell BK3.out 0).trans rfl) | (go_at_call 45; (with_reducible refine (params_outside.calls a1 _ _ E18.out).mono ?_); rintro e w' ⟨rfl, ⟨nd, rfl⟩⟩) | (go_at_call 45; (with_reducible refine (params_outside.calls a2 _ _ E21.out).mono ?_); rintro e w' ⟨rfl, ⟨nd, rfl⟩⟩))
        go_ret2
        exact ⟨rfl, by repeat (first | exact HB3.out | apply pw_below_drewN | apply below_drew1)⟩
      | false =>
        rw [if_neg (by decide)] at h
        have E21 := Aside0.mk e21
        clear e21
        by_cases hl : (l0.length : Int) = 24
        · rw [if_pos hl] at h
          obtain ⟨M, hM⟩ : ∃ M, mx a1 (rd l0 10) = M := ⟨_, rfl⟩
          rw [hM] at h
          have hM_ : (if a1 < rd l0 10 then rd l0 10 else a1) = M := hM
          clear hM
          obtain ⟨G, hG⟩ : ∃ G, wrap64 (M + 1000) = G := ⟨_, rfl⟩
          rw [hG] at h
          have hG2 : IntKind.i64.wrap (M + 1000) = G := (i64_w _).trans hG
          simp only [← i64_w] at h
          by_cases z : rd l0 6 = 0
          · rw [if_pos z] at h; cases h
          rw [if_neg z] at h
          have zb : (rd l0 6 == 0) = false := beq_eq_false_iff_ne.mpr z
          replace h := Option.bind_eq_some_iff.mp h
          obtain ⟨p, ep, h⟩ := h
          replace h := Option.bind_eq_some_iff.mp h
          obtain ⟨q, eq_, h⟩ := h
          replace h := Option.bind_eq_some_iff.mp h
          obtain ⟨s, es, h⟩ := h
          simp only [Option.some.injEq, Prod.mk.injEq] at h
          obtain ⟨rfl, rfl⟩ := h
          have EP := Aside0.mk ep
          have EQ := Aside0.mk eq_
          have ES := Aside0.mk es
          clear ep eq_ es
          obtain ⟨ad, ea, _⟩ := Kd.at_int hr0 0 (by decide) (by omega)
          clear hr0
          subst ea
          have b6 : (6 < l0.length) = True := eq_true (by omega)
          have g6 : ((6 : Int) < (l0.length : Int)) = True := eq_true (by omega)
          have d6 : decide (6 < l0.length) = true := decide_eq_true (by omega)
          have f6 : decide ((6 : Int) < (l0.length : Int)) = true := decide_eq_true (by omega)
          have b7 : (7 < l0.length) = True := eq_true (by omega)
          have g7 : ((7 : Int) < (l0.length : Int)) = True := eq_true (by omega)
          have d7 : decide (7 < l0.length) = true := decide_eq_true (by omega)
          have f7 : decide ((7 : Int) < (l0.length : Int)) = true := decide_eq_true (by omega)
          have b8 : (8 < l0.length) = True := eq_true (by omega)
          have g8 : ((8 : Int) < (l0.length : Int)) = True := eq_true (by omega)
          have d8 : decide (8 < l0.length) = true := decide_eq_true (by omega)
          have f8 : decide ((8 : Int) < (l0.length : Int)) = true := decide_eq_true (by omega)
          have b9 : (9 < l0.length) = True := eq_true (by omega)
          have g9 : ((9 : Int) < (l0.length : Int)) = True := eq_true (by omega)
          have d9 : decide (9 < l0.length) = true := decide_eq_true (by omega)
          have f9 : decide ((9 : Int) < (l0.length : Int)) = true := decide_eq_true (by omega)
          have b10 : (10 < l0.length) = True := eq_true (by omega)
          have g10 : ((10 : Int) < (l0.length : Int)) = True := eq_true (by omega)
          have d10 : decide (10 < l0.length) = true := decide_eq_true (by omega)
          have f10 : decide ((10 : Int) < (l0.length : Int)) = true := decide_eq_true (by omega)
          have hmf : ∀ (fn : Fn) (first cap : Array Value) (w : World), (Instr.makeFunc fn first cap).run Try.prog w = .ok (.func fn first cap) w := fun _ _ _ _ => rfl
          have HL := Aside0.mk hl
          clear hl
          go_enter Try.func28, Try.ntmps28
          go_wp2_with (first | ((with_reducible refine gate_dst (N := 3) rfl ?_); refine box_event ?hg (N := 3) ?hd (cs := #[.slice (some ad) l0.length c0]) (t := 22) ?hr ?_; (case hd => rfl); (case hg => rfl); (case hr => first | (go_simp; done) | (go_simp; rfl)); intro gb hg w2 hbox hb; have HB2 := Aside0.mk hb; have BK2 := Aside0.mk hbox; have GE2 := Aside0.mk (show w.heap.size ≤ gb by omega); have HR2 := Aside0.mk (Kd.C_below HR0.out hb); clear hb hbox hg; have hcz := (blk_cell BK2.out 0).trans rfl; have hfz := blk_frozen BK2.out 0) | (go_at_call 12; (with_reducible refine (params_Check.calls k (some ad) c0 l0 t13 _ HR2.out HC0.out E13.out).mono ?_); rintro e w3 ⟨rfl, hb⟩; have HB3 := Aside0.mk (below_step HB2.out hb); have BK3 := Aside0.mk (blk_below BK2.out hb); have HR3 := Aside0.mk (Kd.C_below HR2.out hb); (try clear hb); (try clear hcz); (try clear hfz); have hcz := (blk_cell BK3.out 0).trans rfl; have h6 := params_ReturnTicks.at24 HR3.out HL.out 6 (by decide) (by decide); have h7 := params_ReturnTicks.at24 HR3.out HL.out 7 (by decide) (by decide); have h8 := params_ReturnTicks.at24 HR3.out HL.out 8 (by decide) (by decide); have h9 := params_ReturnTicks.at24 HR3.out HL.out 9 (by decide) (by decide); have h10 := params_ReturnTicks.at24 HR3.out HL.out 10 (by decide) (by decide)) | (go_at_call 45; (with_reducible refine (params_outside.calls a1 _ _ E18.out).mono ?_); rintro e w' ⟨rfl, ⟨nd, rfl⟩⟩) | (go_at_call 45; (with_reducible refine (params_outside.calls a2 _ _ E21.out).mono ?_); rintro e w' ⟨rfl, ⟨nd, rfl⟩⟩))
          go_region_held3 (fun w' => w'.cell? ⟨gb, 0, none⟩ = some (.slice (some ad) l0.length c0) ∧ w'.cell? ⟨ad.block, ad.off + 6, none⟩ = some (.int .i64 (rd l0 6)) ∧ w'.cell? ⟨ad.block, ad.off + 8, none⟩ = some (.int .i64 (rd l0 8)) ∧ w'.cell? ⟨ad.block, ad.off + 9, none⟩ = some (.int .i64 (rd l0 9))) (go_keep) (fail)
          all_goals go_wp2
          go_region_held3 (fun w' => w'.cell? ⟨gb, 0, none⟩ = some (.slice (some ad) l0.length c0) ∧ w'.cell? ⟨ad.block, ad.off + 6, none⟩ = some (.int .i64 (rd l0 6)) ∧ w'.cell? ⟨ad.block, ad.off + 7, none⟩ = some (.int .i64 (rd l0 7)) ∧ w'.cell? ⟨ad.block, ad.off + 8, none⟩ = some (.int .i64 (rd l0 8)) ∧ w'.cell? ⟨ad.block, ad.off + 9, none⟩ = some (.int .i64 (rd l0 9))) (go_keep)
            (first
              | (go_at_call 47; (with_reducible refine (params_ReturnTicks.along_q l0 ad c0 gb _ _ p _ ?s1 ?s2 HL.out EP.out).mono ?_); (case s1 => go_keep); (case s2 => go_keep); rintro e w' ⟨rfl, nd, rfl⟩)
              | (go_at_call 47; (with_reducible refine (params_ReturnTicks.along_q l0 ad c0 gb _ _ q _ ?s1 ?s2 HL.out EQ.out).mono ?_); (case s1 => go_keep); (case s2 => go_keep); rintro e w' ⟨rfl, nd, rfl⟩)
              | (go_at_call 39; (with_reducible refine (params_up.calls _ _ s _ ES.out).mono ?_); rintro e w' ⟨rfl, ⟨nd, rfl⟩⟩))
          all_goals go_wp2
          all_goals go_ret2
          all_goals exact ⟨rfl, by repeat (first | exact HB3.out | apply pw_below_drewN | apply below_drew1)⟩
        · rw [if_neg hl] at h; cases h
  · rw [if_neg c] at h
    have cb : (t13 != 0) = true := bne_iff_ne.mpr c
    clear c hr0
    simp only [Option.some.injEq, Prod.mk.injEq] at h
    obtain ⟨rfl, rfl⟩ := h
    go_enter Try.func28, Try.ntmps28
    go_wp2_with (first | ((with_reducible refine gate_dst (N := 3) rfl ?_); refine box_event ?hg (N := 3) ?hd (cs := #[.slice A0 l0.length c0]) (t := 22) ?hr ?_; (case hd => rfl); (case hg => rfl); (case hr => first | (go_simp; done) | (go_simp; rfl)); intro gb hg w2 hbox hb; have HB2 := Aside0.mk hb; have BK2 := Aside0.mk hbox; have GE2 := Aside0.mk (show w.heap.size ≤ gb by omega); have HR2 := Aside0.mk (Kd.C_below HR0.out hb); clear hb hbox hg; have hcz := (blk_cell BK2.out 0).trans rfl; have hfz := blk_frozen BK2.out 0) | (go_at_call 12; (with_reducible refine (params_Check.calls k A0 c0 l0 t13 _ HR2.out HC0.out E13.out).mono ?_); rintro e w3 ⟨rfl, hb⟩; have HB3 := Aside0.mk (below_step HB2.out hb); have BK3 := Aside0.mk (blk_below BK2.out hb); have HR3 := Aside0.mk (Kd.C_below HR2.out hb); (try clear hb); (try clear hcz); (try clear hfz); have hcz := (blk_cell BK3.out 0).trans rfl))
    go_ret2
    exact ⟨rfl, by repeat (first | exact HB3.out | apply pw_below_drewN | apply below_drew1)⟩


/-! ### windhoverref08_axis: function 48 -/
def windhoverref08_axis.f (l0 : List Int) (a1 : Int) (a2 : Int) : Option (Int) := if 6 < (l0.length : Int) then (if (rd l0 6) = 0 then (none) else ((windhoverref08_up.f (wrap64 (19200 * a1)) a2).bind fun t374 => (some (wrap64 ((wrap64 ((wrap64 (8 * (wrap64 (Int.tdiv a2 (rd l0 6))))) + t374)) + 800))))) else (none)
set_option maxHeartbeats 8000000 in
set_option maxRecDepth 100000 in
theorem windhoverref08_axis.calls (A0 : Option Addr) (c0 : Nat) (l0 : List Int) (a1 : Int) (a2 : Int) (r : Int) (w : World) (hr0 : Kd.C (Kd.int .i64) w A0 l0.length l0) (hc0 : l0.length ≤ c0) (h : windhoverref08_axis.f l0 a1 a2 = some r) :
    Calls Try.prog 48 #[.slice A0 l0.length c0, .int .i64 a1, .int .i64 a2] w fun e w' => e = .returned (.int .i64 r) ∧ Drawn0 w w' := by
  have HR0 := Aside0.mk hr0
  have HC0 := Aside0.mk hc0
  clear hr0 hc0
  have H : (if 6 < (l0.length : Int) then (if (rd l0 6) = 0 then (none) else ((windhoverref08_up.f (wrap64 (19200 * a1)) a2).bind fun t374 => (some (wrap64 ((wrap64 ((wrap64 (8 * (wrap64 (Int.tdiv a2 (rd l0 6))))) + t374)) + 800))))) else (none)) = some r := h
  clear h
  by_cases c4 : 6 < (l0.length : Int)
  · rw [if_pos c4] at H
    have c4b0 : decide (6 < (l0.length : Int)) = true := decide_eq_true c4
    have c4b1 : decide (6 < l0.length) = true := decide_eq_true (by omega)
    clear c4
    by_cases c5 : (rd l0 6) = 0
    · rw [if_pos c5] at H
      exact absurd H (by simp)
    · rw [if_neg c5] at H
      have c5b0 : ((rd l0 6) == 0) = false := beq_eq_false_iff_ne.mpr c5
      have c5b1 : ((rd l0 6) != 0) = true := bne_iff_ne.mpr c5
      replace H := Option.bind_eq_some_iff.mp H
      obtain ⟨t374, A60, H⟩ := H
      replace H : (some (wrap64 ((wrap64 ((wrap64 (8 * (wrap64 (Int.tdiv a2 (rd l0 6))))) + t374)) + 800))) = some r := H
      have A6 := Aside0.mk A60
      clear A60
      obtain rfl := Option.some.inj H
      have p373 : 0 ≤ (6 : Int) := (by omega)
      have q373 : 6 < (l0.length : Int) := of_decide_eq_true (by first | (with_reducible assumption) | assumption)
      obtain ⟨ad373, e373, hx373_0⟩ := Kd.at_int HR0.out 6 p373 q373
      cases e373
      (try simp only [show (6 : Int).toNat = 6 from rfl, Nat.reduceMul, Nat.reduceEqDiff, Go.Addr.add, ↓reduceIte] at hx373_0)
      have qi373 : (6 < l0.length) = True := eq_true (by omega)
      (try rw [show ((6 : Int)).toNat = 6 from rfl] at hx373_0)
      replace p373 := eq_true p373
      replace q373 := eq_true q373
      go_enter Try.func48, Try.ntmps48
      go_wp2_with (first | (go_at_call 41; (with_reducible refine (windhoverref08_up.calls (wrap64 (19200 * a1)) a2 t374 _ A6.out).mono ?_); rintro e w' ⟨rfl, ⟨nd, rfl⟩⟩; (try first | exact ⟨rfl, _, World.drewN_drewN _ _ _⟩ | exact ⟨rfl, _, Eq.trans (World.drewN_drewN _ _ _) (congrArg (World.drewN _) (Nat.add_assoc _ _ _))⟩)))
      repeat (go_quiet (first | (go_at_call 41; (with_reducible refine (windhoverref08_up.calls (wrap64 (19200 * a1)) a2 t374 _ A6.out).mono ?_); rintro e w' ⟨rfl, ⟨nd, rfl⟩⟩; (try first | exact ⟨rfl, _, World.drewN_drewN _ _ _⟩ | exact ⟨rfl, _, Eq.trans (World.drewN_drewN _ _ _) (congrArg (World.drewN _) (Nat.add_assoc _ _ _))⟩))); try go_wp2_with (first | (go_at_call 41; (with_reducible refine (windhoverref08_up.calls (wrap64 (19200 * a1)) a2 t374 _ A6.out).mono ?_); rintro e w' ⟨rfl, ⟨nd, rfl⟩⟩; (try first | exact ⟨rfl, _, World.drewN_drewN _ _ _⟩ | exact ⟨rfl, _, Eq.trans (World.drewN_drewN _ _ _) (congrArg (World.drewN _) (Nat.add_assoc _ _ _))⟩))))
      go_ret
      exact ⟨by first | rfl | (simp; done) | (simp [*]; done), by repeat (first | exact Drawn0.refl _ | apply Drawn0.step)⟩
  · rw [if_neg c4] at H
    exact absurd H (by simp)

end Go.Proofs.Ytaabdnamofmfcaa.PParamsTimes
