-- WRITTEN BY wip/tools/aprint.py of this claim's repository over the kit's words: not typed by hand
import Derived.Test.YtmmlahckcgjofaaPPowerFollowsx0
import Derived.Test.YtmmlahckcgjofaaPPowerFollowsx4
namespace Go.Proofs.Ytmmlahckcgjofaa.PPowerFollows
open Go.RowKit Go.Proofs.YtmmlahckcgjofaaW.PrintWords Go.Proofs.YtmmlahckcgjofaaW.PrintLast Go.Proofs.YtmmlahckcgjofaaW.PrintMore
attribute [local go_sem] max2_int min2_int max_two min_two max_three min_three max_four min_four   -- for this text's walks alone
set_option linter.unusedVariables false
set_option linter.unusedSimpArgs false

/-! ### windhoverref08_Check: function 34 -/
def windhoverref08_Check.l0 : Nat → List Int → Int → Option (Int)
 | 0, _, _ => none
 | k + 1, x0, x3 => if x3 < 24 then (if 0 ≤ x3 then (if x3 < (x0.length : Int) then ((windhoverref08_lows.f).bind fun t233 => (if x3 < (t233.length : Int) then (if (rd x0 x3) < (rd t233 x3) then (some 5) else ((windhoverref08_highs.f).bind fun t238 => (if x3 < (t238.length : Int) then (if (rd x0 x3) > (rd t238 x3) then (some 5) else (windhoverref08_Check.l0 k x0 (wrap64 (x3 + 1)))) else (none)))) else (none))) else (none)) else (none)) else ((windhoverref08_rules.f x0).bind fun t231 => (if t231 = true then (some 0) else (some 80)))
def windhoverref08_Check.f (k : Nat) (l0 : List Int) : Option (Int) := if (l0.length : Int) = 24 then (windhoverref08_Check.l0 k l0 0) else (some 3)
theorem windhoverref08_Check.mono_l : ∀ k, (∀ y0 y1, LeO (windhoverref08_Check.l0 k y0 y1) (windhoverref08_Check.l0 (k + 1) y0 y1))
 | 0 => fun _ _ r h => by simp [windhoverref08_Check.l0] at h
 | k + 1 => by
  have ih0 := windhoverref08_Check.mono_l k
  ·intro y0 y1
   unfold windhoverref08_Check.l0
   repeat' first
   | (with_reducible exact ih0 _ _)
   | (with_reducible exact LeO.refl _)
   | (with_reducible exact LeO.none _)
   | (with_reducible refine LeO.ite ?_ ?_)
   | (with_reducible refine LeO.bind ?_ (fun _ => ?_))
   | exact ih0 _ _
   | exact LeO.none _
   | refine LeO.ite ?_ ?_
   | refine LeO.bind ?_ (fun _ => ?_)
theorem windhoverref08_Check.mono : ∀ a0 k, LeO (windhoverref08_Check.f k a0) (windhoverref08_Check.f (k + 1) a0) := by
 intro a0 k; have ih0 := windhoverref08_Check.mono_l k; unfold windhoverref08_Check.f
 repeat' first
   | (with_reducible exact ih0 _ _)
   | (with_reducible exact LeO.refl _)
   | (with_reducible exact LeO.none _)
   | (with_reducible refine LeO.ite ?_ ?_)
   | (with_reducible refine LeO.bind ?_ (fun _ => ?_))
   | exact ih0 _ _
   | exact LeO.none _
   | refine LeO.ite ?_ ?_
   | refine LeO.bind ?_ (fun _ => ?_)
def windhoverref08_Check.T6 : Bool × List (List Nat × List Nat) := (true, [([], []), ([], []), ([0, 1], [0, 1]), ([2], [2]), ([], []), ([], []), ([4, 5], [4, 5]), ([6], [6]), ([3, 7], [3, 7]), ([8, 4], [8]), ([9], [9]), ([9], [9]), ([10, 11, 9], [9, 10, 11]), ([12, 9], [9, 12]), ([9, 9], [9]), ([9], [9]), ([14, 15, 9], [9, 14, 15]), ([16, 9], [9, 16]), ([13, 17, 9], [9, 13, 17]), ([9, 18], [9, 18])])
def windhoverref08_Check.B6 : List Nat := [0, 0, 3, 7, 0, 0, 48, 112, 255, 511, 1023, 1023, 4095, 8191, 1023, 1023, 50175, 115711, 262143, 524287]
theorem windhoverref08_Check.tab6 : rtab .any (opsOf Try.f34 6) = windhoverref08_Check.T6 := by kernel_rfl
theorem windhoverref08_Check.bits6 : waitsOk windhoverref08_Check.T6.2 windhoverref08_Check.B6 = true := by kernel_rfl
theorem windhoverref08_Check.more_ {P : Program} {md : Region.Mode} {ops : Array Oper} {Q : Exit → Act → World → Prop} {S S' : World → Prop} (hi : ∀ w, S' w → S w) : ∀ (fuel : Nat) (l : Array Bool) (a : Act) (w : World), S' w → wpAnyLast P md ops Q S' [] fuel l a w → wpAnyLast P md ops Q S [] fuel l a w
 | 0, _, _, _, _, h => h
 | fuel + 1, _, _, _, hs, h => ⟨h.1, fun i hr => wpOp_mono (fun a' w' h' => ⟨fun hd _ => hi _ (h'.1 hd hs), windhoverref08_Check.more_ hi fuel _ _ _ (h'.1 (by simp) hs) h'.2⟩) (h.2 i hr)⟩
set_option maxHeartbeats 8000000 in
set_option maxRecDepth 100000 in
theorem windhoverref08_Check.calls (k : Nat) (A0 : Option Addr) (c0 : Nat) (l0 : List Int) (r : Int) (w : World) (hr0 : Kd.C (Kd.int .i64) w A0 l0.length l0) (hc0 : l0.length ≤ c0) (h : windhoverref08_Check.f k l0 = some r) :
  Calls Try.prog 34 #[.slice A0 l0.length c0] w fun e w' => e = .returned (.int .i64 r) ∧ Below w.heap.size w w' := by
 have HR0 := Aside0.mk hr0; have HC0 := Aside0.mk hc0; clear hr0 hc0; have HB := Aside0.mk (Below.refl w.heap.size w); have H : (if (l0.length : Int) = 24 then (windhoverref08_Check.l0 k l0 0) else (some 3)) = some r := h; clear h
 by_cases c2 : (l0.length : Int) = 24
 ·rw [if_pos c2] at H
  have c2b0 : ((l0.length : Int) == 24) = true := beq_iff_eq.mpr c2; have c2b1 : ((l0.length : Int) != 24) = false := bne_eq_false_iff_eq.mpr c2; clear c2; have H' := Aside0.mk H; clear H; go_enter Try.func34, Try.ntmps34
  go_wp2
  go_loopg [3] k (fun kq v3 w' => ∃ (x3_1 : Int), v3 = .int .i64 x3_1 ∧ Aside0 (windhoverref08_Check.l0 kq l0 x3_1 = some r) ∧ Aside0 (kq ≤ k) ∧ Aside0 (Below w.heap.size w w'))
  case atStart => exact ⟨(0), (by first | rfl | (simp; done) | (simp [*]; done)), H', ⟨Nat.le_refl _⟩, ⟨by repeat (first | (with_reducible first | exact HB.out | apply below_alloc | apply pw_below_drewN | apply below_drew1) | exact HB.out)⟩⟩
  case round =>
   clear H'; (try clear c2); (try clear c2b0); (try clear c2b1); (try clear p2); obtain ⟨x3_1, rfl, HA, HK1, HB⟩ := hrel
   cases gk with
   | zero => exact absurd HA.out (by simp [windhoverref08_Check.l0])
   | succ k1 =>
    have H := HA.out; clear HA; simp only [windhoverref08_Check.l0] at H
    by_cases c3 : x3_1 < 24
    ·rw [if_pos c3] at H
     have c3b0 : decide (x3_1 < 24) = true := decide_eq_true c3; clear c3
     by_cases c4 : 0 ≤ x3_1
     ·rw [if_pos c4] at H
      have c4b0 : decide (0 ≤ x3_1) = true := decide_eq_true c4; clear c4
      by_cases c5 : x3_1 < (l0.length : Int)
      ·rw [if_pos c5] at H
       have c5b0 : decide (x3_1 < (l0.length : Int)) = true := decide_eq_true c5; clear c5; replace H := Option.bind_eq_some_iff.mp H; obtain ⟨t233, A60, H⟩ := H; replace H : (if x3_1 < (t233.length : Int) then (if (rd l0 x3_1) < (rd t233 x3_1) then (some 5) else ((windhoverref08_highs.f).bind fun t238 => (if x3_1 < (t238.length : Int) then (if (rd l0 x3_1) > (rd t238 x3_1) then (some 5) else (windhoverref08_Check.l0 k1 l0 (wrap64 (x3_1 + 1)))) else (none)))) else (none)) = some r := H; have A6 := Aside0.mk A60; clear A60
       by_cases c7 : x3_1 < (t233.length : Int)
       ·rw [if_pos c7] at H
        have c7b0 : decide (x3_1 < (t233.length : Int)) = true := decide_eq_true c7; clear c7
        by_cases c8 : (rd l0 x3_1) < (rd t233 x3_1)
        ·rw [if_pos c8] at H
         have c8b0 : decide ((rd l0 x3_1) < (rd t233 x3_1)) = true := decide_eq_true c8; clear c8; obtain rfl := Option.some.inj H
         try go_wp2
         have n0_ := Aside0.mk (below_drew1 HB.out); clear HB; have HB := n0_; clear n0_; have p232 : 0 ≤ (x3_1 : Int) := of_decide_eq_true (by with_reducible assumption); have q232 : x3_1 < (l0.length : Int) := of_decide_eq_true (by with_reducible assumption); obtain ⟨ad232, e232, hx232_0⟩ := Kd.at_int HR0.out x3_1 p232 q232; have hw232_0 := hx232_0; cases e232; replace hx232_0 := (HB.out.cell (World.block_lt_of_cell? w _ hx232_0)).trans hx232_0; replace p232 := eq_true p232; replace q232 := eq_true q232; refine start_ (n := 20) (S := fun w' => (w'.cell? (ad232.add (x3_1).toNat) = some (.int .i64 (rd l0 x3_1)))) (ds := []) (lb_ 20 0) (by kernel_rfl) rfl rfl ((HB.out.cell (World.block_lt_of_cell? w _ hw232_0)).trans hw232_0) (fun hHeld => ?_); refine with_tabW windhoverref08_Check.tab6 windhoverref08_Check.bits6 (fun HT_ HW_ => ?_); generalize wr.drew = w9 at HB hx232_0 hHeld ⊢; refine pz_ HT_ 0 11 ?_ (lb_ 20 1) ?_ ?_ ?_ ?_; rotate_left; (intro w'; go_simp; with_reducible rfl); rotate_left; (simp only [sqs_]; rfl); refine pz_ HT_ 1 12 ?_ (lb_ 20 3) ?_ ?_ ?_ ?_; rotate_left; (intro w'; go_simp; with_reducible rfl); rotate_left; (simp only [sqs_]; rfl); refine pz_ HT_ 2 13 ?_ (lb_ 20 7) ?_ ?_ ?_ ?_; rotate_left; (intro w'; go_simp; with_reducible rfl); rotate_left; (simp only [sqs_]; rfl); refine pz_ HT_ 5 16 ?_ (lb_ 20 39) ?_ ?_ ?_ ?_; rotate_left; (intro w'; go_simp; with_reducible rfl); rotate_left; (simp only [sqs_]; rfl); refine tz_ HT_ HW_ 3 14 ?_ (lb_ 20 47) ?_ hHeld ?_ ?_ ?_; rotate_left; (rintro w' s0; go_simp; with_reducible rfl); rotate_left; (simp only [sqs_]; rfl); refine one_ (i := 4) (N := some 15) (lb_ 20 63) rfl rfl (one_of HT_.out (by kernel_rfl)) (by decide) (fun K hK => ?_); refine goes_ Try.func48 (by kernel_rfl) rfl #[] (by rfl) rfl rfl (by (try simp only [List.map_toArray, List.map_cons, List.map_nil]); first | done | rfl | (simp only [List.length_drop, List.length_take]; rfl)) ?_
         with_reducible refine (windhoverref08_lows.calls  t233 _ A6.out).mono ?_
         rintro e w10 ⟨v234, rfl, ho0, hb⟩; refine ⟨_, rfl, ?_⟩; have n0_ := Aside0.mk (Kd.R_lower ho0 (below_size (by repeat (first | (with_reducible first | exact HB.out | apply below_alloc | apply pw_below_drewN | apply below_drew1) | exact HB.out)))); have n1_ := Aside0.mk (below_step (by repeat (first | (with_reducible first | exact HB.out | apply below_alloc | apply pw_below_drewN | apply below_drew1) | exact HB.out)) hb); clear HB; have HO235 := n0_; have HB := n1_; clear n0_ n1_; (try clear hb); (try clear hb2); (try clear hk); (try clear hi); (try clear ho0); obtain ⟨Ao11, co11, eo11⟩ := Kd.R_slice HO235.out; (first | subst eo11 | (injection eo11 with f1_ f2_ f3_; have f4_ := f1_.symm; have f5_ := f3_.symm; clear f1_ f2_ f3_; subst f4_; subst f5_)); have p236 : 0 ≤ (x3_1 : Int) := of_decide_eq_true (by with_reducible assumption); have q236 : x3_1 < (t233.length : Int) := of_decide_eq_true (by with_reducible assumption); obtain ⟨ad236, e236, hx236_0⟩ := Kd.at_int (Kd.R_reads' HO235.out).2.2 x3_1 p236 q236; cases e236; replace p236 := eq_true p236; replace q236 := eq_true q236; refine hK.out _ _ ((HB.out.cell (World.block_lt_of_cell? w _ hw232_0)).trans hw232_0) (fun hHeld => ?_); refine windhoverref08_Check.more_ (S' := fun w' => ((w'.cell? (ad232.add (x3_1).toNat) = some (.int .i64 (rd l0 x3_1))) ∧ (w'.cell? (ad236.add (x3_1).toNat) = some (.int .i64 (rd t233 x3_1))))) (fun _ h_ => h_.1) _ _ _ _ (And.intro hHeld hx236_0) ?_; replace hHeld := And.intro hHeld hx236_0; clear hK K; refine norm_ (a' := ?_) ?_ ?_; rotate_left
         ·show Act.put _ (some 15) _ = _
          simp only [Act.put, List.setIfInBounds_toArray, List.set_cons_zero, List.set_cons_succ, i64_w, i32_w]
          rfl
         refine pz_ HT_ 6 17 ?_ (lb_ 20 127) ?_ ?_ ?_ ?_; rotate_left; (intro w'; go_simp; with_reducible rfl); rotate_left; (simp only [sqs_]; rfl); refine tz_ HT_ HW_ 7 18 ?_ (lb_ 20 255) ?_ hHeld ?_ ?_ ?_; rotate_left; (rintro w' ⟨s0, s1⟩; go_simp; with_reducible rfl); rotate_left; (simp only [sqs_]; rfl); refine pz_ HT_ 8 19 ?_ (lb_ 20 511) ?_ ?_ ?_ ?_; rotate_left; (intro w'; go_simp; with_reducible rfl); rotate_left; (simp only [sqs_]; rfl); refine pz_ HT_ 9 20 ?_ (lb_ 20 1023) ?_ ?_ ?_ ?_; rotate_left; (intro w'; go_simp; with_reducible rfl); rotate_left; (simp only [sqs_]; rfl); refine pure_ (i := 10) (N := some 21) (v := undef) (a' := ?_) (lb_ 20 2047) rfl rfl (any_of HT_.out (by kernel_rfl)) (fun _ _ _ h => h) (Or.inr ⟨by rfl, rfl⟩) ?_ ?_; rotate_left
         ·simp only [Act.put, List.setIfInBounds_toArray, List.set_cons_zero, List.set_cons_succ, i64_w, i32_w]
          rfl
         refine pure_ (i := 11) (N := some 22) (v := undef) (a' := ?_) (lb_ 20 4095) rfl rfl (any_of HT_.out (by kernel_rfl)) (fun _ _ _ h => h) (Or.inr ⟨by rfl, rfl⟩) ?_ ?_; rotate_left
         ·simp only [Act.put, List.setIfInBounds_toArray, List.set_cons_zero, List.set_cons_succ, i64_w, i32_w]
          rfl
         refine pure_ (i := 12) (N := some 23) (v := undef) (a' := ?_) (lb_ 20 8191) rfl rfl (any_of HT_.out (by kernel_rfl)) (fun _ _ _ h => h) (Or.inr ⟨by rfl, rfl⟩) ?_ ?_; rotate_left
         ·simp only [Act.put, List.setIfInBounds_toArray, List.set_cons_zero, List.set_cons_succ, i64_w, i32_w]
          rfl
         refine pure_ (i := 13) (N := some 24) (v := undef) (a' := ?_) (lb_ 20 16383) rfl rfl (any_of HT_.out (by kernel_rfl)) (fun _ _ _ h => h) (Or.inr ⟨by rfl, rfl⟩) ?_ ?_; rotate_left
         ·simp only [Act.put, List.setIfInBounds_toArray, List.set_cons_zero, List.set_cons_succ, i64_w, i32_w]
          rfl
         refine pure_ (i := 14) (N := some 25) (v := undef) (a' := ?_) (lb_ 20 32767) rfl rfl (any_of HT_.out (by kernel_rfl)) (fun _ _ _ h => h) (Or.inr ⟨by rfl, rfl⟩) ?_ ?_; rotate_left
         ·simp only [Act.put, List.setIfInBounds_toArray, List.set_cons_zero, List.set_cons_succ, i64_w, i32_w]
          rfl
         refine pure_ (i := 15) (N := some 26) (v := undef) (a' := ?_) (lb_ 20 65535) rfl rfl (any_of HT_.out (by kernel_rfl)) (fun _ _ _ h => h) (Or.inr ⟨by rfl, rfl⟩) ?_ ?_; rotate_left
         ·simp only [Act.put, List.setIfInBounds_toArray, List.set_cons_zero, List.set_cons_succ, i64_w, i32_w]
          rfl
         refine pure_ (i := 16) (N := some 27) (v := undef) (a' := ?_) (lb_ 20 131071) rfl rfl (any_of HT_.out (by kernel_rfl)) (fun _ _ _ h => h) (Or.inr ⟨by rfl, rfl⟩) ?_ ?_; rotate_left
         ·simp only [Act.put, List.setIfInBounds_toArray, List.set_cons_zero, List.set_cons_succ, i64_w, i32_w]
          rfl
         refine pure_ (i := 17) (N := some 28) (v := undef) (a' := ?_) (lb_ 20 262143) rfl rfl (any_of HT_.out (by kernel_rfl)) (fun _ _ _ h => h) (Or.inr ⟨by rfl, rfl⟩) ?_ ?_; rotate_left
         ·simp only [Act.put, List.setIfInBounds_toArray, List.set_cons_zero, List.set_cons_succ, i64_w, i32_w]
          rfl
         refine pure_ (i := 18) (N := some 29) (v := undef) (a' := ?_) (lb_ 20 524287) rfl rfl (any_of HT_.out (by kernel_rfl)) (fun _ _ _ h => h) (Or.inr ⟨by rfl, rfl⟩) ?_ ?_; rotate_left
         ·simp only [Act.put, List.setIfInBounds_toArray, List.set_cons_zero, List.set_cons_succ, i64_w, i32_w]
          rfl
         refine pz_ HT_ 19 30 ?_ (lb_ 20 1048575) ?_ ?_ ?_ ?_; rotate_left; (intro w'; go_simp; with_reducible rfl); rotate_left; (simp only [sqs_]; rfl); refine done_ (done_of HT_.out (by kernel_rfl)) ?_
         try go_wp2
         go_ret
         exact ⟨by first | rfl | (simp [errW_none, errW_some] <;> rfl) | (simp [*, errW_none, errW_some] <;> rfl), by repeat (first | (with_reducible first | exact HB.out | apply below_alloc | apply pw_below_drewN | apply below_drew1) | exact HB.out)⟩
        ·rw [if_neg c8] at H
         have c8b0 : decide ((rd l0 x3_1) < (rd t233 x3_1)) = false := decide_eq_false c8; clear c8; replace H := Option.bind_eq_some_iff.mp H; obtain ⟨t238, A120, H⟩ := H; replace H : (if x3_1 < (t238.length : Int) then (if (rd l0 x3_1) > (rd t238 x3_1) then (some 5) else (windhoverref08_Check.l0 k1 l0 (wrap64 (x3_1 + 1)))) else (none)) = some r := H; have A12 := Aside0.mk A120; clear A120
         by_cases c13 : x3_1 < (t238.length : Int)
         ·rw [if_pos c13] at H
          have c13b0 : decide (x3_1 < (t238.length : Int)) = true := decide_eq_true c13; clear c13
          by_cases c14 : (rd l0 x3_1) > (rd t238 x3_1)
          ·rw [if_pos c14] at H
           have c14b0 : decide ((rd t238 x3_1) < (rd l0 x3_1)) = true := decide_eq_true c14; clear c14; obtain rfl := Option.some.inj H
           try go_wp2
           have n0_ := Aside0.mk (below_drew1 HB.out); clear HB; have HB := n0_; clear n0_; have p232 : 0 ≤ (x3_1 : Int) := of_decide_eq_true (by with_reducible assumption); have q232 : x3_1 < (l0.length : Int) := of_decide_eq_true (by with_reducible assumption); obtain ⟨ad232, e232, hx232_0⟩ := Kd.at_int HR0.out x3_1 p232 q232; have hw232_0 := hx232_0; cases e232; replace hx232_0 := (HB.out.cell (World.block_lt_of_cell? w _ hx232_0)).trans hx232_0; replace p232 := eq_true p232; replace q232 := eq_true q232; have p237 : 0 ≤ (x3_1 : Int) := of_decide_eq_true (by with_reducible assumption); have q237 : x3_1 < (l0.length : Int) := of_decide_eq_true (by with_reducible assumption); obtain ⟨ad237, e237, hx237_0⟩ := Kd.at_int HR0.out x3_1 p237 q237; have hw237_0 := hx237_0
           obtain rfl : ad232 = ad237 := (by injection e237)
           replace hx237_0 := (HB.out.cell (World.block_lt_of_cell? w _ hx237_0)).trans hx237_0; replace p237 := eq_true p237; replace q237 := eq_true q237; refine start_ (n := 20) (S := fun w' => ((w'.cell? (ad232.add (x3_1).toNat) = some (.int .i64 (rd l0 x3_1))) ∧ (w'.cell? (ad232.add (x3_1).toNat) = some (.int .i64 (rd l0 x3_1))))) (ds := []) (lb_ 20 0) (by kernel_rfl) rfl rfl ⟨((HB.out.cell (World.block_lt_of_cell? w _ hw232_0)).trans hw232_0), ((HB.out.cell (World.block_lt_of_cell? w _ hw237_0)).trans hw237_0)⟩ (fun hHeld => ?_); refine with_tabW windhoverref08_Check.tab6 windhoverref08_Check.bits6 (fun HT_ HW_ => ?_); generalize wr.drew = w15 at HB hx232_0 hx237_0 hHeld ⊢; refine pz_ HT_ 0 11 ?_ (lb_ 20 1) ?_ ?_ ?_ ?_; rotate_left; (intro w'; go_simp; with_reducible rfl); rotate_left; (simp only [sqs_]; rfl); refine pz_ HT_ 1 12 ?_ (lb_ 20 3) ?_ ?_ ?_ ?_; rotate_left; (intro w'; go_simp; with_reducible rfl); rotate_left; (simp only [sqs_]; rfl); refine pz_ HT_ 2 13 ?_ (lb_ 20 7) ?_ ?_ ?_ ?_; rotate_left; (intro w'; go_simp; with_reducible rfl); rotate_left; (simp only [sqs_]; rfl); refine pz_ HT_ 5 16 ?_ (lb_ 20 39) ?_ ?_ ?_ ?_; rotate_left; (intro w'; go_simp; with_reducible rfl); rotate_left; (simp only [sqs_]; rfl); refine tz_ HT_ HW_ 3 14 ?_ (lb_ 20 47) ?_ hHeld ?_ ?_ ?_; rotate_left; (rintro w' ⟨s0, s2⟩; go_simp; with_reducible rfl); rotate_left; (simp only [sqs_]; rfl); refine one_ (i := 4) (N := some 15) (lb_ 20 63) rfl rfl (one_of HT_.out (by kernel_rfl)) (by decide) (fun K hK => ?_); refine goes_ Try.func48 (by kernel_rfl) rfl #[] (by rfl) rfl rfl (by (try simp only [List.map_toArray, List.map_cons, List.map_nil]); first | done | rfl | (simp only [List.length_drop, List.length_take]; rfl)) ?_
           with_reducible refine (windhoverref08_lows.calls  t233 _ A6.out).mono ?_
           rintro e w16 ⟨v234, rfl, ho0, hb⟩; refine ⟨_, rfl, ?_⟩; have n0_ := Aside0.mk (Kd.R_lower ho0 (below_size (by repeat (first | (with_reducible first | exact HB.out | apply below_alloc | apply pw_below_drewN | apply below_drew1) | exact HB.out)))); have n1_ := Aside0.mk (below_step (by repeat (first | (with_reducible first | exact HB.out | apply below_alloc | apply pw_below_drewN | apply below_drew1) | exact HB.out)) hb); clear HB; have HO235 := n0_; have HB := n1_; clear n0_ n1_; (try clear hb); (try clear hb2); (try clear hk); (try clear hi); (try clear ho0); obtain ⟨Ao17, co17, eo17⟩ := Kd.R_slice HO235.out; (first | subst eo17 | (injection eo17 with f1_ f2_ f3_; have f4_ := f1_.symm; have f5_ := f3_.symm; clear f1_ f2_ f3_; subst f4_; subst f5_)); have p236 : 0 ≤ (x3_1 : Int) := of_decide_eq_true (by with_reducible assumption); have q236 : x3_1 < (t233.length : Int) := of_decide_eq_true (by with_reducible assumption); obtain ⟨ad236, e236, hx236_0⟩ := Kd.at_int (Kd.R_reads' HO235.out).2.2 x3_1 p236 q236; cases e236; replace p236 := eq_true p236; replace q236 := eq_true q236; refine hK.out _ _ ⟨((HB.out.cell (World.block_lt_of_cell? w _ hw232_0)).trans hw232_0), ((HB.out.cell (World.block_lt_of_cell? w _ hw237_0)).trans hw237_0)⟩ (fun hHeld => ?_); refine windhoverref08_Check.more_ (S' := fun w' => (((w'.cell? (ad232.add (x3_1).toNat) = some (.int .i64 (rd l0 x3_1))) ∧ (w'.cell? (ad232.add (x3_1).toNat) = some (.int .i64 (rd l0 x3_1)))) ∧ (w'.cell? (ad236.add (x3_1).toNat) = some (.int .i64 (rd t233 x3_1))))) (fun _ h_ => h_.1) _ _ _ _ (And.intro hHeld hx236_0) ?_; replace hHeld := And.intro hHeld hx236_0; clear hK K; refine norm_ (a' := ?_) ?_ ?_; rotate_left
           ·show Act.put _ (some 15) _ = _
            simp only [Act.put, List.setIfInBounds_toArray, List.set_cons_zero, List.set_cons_succ, i64_w, i32_w]
            rfl
           refine pz_ HT_ 6 17 ?_ (lb_ 20 127) ?_ ?_ ?_ ?_; rotate_left; (intro w'; go_simp; with_reducible rfl); rotate_left; (simp only [sqs_]; rfl); refine tz_ HT_ HW_ 7 18 ?_ (lb_ 20 255) ?_ hHeld ?_ ?_ ?_; rotate_left; (rintro w' ⟨⟨s0, s2⟩, s1⟩; go_simp; with_reducible rfl); rotate_left; (simp only [sqs_]; rfl); refine pz_ HT_ 8 19 ?_ (lb_ 20 511) ?_ ?_ ?_ ?_; rotate_left; (intro w'; go_simp; with_reducible rfl); rotate_left; (simp only [sqs_]; rfl); refine pz_ HT_ 9 20 ?_ (lb_ 20 1023) ?_ ?_ ?_ ?_; rotate_left; (intro w'; go_simp; with_reducible rfl); rotate_left; (simp only [sqs_]; rfl); refine pz_ HT_ 10 21 ?_ (lb_ 20 2047) ?_ ?_ ?_ ?_; rotate_left; (intro w'; go_simp; with_reducible rfl); rotate_left; (simp only [sqs_]; rfl); refine pz_ HT_ 11 22 ?_ (lb_ 20 4095) ?_ ?_ ?_ ?_; rotate_left; (intro w'; go_simp; with_reducible rfl); rotate_left; (simp only [sqs_]; rfl); refine pz_ HT_ 12 23 ?_ (lb_ 20 8191) ?_ ?_ ?_ ?_; rotate_left; (intro w'; go_simp; with_reducible rfl); rotate_left; (simp only [sqs_]; rfl); refine pz_ HT_ 15 26 ?_ (lb_ 20 40959) ?_ ?_ ?_ ?_; rotate_left; (intro w'; go_simp; with_reducible rfl); rotate_left; (simp only [sqs_]; rfl); refine tz_ HT_ HW_ 13 24 ?_ (lb_ 20 49151) ?_ hHeld ?_ ?_ ?_; rotate_left; (rintro w' ⟨⟨s0, s2⟩, s1⟩; go_simp; with_reducible rfl); rotate_left; (simp only [sqs_]; rfl); refine one_ (i := 14) (N := some 25) (lb_ 20 65535) rfl rfl (one_of HT_.out (by kernel_rfl)) (by decide) (fun K hK => ?_); refine goes_ Try.func49 (by kernel_rfl) rfl #[] (by rfl) rfl rfl (by (try simp only [List.map_toArray, List.map_cons, List.map_nil]); first | done | rfl | (simp only [List.length_drop, List.length_take]; rfl)) ?_
           with_reducible refine (windhoverref08_highs.calls  t238 _ A12.out).mono ?_
           rintro e w18 ⟨v239, rfl, ho0, hb⟩; have HS1_ := (hb.cell (World.block_lt_of_cell? _ _ (hHeld.2))).trans (hHeld.2); refine ⟨_, rfl, ?_⟩; have n0_ := Aside0.mk (Kd.R_elder' (by (with_reducible repeat (first | apply Kd.R_alloc | apply Kd.R_drewN | apply Kd.R_drew)); exact HO235.out) (Kd.R_base ho0) hb); have n1_ := Aside0.mk (Kd.R_lower (Kd.R_new' ho0 (Kd.R_lt (by (with_reducible repeat (first | apply Kd.R_alloc | apply Kd.R_drewN | apply Kd.R_drew)); exact HO235.out))) (below_size (by repeat (first | (with_reducible first | exact HB.out | apply below_alloc | apply pw_below_drewN | apply below_drew1) | exact HB.out)))); have n2_ := Aside0.mk (below_step (by repeat (first | (with_reducible first | exact HB.out | apply below_alloc | apply pw_below_drewN | apply below_drew1) | exact HB.out)) hb); clear HO235; clear HB; have HO235 := n0_; have HO240 := n1_; have HB := n2_; clear n0_ n1_ n2_; (try clear hb); (try clear hb2); (try clear hk); (try clear hi); (try clear ho0); obtain ⟨Ao19, co19, eo19⟩ := Kd.R_slice HO240.out; (first | subst eo19 | (injection eo19 with f1_ f2_ f3_; have f4_ := f1_.symm; have f5_ := f3_.symm; clear f1_ f2_ f3_; subst f4_; subst f5_)); have p241 : 0 ≤ (x3_1 : Int) := of_decide_eq_true (by with_reducible assumption); have q241 : x3_1 < (t238.length : Int) := of_decide_eq_true (by with_reducible assumption); obtain ⟨ad241, e241, hx241_0⟩ := Kd.at_int (Kd.R_reads' HO240.out).2.2 x3_1 p241 q241; cases e241; replace p241 := eq_true p241; replace q241 := eq_true q241; refine hK.out _ _ ⟨⟨((HB.out.cell (World.block_lt_of_cell? w _ hw232_0)).trans hw232_0), ((HB.out.cell (World.block_lt_of_cell? w _ hw237_0)).trans hw237_0)⟩, HS1_⟩ (fun hHeld => ?_); refine windhoverref08_Check.more_ (S' := fun w' => ((((w'.cell? (ad232.add (x3_1).toNat) = some (.int .i64 (rd l0 x3_1))) ∧ (w'.cell? (ad232.add (x3_1).toNat) = some (.int .i64 (rd l0 x3_1)))) ∧ (w'.cell? (ad236.add (x3_1).toNat) = some (.int .i64 (rd t233 x3_1)))) ∧ (w'.cell? (ad241.add (x3_1).toNat) = some (.int .i64 (rd t238 x3_1))))) (fun _ h_ => h_.1) _ _ _ _ (And.intro hHeld hx241_0) ?_; replace hHeld := And.intro hHeld hx241_0; clear hK K; refine norm_ (a' := ?_) ?_ ?_; rotate_left
           ·show Act.put _ (some 25) _ = _
            simp only [Act.put, List.setIfInBounds_toArray, List.set_cons_zero, List.set_cons_succ, i64_w, i32_w]
            rfl
           refine pz_ HT_ 16 27 ?_ (lb_ 20 131071) ?_ ?_ ?_ ?_; rotate_left; (intro w'; go_simp; with_reducible rfl); rotate_left; (simp only [sqs_]; rfl); refine tz_ HT_ HW_ 17 28 ?_ (lb_ 20 262143) ?_ hHeld ?_ ?_ ?_; rotate_left; (rintro w' ⟨⟨⟨s0, s2⟩, s1⟩, s3⟩; go_simp; with_reducible rfl); rotate_left; (simp only [sqs_]; rfl); refine pz_ HT_ 18 29 ?_ (lb_ 20 524287) ?_ ?_ ?_ ?_; rotate_left; (intro w'; go_simp; with_reducible rfl); rotate_left; (simp only [sqs_]; rfl); refine pz_ HT_ 19 30 ?_ (lb_ 20 1048575) ?_ ?_ ?_ ?_; rotate_left; (intro w'; go_simp; with_reducible rfl); rotate_left; (simp only [sqs_]; rfl); refine done_ (done_of HT_.out (by kernel_rfl)) ?_
           try go_wp2
           go_ret
           exact ⟨by first | rfl | (simp [errW_none, errW_some] <;> rfl) | (simp [*, errW_none, errW_some] <;> rfl), by repeat (first | (with_reducible first | exact HB.out | apply below_alloc | apply pw_below_drewN | apply below_drew1) | exact HB.out)⟩
          ·rw [if_neg c14] at H
           have c14b0 : decide ((rd t238 x3_1) < (rd l0 x3_1)) = false := decide_eq_false c14; clear c14; have H' := Aside0.mk H; clear H
           try go_wp2
           have n0_ := Aside0.mk (below_drew1 HB.out); clear HB; have HB := n0_; clear n0_; have p232 : 0 ≤ (x3_1 : Int) := of_decide_eq_true (by with_reducible assumption); have q232 : x3_1 < (l0.length : Int) := of_decide_eq_true (by with_reducible assumption); obtain ⟨ad232, e232, hx232_0⟩ := Kd.at_int HR0.out x3_1 p232 q232; have hw232_0 := hx232_0; cases e232; replace hx232_0 := (HB.out.cell (World.block_lt_of_cell? w _ hx232_0)).trans hx232_0; replace p232 := eq_true p232; replace q232 := eq_true q232; have p237 : 0 ≤ (x3_1 : Int) := of_decide_eq_true (by with_reducible assumption); have q237 : x3_1 < (l0.length : Int) := of_decide_eq_true (by with_reducible assumption); obtain ⟨ad237, e237, hx237_0⟩ := Kd.at_int HR0.out x3_1 p237 q237; have hw237_0 := hx237_0
           obtain rfl : ad232 = ad237 := (by injection e237)
           replace hx237_0 := (HB.out.cell (World.block_lt_of_cell? w _ hx237_0)).trans hx237_0; replace p237 := eq_true p237; replace q237 := eq_true q237; refine start_ (n := 20) (S := fun w' => ((w'.cell? (ad232.add (x3_1).toNat) = some (.int .i64 (rd l0 x3_1))) ∧ (w'.cell? (ad232.add (x3_1).toNat) = some (.int .i64 (rd l0 x3_1))))) (ds := []) (lb_ 20 0) (by kernel_rfl) rfl rfl ⟨((HB.out.cell (World.block_lt_of_cell? w _ hw232_0)).trans hw232_0), ((HB.out.cell (World.block_lt_of_cell? w _ hw237_0)).trans hw237_0)⟩ (fun hHeld => ?_); refine with_tabW windhoverref08_Check.tab6 windhoverref08_Check.bits6 (fun HT_ HW_ => ?_); generalize wr.drew = w20 at HB hx232_0 hx237_0 hHeld ⊢; refine pz_ HT_ 0 11 ?_ (lb_ 20 1) ?_ ?_ ?_ ?_; rotate_left; (intro w'; go_simp; with_reducible rfl); rotate_left; (simp only [sqs_]; rfl); refine pz_ HT_ 1 12 ?_ (lb_ 20 3) ?_ ?_ ?_ ?_; rotate_left; (intro w'; go_simp; with_reducible rfl); rotate_left; (simp only [sqs_]; rfl); refine pz_ HT_ 2 13 ?_ (lb_ 20 7) ?_ ?_ ?_ ?_; rotate_left; (intro w'; go_simp; with_reducible rfl); rotate_left; (simp only [sqs_]; rfl); refine pz_ HT_ 5 16 ?_ (lb_ 20 39) ?_ ?_ ?_ ?_; rotate_left; (intro w'; go_simp; with_reducible rfl); rotate_left; (simp only [sqs_]; rfl); refine tz_ HT_ HW_ 3 14 ?_ (lb_ 20 47) ?_ hHeld ?_ ?_ ?_; rotate_left; (rintro w' ⟨s0, s2⟩; go_simp; with_reducible rfl); rotate_left; (simp only [sqs_]; rfl); refine one_ (i := 4) (N := some 15) (lb_ 20 63) rfl rfl (one_of HT_.out (by kernel_rfl)) (by decide) (fun K hK => ?_); refine goes_ Try.func48 (by kernel_rfl) rfl #[] (by rfl) rfl rfl (by (try simp only [List.map_toArray, List.map_cons, List.map_nil]); first | done | rfl | (simp only [List.length_drop, List.length_take]; rfl)) ?_
           with_reducible refine (windhoverref08_lows.calls  t233 _ A6.out).mono ?_
           rintro e w21 ⟨v234, rfl, ho0, hb⟩; refine ⟨_, rfl, ?_⟩; have n0_ := Aside0.mk (Kd.R_lower ho0 (below_size (by repeat (first | (with_reducible first | exact HB.out | apply below_alloc | apply pw_below_drewN | apply below_drew1) | exact HB.out)))); have n1_ := Aside0.mk (below_step (by repeat (first | (with_reducible first | exact HB.out | apply below_alloc | apply pw_below_drewN | apply below_drew1) | exact HB.out)) hb); clear HB; have HO235 := n0_; have HB := n1_; clear n0_ n1_; (try clear hb); (try clear hb2); (try clear hk); (try clear hi); (try clear ho0); obtain ⟨Ao22, co22, eo22⟩ := Kd.R_slice HO235.out; (first | subst eo22 | (injection eo22 with f1_ f2_ f3_; have f4_ := f1_.symm; have f5_ := f3_.symm; clear f1_ f2_ f3_; subst f4_; subst f5_)); have p236 : 0 ≤ (x3_1 : Int) := of_decide_eq_true (by with_reducible assumption); have q236 : x3_1 < (t233.length : Int) := of_decide_eq_true (by with_reducible assumption); obtain ⟨ad236, e236, hx236_0⟩ := Kd.at_int (Kd.R_reads' HO235.out).2.2 x3_1 p236 q236; cases e236; replace p236 := eq_true p236; replace q236 := eq_true q236; refine hK.out _ _ ⟨((HB.out.cell (World.block_lt_of_cell? w _ hw232_0)).trans hw232_0), ((HB.out.cell (World.block_lt_of_cell? w _ hw237_0)).trans hw237_0)⟩ (fun hHeld => ?_); refine windhoverref08_Check.more_ (S' := fun w' => (((w'.cell? (ad232.add (x3_1).toNat) = some (.int .i64 (rd l0 x3_1))) ∧ (w'.cell? (ad232.add (x3_1).toNat) = some (.int .i64 (rd l0 x3_1)))) ∧ (w'.cell? (ad236.add (x3_1).toNat) = some (.int .i64 (rd t233 x3_1))))) (fun _ h_ => h_.1) _ _ _ _ (And.intro hHeld hx236_0) ?_; replace hHeld := And.intro hHeld hx236_0; clear hK K; refine norm_ (a' := ?_) ?_ ?_; rotate_left
           ·show Act.put _ (some 15) _ = _
            simp only [Act.put, List.setIfInBounds_toArray, List.set_cons_zero, List.set_cons_succ, i64_w, i32_w]
            rfl
           refine pz_ HT_ 6 17 ?_ (lb_ 20 127) ?_ ?_ ?_ ?_; rotate_left; (intro w'; go_simp; with_reducible rfl); rotate_left; (simp only [sqs_]; rfl); refine tz_ HT_ HW_ 7 18 ?_ (lb_ 20 255) ?_ hHeld ?_ ?_ ?_; rotate_left; (rintro w' ⟨⟨s0, s2⟩, s1⟩; go_simp; with_reducible rfl); rotate_left; (simp only [sqs_]; rfl); refine pz_ HT_ 8 19 ?_ (lb_ 20 511) ?_ ?_ ?_ ?_; rotate_left; (intro w'; go_simp; with_reducible rfl); rotate_left; (simp only [sqs_]; rfl); refine pz_ HT_ 9 20 ?_ (lb_ 20 1023) ?_ ?_ ?_ ?_; rotate_left; (intro w'; go_simp; with_reducible rfl); rotate_left; (simp only [sqs_]; rfl); refine pz_ HT_ 10 21 ?_ (lb_ 20 2047) ?_ ?_ ?_ ?_; rotate_left; (intro w'; go_simp; with_reducible rfl); rotate_left; (simp only [sqs_]; rfl); refine pz_ HT_ 11 22 ?_ (lb_ 20 4095) ?_ ?_ ?_ ?_; rotate_left; (intro w'; go_simp; with_reducible rfl); rotate_left; (simp only [sqs_]; rfl); refine pz_ HT_ 12 23 ?_ (lb_ 20 8191) ?_ ?_ ?_ ?_; rotate_left; (intro w'; go_simp; with_reducible rfl); rotate_left; (simp only [sqs_]; rfl); refine pz_ HT_ 15 26 ?_ (lb_ 20 40959) ?_ ?_ ?_ ?_; rotate_left; (intro w'; go_simp; with_reducible rfl); rotate_left; (simp only [sqs_]; rfl); refine tz_ HT_ HW_ 13 24 ?_ (lb_ 20 49151) ?_ hHeld ?_ ?_ ?_; rotate_left; (rintro w' ⟨⟨s0, s2⟩, s1⟩; go_simp; with_reducible rfl); rotate_left; (simp only [sqs_]; rfl); refine one_ (i := 14) (N := some 25) (lb_ 20 65535) rfl rfl (one_of HT_.out (by kernel_rfl)) (by decide) (fun K hK => ?_); refine goes_ Try.func49 (by kernel_rfl) rfl #[] (by rfl) rfl rfl (by (try simp only [List.map_toArray, List.map_cons, List.map_nil]); first | done | rfl | (simp only [List.length_drop, List.length_take]; rfl)) ?_
           with_reducible refine (windhoverref08_highs.calls  t238 _ A12.out).mono ?_
           rintro e w23 ⟨v239, rfl, ho0, hb⟩; have HS1_ := (hb.cell (World.block_lt_of_cell? _ _ (hHeld.2))).trans (hHeld.2); refine ⟨_, rfl, ?_⟩; have n0_ := Aside0.mk (Kd.R_elder' (by (with_reducible repeat (first | apply Kd.R_alloc | apply Kd.R_drewN | apply Kd.R_drew)); exact HO235.out) (Kd.R_base ho0) hb); have n1_ := Aside0.mk (Kd.R_lower (Kd.R_new' ho0 (Kd.R_lt (by (with_reducible repeat (first | apply Kd.R_alloc | apply Kd.R_drewN | apply Kd.R_drew)); exact HO235.out))) (below_size (by repeat (first | (with_reducible first | exact HB.out | apply below_alloc | apply pw_below_drewN | apply below_drew1) | exact HB.out)))); have n2_ := Aside0.mk (below_step (by repeat (first | (with_reducible first | exact HB.out | apply below_alloc | apply pw_below_drewN | apply below_drew1) | exact HB.out)) hb); clear HO235; clear HB; have HO235 := n0_; have HO240 := n1_; have HB := n2_; clear n0_ n1_ n2_; (try clear hb); (try clear hb2); (try clear hk); (try clear hi); (try clear ho0); obtain ⟨Ao24, co24, eo24⟩ := Kd.R_slice HO240.out; (first | subst eo24 | (injection eo24 with f1_ f2_ f3_; have f4_ := f1_.symm; have f5_ := f3_.symm; clear f1_ f2_ f3_; subst f4_; subst f5_)); have p241 : 0 ≤ (x3_1 : Int) := of_decide_eq_true (by with_reducible assumption); have q241 : x3_1 < (t238.length : Int) := of_decide_eq_true (by with_reducible assumption); obtain ⟨ad241, e241, hx241_0⟩ := Kd.at_int (Kd.R_reads' HO240.out).2.2 x3_1 p241 q241; cases e241; replace p241 := eq_true p241; replace q241 := eq_true q241; refine hK.out _ _ ⟨⟨((HB.out.cell (World.block_lt_of_cell? w _ hw232_0)).trans hw232_0), ((HB.out.cell (World.block_lt_of_cell? w _ hw237_0)).trans hw237_0)⟩, HS1_⟩ (fun hHeld => ?_); refine windhoverref08_Check.more_ (S' := fun w' => ((((w'.cell? (ad232.add (x3_1).toNat) = some (.int .i64 (rd l0 x3_1))) ∧ (w'.cell? (ad232.add (x3_1).toNat) = some (.int .i64 (rd l0 x3_1)))) ∧ (w'.cell? (ad236.add (x3_1).toNat) = some (.int .i64 (rd t233 x3_1)))) ∧ (w'.cell? (ad241.add (x3_1).toNat) = some (.int .i64 (rd t238 x3_1))))) (fun _ h_ => h_.1) _ _ _ _ (And.intro hHeld hx241_0) ?_; replace hHeld := And.intro hHeld hx241_0; clear hK K; refine norm_ (a' := ?_) ?_ ?_; rotate_left
           ·show Act.put _ (some 25) _ = _
            simp only [Act.put, List.setIfInBounds_toArray, List.set_cons_zero, List.set_cons_succ, i64_w, i32_w]
            rfl
           refine pz_ HT_ 16 27 ?_ (lb_ 20 131071) ?_ ?_ ?_ ?_; rotate_left; (intro w'; go_simp; with_reducible rfl); rotate_left; (simp only [sqs_]; rfl); refine tz_ HT_ HW_ 17 28 ?_ (lb_ 20 262143) ?_ hHeld ?_ ?_ ?_; rotate_left; (rintro w' ⟨⟨⟨s0, s2⟩, s1⟩, s3⟩; go_simp; with_reducible rfl); rotate_left; (simp only [sqs_]; rfl); refine pz_ HT_ 18 29 ?_ (lb_ 20 524287) ?_ ?_ ?_ ?_; rotate_left; (intro w'; go_simp; with_reducible rfl); rotate_left; (simp only [sqs_]; rfl); refine pz_ HT_ 19 30 ?_ (lb_ 20 1048575) ?_ ?_ ?_ ?_; rotate_left; (intro w'; go_simp; with_reducible rfl); rotate_left; (simp only [sqs_]; rfl); refine done_ (done_of HT_.out (by kernel_rfl)) ?_
           try go_wp2
           go_roundg k1
           case measure => have := HK1.out; omega
           case rel => exact ⟨(wrap64 (x3_1 + 1)), (by first | rfl | (simp; done) | (simp [*]; done)), H', ⟨by have := HK1.out; omega⟩, ⟨by repeat (first | (with_reducible first | exact HB.out | apply below_alloc | apply pw_below_drewN | apply below_drew1) | exact HB.out)⟩⟩
         ·rw [if_neg c13] at H
          exact absurd H (by simp)
       ·rw [if_neg c7] at H
        exact absurd H (by simp)
      ·rw [if_neg c5] at H
       exact absurd H (by simp)
     ·rw [if_neg c4] at H
      exact absurd H (by simp)
    ·rw [if_neg c3] at H
     have c3b0 : decide (x3_1 < 24) = false := decide_eq_false c3; clear c3; replace H := Option.bind_eq_some_iff.mp H; obtain ⟨t231, A250, H⟩ := H; replace H : (if t231 = true then (some 0) else (some 80)) = some r := H; have A25 := Aside0.mk A250; clear A250
     by_cases c26 : t231 = true
     ·subst c26
      have H1 : (some 0) = some r := by rw [if_pos rfl] at H; exact H
      clear H; have H := H1; clear H1; obtain rfl := Option.some.inj H
      go_wp2_with (first | ((with_reducible refine gate_callee (f := 50) rfl ?_); refine goesL_ (some 32) rfl rfl Try.func50 (by kernel_rfl) rfl #[.slice A0 l0.length c0] rfl (by (try simp only [List.map_toArray, List.map_cons, List.map_nil]); first | done | rfl | (simp only [List.length_drop, List.length_take]; rfl)) ?_; (with_reducible refine (windhoverref08_rules.calls _ _ l0 true _ ?side1 ?side2 A25.out).mono ?_); (case side1 => repeat (first | exact (Kd.C_below HR0.out HB.out) | (with_reducible refine Kd.C_alloc ?_ _) | (with_reducible refine Kd.C_drewN ?_ _) | (with_reducible refine Kd.C_drew ?_))); (case side2 => exact HC0.out); rintro e w27 ⟨rfl, hb⟩; refine ⟨_, rfl, ?_⟩; have n0_ := Aside0.mk (below_step (by repeat (first | (with_reducible first | exact HB.out | apply below_alloc | apply pw_below_drewN | apply below_drew1) | exact HB.out)) hb); clear HB; have HB := n0_; clear n0_; (try clear hb); (try clear hb2); (try clear hk); (try clear hi)))
      go_ret
      exact ⟨by first | rfl | (simp [errW_none, errW_some] <;> rfl) | (simp [*, errW_none, errW_some] <;> rfl), by repeat (first | (with_reducible first | exact HB.out | apply below_alloc | apply pw_below_drewN | apply below_drew1) | exact HB.out)⟩
     ·replace c26 := Bool.eq_false_iff.mpr c26
      subst c26; have H1 : (some 80) = some r := by rw [if_neg (show ¬ (false = true) by decide)] at H; exact H
      clear H; have H := H1; clear H1; obtain rfl := Option.some.inj H
      go_wp2_with (first | ((with_reducible refine gate_callee (f := 50) rfl ?_); refine goesL_ (some 32) rfl rfl Try.func50 (by kernel_rfl) rfl #[.slice A0 l0.length c0] rfl (by (try simp only [List.map_toArray, List.map_cons, List.map_nil]); first | done | rfl | (simp only [List.length_drop, List.length_take]; rfl)) ?_; (with_reducible refine (windhoverref08_rules.calls _ _ l0 false _ ?side1 ?side2 A25.out).mono ?_); (case side1 => repeat (first | exact (Kd.C_below HR0.out HB.out) | (with_reducible refine Kd.C_alloc ?_ _) | (with_reducible refine Kd.C_drewN ?_ _) | (with_reducible refine Kd.C_drew ?_))); (case side2 => exact HC0.out); rintro e w28 ⟨rfl, hb⟩; refine ⟨_, rfl, ?_⟩; have n0_ := Aside0.mk (below_step (by repeat (first | (with_reducible first | exact HB.out | apply below_alloc | apply pw_below_drewN | apply below_drew1) | exact HB.out)) hb); clear HB; have HB := n0_; clear n0_; (try clear hb); (try clear hb2); (try clear hk); (try clear hi)))
      go_ret
      exact ⟨by first | rfl | (simp [errW_none, errW_some] <;> rfl) | (simp [*, errW_none, errW_some] <;> rfl), by repeat (first | (with_reducible first | exact HB.out | apply below_alloc | apply pw_below_drewN | apply below_drew1) | exact HB.out)⟩
 ·rw [if_neg c2] at H
  have c2b0 : ((l0.length : Int) == 24) = false := beq_eq_false_iff_ne.mpr c2; have c2b1 : ((l0.length : Int) != 24) = true := bne_iff_ne.mpr c2; obtain rfl := Option.some.inj H; go_enter Try.func34, Try.ntmps34
  go_wp2
  go_ret
  exact ⟨by first | rfl | (simp [errW_none, errW_some] <;> rfl) | (simp [*, errW_none, errW_some] <;> rfl), by repeat (first | (with_reducible first | exact HB.out | apply below_alloc | apply pw_below_drewN | apply below_drew1) | exact HB.out)⟩

/-! ### windhoverref01_Floor: function 51 -/
def windhoverref01_Floor.f (a0 : Int) (a1 : Int) : Option (Int) := if a1 = 0 then (none) else (if (Int.tmod a0 a1) < 0 then (some (wrap64 ((wrap64 (Int.tdiv a0 a1)) - 1))) else (some (wrap64 (Int.tdiv a0 a1))))
set_option maxHeartbeats 8000000 in
set_option maxRecDepth 100000 in
theorem windhoverref01_Floor.calls (a0 : Int) (a1 : Int) (r : Int) (w : World) (h : windhoverref01_Floor.f a0 a1 = some r) :
  Calls Try.prog 51 #[.int .i64 a0, .int .i64 a1] w fun e w' => e = .returned (.int .i64 r) ∧ Drawn0 w w' := by
 have H : (if a1 = 0 then (none) else (if (Int.tmod a0 a1) < 0 then (some (wrap64 ((wrap64 (Int.tdiv a0 a1)) - 1))) else (some (wrap64 (Int.tdiv a0 a1))))) = some r := h; clear h
 by_cases c3 : a1 = 0
 ·rw [if_pos c3] at H
  exact absurd H (by simp)
 ·rw [if_neg c3] at H
  have c3b0 : (a1 == 0) = false := beq_eq_false_iff_ne.mpr c3; have c3b1 : (a1 != 0) = true := bne_iff_ne.mpr c3
  by_cases c4 : (Int.tmod a0 a1) < 0
  ·rw [if_pos c4] at H
   have c4b0 : decide ((Int.tmod a0 a1) < 0) = true := decide_eq_true c4; clear c4; obtain rfl := Option.some.inj H; go_enter Try.func51, Try.ntmps51
   go_wp2
   go_ret
   exact ⟨by first | rfl | (simp; done) | (simp [*]; done), by repeat (first | exact Drawn0.refl _ | apply Drawn0.step)⟩
  ·rw [if_neg c4] at H
   have c4b0 : decide ((Int.tmod a0 a1) < 0) = false := decide_eq_false c4; clear c4; obtain rfl := Option.some.inj H; go_enter Try.func51, Try.ntmps51
   go_wp2
   go_ret
   exact ⟨by first | rfl | (simp; done) | (simp [*]; done), by repeat (first | exact Drawn0.refl _ | apply Drawn0.step)⟩

/-! ### windhoverref08_up: function 35 -/
def windhoverref08_up.f (a0 : Int) (a1 : Int) : Option (Int) := (windhoverref01_Floor.f (wrap64 (-a0)) a1).bind fun t242 => (some (wrap64 (-t242)))
set_option maxHeartbeats 8000000 in
set_option maxRecDepth 100000 in
theorem windhoverref08_up.calls (a0 : Int) (a1 : Int) (r : Int) (w : World) (h : windhoverref08_up.f a0 a1 = some r) :
  Calls Try.prog 35 #[.int .i64 a0, .int .i64 a1] w fun e w' => e = .returned (.int .i64 r) ∧ Drawn0 w w' := by
 have H : ((windhoverref01_Floor.f (wrap64 (-a0)) a1).bind fun t242 => (some (wrap64 (-t242)))) = some r := h; clear h; replace H := Option.bind_eq_some_iff.mp H; obtain ⟨t242, A30, H⟩ := H; replace H : (some (wrap64 (-t242))) = some r := H; have A3 := Aside0.mk A30; clear A30; obtain rfl := Option.some.inj H; go_enter Try.func35, Try.ntmps35
 go_wp2_with (first | ((with_reducible refine gate_callee (f := 51) rfl ?_); refine goesL_ (some 8) rfl rfl Try.func51 (by kernel_rfl) rfl #[.int .i64 (wrap64 (-a0)), .int .i64 a1] rfl (by (try simp only [List.map_toArray, List.map_cons, List.map_nil]); first | done | rfl | (simp only [List.length_drop, List.length_take]; rfl)) ?_; (with_reducible refine (windhoverref01_Floor.calls (wrap64 (-a0)) a1 t242 _ A3.out).mono ?_); rintro e w' ⟨rfl, ⟨nd, rfl⟩⟩; refine ⟨_, rfl, ?_⟩))
 go_ret
 exact ⟨by first | rfl | (simp; done) | (simp [*]; done), by repeat (first | exact Drawn0.refl _ | apply Drawn0.step)⟩

end Go.Proofs.Ytmmlahckcgjofaa.PPowerFollows
