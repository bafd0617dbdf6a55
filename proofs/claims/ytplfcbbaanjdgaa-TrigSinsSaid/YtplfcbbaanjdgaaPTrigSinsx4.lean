-- WRITTEN BY wip/tools/aprint.py of this claim's repository over the kit's words: not typed by hand
import Derived.Test.YtplfcbbaanjdgaaPTrigSinsx0
import Derived.Test.YtplfcbbaanjdgaaPTrigSinsx1
import Derived.Test.YtplfcbbaanjdgaaPTrigSinsx3
namespace Go.Proofs.Ytplfcbbaanjdgaa.PTrigSins
open Go.RowKit Go.Proofs.YtplfcbbaanjdgaaW.PrintWords Go.Proofs.YtplfcbbaanjdgaaW.PrintLast Go.Proofs.YtplfcbbaanjdgaaW.PrintMore
attribute [local go_sem] max2_int min2_int max_two min_two max_three min_three max_four min_four   -- for this text's walks alone
set_option linter.unusedVariables false
set_option linter.unusedSimpArgs false

/-! ### windhoverref02_Cos: function 15 -/
def windhoverref02_Cos.f (k : Nat) (a0 : Int) : Option (Int) := (windhoverref02_Place.f a0).bind fun t134 => ((windhoverref02_Sin.f k (wrap64 (t134 + 16384))).bind fun t135 => (some t135))
theorem windhoverref02_Cos.mono : ∀ a0 k, LeO (windhoverref02_Cos.f k a0) (windhoverref02_Cos.f (k + 1) a0) := by
  intro a0 k
  unfold windhoverref02_Cos.f
  repeat' first
      | (with_reducible exact windhoverref02_Sin.mono _ _)
      | (with_reducible exact LeO.refl _)
      | (with_reducible exact LeO.none _)
      | (with_reducible refine LeO.ite ?_ ?_)
      | (with_reducible refine LeO.bind ?_ (fun _ => ?_))
      | exact windhoverref02_Sin.mono _ _
      | exact LeO.none _
      | refine LeO.ite ?_ ?_
      | refine LeO.bind ?_ (fun _ => ?_)
set_option maxHeartbeats 8000000 in
set_option maxRecDepth 100000 in
theorem windhoverref02_Cos.calls (k : Nat) (a0 : Int) (r : Int) (w : World) (h : windhoverref02_Cos.f k a0 = some r) :
    Calls Try.prog 15 #[.int .i64 a0] w fun e w' => e = .returned (.int .i64 r) ∧ Below w.heap.size w w' := by
  have HB := Aside0.mk (Below.refl w.heap.size w)
  have H : ((windhoverref02_Place.f a0).bind fun t134 => ((windhoverref02_Sin.f k (wrap64 (t134 + 16384))).bind fun t135 => (some t135))) = some r := h
  clear h
  replace H := Option.bind_eq_some_iff.mp H
  obtain ⟨t134, A20, H⟩ := H
  replace H : ((windhoverref02_Sin.f k (wrap64 (t134 + 16384))).bind fun t135 => (some t135)) = some r := H
  have A2 := Aside0.mk A20
  clear A20
  replace H := Option.bind_eq_some_iff.mp H
  obtain ⟨t135, A30, H⟩ := H
  replace H : (some t135) = some r := H
  have A3 := Aside0.mk A30
  clear A30
  obtain rfl := Option.some.inj H
  go_enter Try.func15, Try.ntmps15
  go_wp2_with (first | ((with_reducible refine gate_callee (f := 21) rfl ?_); refine goesL_ (some 4) rfl rfl Try.func21 (by kernel_rfl) rfl #[.int .i64 a0] rfl (by (try simp only [List.map_toArray, List.map_cons, List.map_nil]); first | done | rfl | (simp only [List.length_drop, List.length_take]; rfl)) ?_; (with_reducible refine (windhoverref02_Place.calls a0 t134 _ A2.out).mono ?_); rintro e w' ⟨rfl, ⟨nd, rfl⟩⟩; refine ⟨_, rfl, ?_⟩) | ((with_reducible refine gate_callee (f := 13) rfl ?_); refine goesL_ (some 6) rfl rfl Try.func13 (by kernel_rfl) rfl #[.int .i64 (wrap64 (t134 + 16384))] rfl (by (try simp only [List.map_toArray, List.map_cons, List.map_nil]); first | done | rfl | (simp only [List.length_drop, List.length_take]; rfl)) ?_; (with_reducible refine (windhoverref02_Sin.calls k (wrap64 (t134 + 16384)) t135 _ A3.out).mono ?_); rintro e w4 ⟨rfl, hb⟩; refine ⟨_, rfl, ?_⟩; have n0_ := Aside0.mk (below_step (by repeat (first | (with_reducible first | exact HB.out | apply below_alloc | apply pw_below_drewN | apply below_drew1) | exact HB.out)) hb); clear HB; have HB := n0_; clear n0_; (try clear hb); (try clear hb2); (try clear hk); (try clear hi)))
  go_ret
  exact ⟨by first | rfl | (simp [errW_none, errW_some] <;> rfl) | (simp [*, errW_none, errW_some] <;> rfl), by repeat (first | (with_reducible first | exact HB.out | apply below_alloc | apply pw_below_drewN | apply below_drew1) | exact HB.out)⟩

/-! ### windhoverlaw02_TrigSins: function 3 -/
def windhoverlaw02_TrigSins.f (k : Nat) (a0 : Int) : Option (Bool) := (windhoverlaw02_awake.f k).bind fun t136 => (if t136 = true then ((trig_Sin.f a0).bind fun t137 => ((windhoverref02_Sin.f k a0).bind fun t138 => (if t137 = t138 then ((trig_Cos.f a0).bind fun t139 => ((windhoverref02_Cos.f k a0).bind fun t140 => (some (t139 == t140)))) else (none)))) else (none))
theorem windhoverlaw02_TrigSins.mono : ∀ a0 k, LeO (windhoverlaw02_TrigSins.f k a0) (windhoverlaw02_TrigSins.f (k + 1) a0) := by
  intro a0 k
  unfold windhoverlaw02_TrigSins.f
  repeat' first
      | (with_reducible exact windhoverlaw02_awake.mono _)
      | (with_reducible exact windhoverref02_Cos.mono _ _)
      | (with_reducible exact windhoverref02_Sin.mono _ _)
      | (with_reducible exact LeO.refl _)
      | (with_reducible exact LeO.none _)
      | (with_reducible refine LeO.ite ?_ ?_)
      | (with_reducible refine LeO.bind ?_ (fun _ => ?_))
      | exact windhoverlaw02_awake.mono _
      | exact windhoverref02_Cos.mono _ _
      | exact windhoverref02_Sin.mono _ _
      | exact LeO.none _
      | refine LeO.ite ?_ ?_
      | refine LeO.bind ?_ (fun _ => ?_)
set_option maxHeartbeats 8000000 in
set_option maxRecDepth 100000 in
theorem windhoverlaw02_TrigSins.calls (k : Nat) (a0 : Int) (r : Bool) (w : World) (h : windhoverlaw02_TrigSins.f k a0 = some r) :
    Calls Try.prog 3 #[.int .i64 a0] w fun e w' => e = .returned (.bool r) ∧ Below w.heap.size w w' := by
  have HB := Aside0.mk (Below.refl w.heap.size w)
  have H : ((windhoverlaw02_awake.f k).bind fun t136 => (if t136 = true then ((trig_Sin.f a0).bind fun t137 => ((windhoverref02_Sin.f k a0).bind fun t138 => (if t137 = t138 then ((trig_Cos.f a0).bind fun t139 => ((windhoverref02_Cos.f k a0).bind fun t140 => (some (t139 == t140)))) else (none)))) else (none))) = some r := h
  clear h
  replace H := Option.bind_eq_some_iff.mp H
  obtain ⟨t136, A20, H⟩ := H
  replace H : (if t136 = true then ((trig_Sin.f a0).bind fun t137 => ((windhoverref02_Sin.f k a0).bind fun t138 => (if t137 = t138 then ((trig_Cos.f a0).bind fun t139 => ((windhoverref02_Cos.f k a0).bind fun t140 => (some (t139 == t140)))) else (none)))) else (none)) = some r := H
  have A2 := Aside0.mk A20
  clear A20
  by_cases c3 : t136 = true
  · subst c3
    have H1 : ((trig_Sin.f a0).bind fun t137 => ((windhoverref02_Sin.f k a0).bind fun t138 => (if t137 = t138 then ((trig_Cos.f a0).bind fun t139 => ((windhoverref02_Cos.f k a0).bind fun t140 => (some (t139 == t140)))) else (none)))) = some r := by rw [if_pos rfl] at H; exact H
    clear H
    have H := H1
    clear H1
    replace H := Option.bind_eq_some_iff.mp H
    obtain ⟨t137, A40, H⟩ := H
    replace H : ((windhoverref02_Sin.f k a0).bind fun t138 => (if t137 = t138 then ((trig_Cos.f a0).bind fun t139 => ((windhoverref02_Cos.f k a0).bind fun t140 => (some (t139 == t140)))) else (none))) = some r := H
    have A4 := Aside0.mk A40
    clear A40
    replace H := Option.bind_eq_some_iff.mp H
    obtain ⟨t138, A50, H⟩ := H
    replace H : (if t137 = t138 then ((trig_Cos.f a0).bind fun t139 => ((windhoverref02_Cos.f k a0).bind fun t140 => (some (t139 == t140)))) else (none)) = some r := H
    have A5 := Aside0.mk A50
    clear A50
    by_cases c6 : t137 = t138
    · rw [if_pos c6] at H
      have c6b0 : (t137 == t138) = true := beq_iff_eq.mpr c6
      have c6b1 : (t137 != t138) = false := bne_eq_false_iff_eq.mpr c6
      clear c6
      replace H := Option.bind_eq_some_iff.mp H
      obtain ⟨t139, A70, H⟩ := H
      replace H : ((windhoverref02_Cos.f k a0).bind fun t140 => (some (t139 == t140))) = some r := H
      have A7 := Aside0.mk A70
      clear A70
      replace H := Option.bind_eq_some_iff.mp H
      obtain ⟨t140, A80, H⟩ := H
      replace H : (some (t139 == t140)) = some r := H
      have A8 := Aside0.mk A80
      clear A80
      obtain rfl := Option.some.inj H
      go_enter Try.func3, Try.ntmps3
      go_wp2_with (first | ((with_reducible refine gate_callee (f := 11) rfl ?_); refine goesL_ (some 3) rfl rfl Try.func11 (by kernel_rfl) rfl #[] rfl (by (try simp only [List.map_toArray, List.map_cons, List.map_nil]); first | done | rfl | (simp only [List.length_drop, List.length_take]; rfl)) ?_; (with_reducible refine (windhoverlaw02_awake.calls k  true _ A2.out).mono ?_); rintro e w9 ⟨rfl, hb⟩; refine ⟨_, rfl, ?_⟩; have n0_ := Aside0.mk (below_step (by repeat (first | (with_reducible first | exact HB.out | apply below_alloc | apply pw_below_drewN | apply below_drew1) | exact HB.out)) hb); clear HB; have HB := n0_; clear n0_; (try clear hb); (try clear hb2); (try clear hk); (try clear hi)) | (go_at_call 12; (with_reducible refine (trig_Sin.calls a0 t137 _ A4.out).mono ?_); rintro e w10 ⟨rfl, hb⟩; have n0_ := Aside0.mk (below_step (by repeat (first | (with_reducible first | exact HB.out | apply below_alloc | apply pw_below_drewN | apply below_drew1) | exact HB.out)) hb); clear HB; have HB := n0_; clear n0_; (try clear hb); (try clear hb2); (try clear hk); (try clear hi)) | (go_at_call 13; (with_reducible refine (windhoverref02_Sin.calls k a0 t138 _ A5.out).mono ?_); rintro e w11 ⟨rfl, hb⟩; have n0_ := Aside0.mk (below_step (by repeat (first | (with_reducible first | exact HB.out | apply below_alloc | apply pw_below_drewN | apply below_drew1) | exact HB.out)) hb); clear HB; have HB := n0_; clear n0_; (try clear hb); (try clear hb2); (try clear hk); (try clear hi)) | (go_at_call 14; (with_reducible refine (trig_Cos.calls a0 t139 _ A7.out).mono ?_); rintro e w12 ⟨rfl, hb⟩; have n0_ := Aside0.mk (below_step (by repeat (first | (with_reducible first | exact HB.out | apply below_alloc | apply pw_below_drewN | apply below_drew1) | exact HB.out)) hb); clear HB; have HB := n0_; clear n0_; (try clear hb); (try clear hb2); (try clear hk); (try clear hi)) | (go_at_call 15; (with_reducible refine (windhoverref02_Cos.calls k a0 t140 _ A8.out).mono ?_); rintro e w13 ⟨rfl, hb⟩; have n0_ := Aside0.mk (below_step (by repeat (first | (with_reducible first | exact HB.out | apply below_alloc | apply pw_below_drewN | apply below_drew1) | exact HB.out)) hb); clear HB; have HB := n0_; clear n0_; (try clear hb); (try clear hb2); (try clear hk); (try clear hi)))
      go_ret
      exact ⟨by first | rfl | (simp [errW_none, errW_some] <;> rfl) | (simp [*, errW_none, errW_some] <;> rfl), by repeat (first | (with_reducible first | exact HB.out | apply below_alloc | apply pw_below_drewN | apply below_drew1) | exact HB.out)⟩
    · rw [if_neg c6] at H
      exact absurd H (by simp)
  · replace c3 := Bool.eq_false_iff.mpr c3
    subst c3
    have H1 : (none) = some r := by rw [if_neg (show ¬ (false = true) by decide)] at H; exact H
    clear H
    have H := H1
    clear H1
    exact absurd H (by simp)

/-- THE ONE PURE STATEMENT of windhoverlaw02_TrigSins: yours. -/
def windhoverlaw02_TrigSins.Pure : Prop := ∀ (a0 : Int), (Lit.int .i64 a0).wf = true → ∃ k, windhoverlaw02_TrigSins.f k a0 = some true
theorem windhoverlaw02_TrigSins.walk (P : windhoverlaw02_TrigSins.Pure) (a0 : Int) (w : World) (w0 : (Lit.int .i64 a0).wf = true) :
    Calls Try.prog 3 #[.int .i64 a0] w fun e w' => e = .returned (.bool true) ∧ Below w.heap.size w w' := by
  obtain ⟨k, h⟩ := P a0 w0
  refine (windhoverlaw02_TrigSins.calls k a0 true w h).mono ?_
  rintro e w' ⟨rfl, hd⟩
  exact ⟨rfl, hd⟩

end Go.Proofs.Ytplfcbbaanjdgaa.PTrigSins
