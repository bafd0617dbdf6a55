-- WRITTEN BY wip/tools/aprint.py of this claim's repository over the kit's words: not typed by hand
import Derived.Test.YtaabdnamofmfcaaPParamsTimesx0
import Derived.Test.YtaabdnamofmfcaaPParamsTimesx3
import Derived.Test.YtaabdnamofmfcaaPParamsTimesx8
import Derived.Test.YtaabdnamofmfcaaPParamsTimesx9
namespace Go.Proofs.Ytaabdnamofmfcaa.PParamsTimes
open Go.RowKit Go.Proofs.YtaabdnamofmfcaaW.PrintWords Go.Proofs.YtaabdnamofmfcaaW.PrintLast Go.Proofs.YtaabdnamofmfcaaW.PrintMore
attribute [local go_sem] max2_int min2_int max_two min_two max_three min_three max_four min_four   -- for this text's walks alone
set_option linter.unusedVariables false
set_option linter.unusedSimpArgs false

/-! ### windhoverlaw08_ParamsTimes: function 7 -/
def windhoverlaw08_ParamsTimes.f (k : Nat) (l0 : List Int) (a1 : Int) (a2 : Int) : Option (Bool) := (params_LandTicks.f k l0 a1).bind fun bt411 => ((windhoverref08_LandTicks.f k l0 a1).bind fun bt413 => ((params_ReturnTicks.f k l0 a1 a2).bind fun bt415 => ((windhoverref08_ReturnTicks.f k l0 a1 a2).bind fun bt417 => ((params_Slack.f k l0 a1).bind fun bt419 => ((windhoverref08_Slack.f k l0 a1).bind fun bt421 => (if bt411.1 = bt413.1 then (if bt415.1 = bt417.1 then (if bt419.1 = bt421.1 then (if bt411.2 = bt413.2 then (if bt415.2 = bt417.2 then (if bt419.2 = bt421.2 then ((windhoverlaw08_awake.f k).bind fun t423 => (some t423)) else (none)) else (none)) else (none)) else (none)) else (none)) else (none)))))))
theorem windhoverlaw08_ParamsTimes.mono : ∀ a0 a1 a2 k, LeO (windhoverlaw08_ParamsTimes.f k a0 a1 a2) (windhoverlaw08_ParamsTimes.f (k + 1) a0 a1 a2) := by
  intro a0 a1 a2 k
  unfold windhoverlaw08_ParamsTimes.f
  repeat' first
      | (with_reducible exact params_LandTicks.mono _ _ _)
      | (with_reducible exact params_ReturnTicks.mono _ _ _ _)
      | (with_reducible exact params_Slack.mono _ _ _)
      | (with_reducible exact windhoverlaw08_awake.mono _)
      | (with_reducible exact windhoverref08_LandTicks.mono _ _ _)
      | (with_reducible exact windhoverref08_ReturnTicks.mono _ _ _ _)
      | (with_reducible exact windhoverref08_Slack.mono _ _ _)
      | (with_reducible exact LeO.refl _)
      | (with_reducible exact LeO.none _)
      | (with_reducible refine LeO.ite ?_ ?_)
      | (with_reducible refine LeO.bind ?_ (fun _ => ?_))
      | exact params_LandTicks.mono _ _ _
      | exact params_ReturnTicks.mono _ _ _ _
      | exact params_Slack.mono _ _ _
      | exact windhoverlaw08_awake.mono _
      | exact windhoverref08_LandTicks.mono _ _ _
      | exact windhoverref08_ReturnTicks.mono _ _ _ _
      | exact windhoverref08_Slack.mono _ _ _
      | exact LeO.none _
      | refine LeO.ite ?_ ?_
      | refine LeO.bind ?_ (fun _ => ?_)
set_option maxHeartbeats 8000000 in
set_option maxRecDepth 100000 in
theorem windhoverlaw08_ParamsTimes.calls (k : Nat) (A0 : Option Addr) (c0 : Nat) (l0 : List Int) (a1 : Int) (a2 : Int) (r : Bool) (w : World) (hr0 : Kd.C (Kd.int .i64) w A0 l0.length l0) (hc0 : l0.length ≤ c0) (h : windhoverlaw08_ParamsTimes.f k l0 a1 a2 = some r) :
    Calls Try.prog 7 #[.slice A0 l0.length c0, .int .i64 a1, .int .i64 a2] w fun e w' => e = .returned (.bool r) ∧ Below w.heap.size w w' := by
  have HR0 := Aside0.mk hr0
  have HC0 := Aside0.mk hc0
  clear hr0 hc0
  have HB := Aside0.mk (Below.refl w.heap.size w)
  have H : ((params_LandTicks.f k l0 a1).bind fun bt411 => ((windhoverref08_LandTicks.f k l0 a1).bind fun bt413 => ((params_ReturnTicks.f k l0 a1 a2).bind fun bt415 => ((windhoverref08_ReturnTicks.f k l0 a1 a2).bind fun bt417 => ((params_Slack.f k l0 a1).bind fun bt419 => ((windhoverref08_Slack.f k l0 a1).bind fun bt421 => (if bt411.1 = bt413.1 then (if bt415.1 = bt417.1 then (if bt419.1 = bt421.1 then (if bt411.2 = bt413.2 then (if bt415.2 = bt417.2 then (if bt419.2 = bt421.2 then ((windhoverlaw08_awake.f k).bind fun t423 => (some t423)) else (none)) else (none)) else (none)) else (none)) else (none)) else (none)))))))) = some r := h
  clear h
  replace H := Option.bind_eq_some_iff.mp H
  obtain ⟨⟨t411, t412⟩, A40, H⟩ := H
  replace H : ((windhoverref08_LandTicks.f k l0 a1).bind fun bt413 => ((params_ReturnTicks.f k l0 a1 a2).bind fun bt415 => ((windhoverref08_ReturnTicks.f k l0 a1 a2).bind fun bt417 => ((params_Slack.f k l0 a1).bind fun bt419 => ((windhoverref08_Slack.f k l0 a1).bind fun bt421 => (if t411 = bt413.1 then (if bt415.1 = bt417.1 then (if bt419.1 = bt421.1 then (if t412 = bt413.2 then (if bt415.2 = bt417.2 then (if bt419.2 = bt421.2 then ((windhoverlaw08_awake.f k).bind fun t423 => (some t423)) else (none)) else (none)) else (none)) else (none)) else (none)) else (none))))))) = some r := H
  have A4 := Aside0.mk A40
  clear A40
  replace H := Option.bind_eq_some_iff.mp H
  obtain ⟨⟨t413, t414⟩, A50, H⟩ := H
  replace H : ((params_ReturnTicks.f k l0 a1 a2).bind fun bt415 => ((windhoverref08_ReturnTicks.f k l0 a1 a2).bind fun bt417 => ((params_Slack.f k l0 a1).bind fun bt419 => ((windhoverref08_Slack.f k l0 a1).bind fun bt421 => (if t411 = t413 then (if bt415.1 = bt417.1 then (if bt419.1 = bt421.1 then (if t412 = t414 then (if bt415.2 = bt417.2 then (if bt419.2 = bt421.2 then ((windhoverlaw08_awake.f k).bind fun t423 => (some t423)) else (none)) else (none)) else (none)) else (none)) else (none)) else (none)))))) = some r := H
  have A5 := Aside0.mk A50
  clear A50
  replace H := Option.bind_eq_some_iff.mp H
  obtain ⟨⟨t415, t416⟩, A60, H⟩ := H
  replace H : ((windhoverref08_ReturnTicks.f k l0 a1 a2).bind fun bt417 => ((params_Slack.f k l0 a1).bind fun bt419 => ((windhoverref08_Slack.f k l0 a1).bind fun bt421 => (if t411 = t413 then (if t415 = bt417.1 then (if bt419.1 = bt421.1 then (if t412 = t414 then (if t416 = bt417.2 then (if bt419.2 = bt421.2 then ((windhoverlaw08_awake.f k).bind fun t423 => (some t423)) else (none)) else (none)) else (none)) else (none)) else (none)) else (none))))) = some r := H
  have A6 := Aside0.mk A60
  clear A60
  replace H := Option.bind_eq_some_iff.mp H
  obtain ⟨⟨t417, t418⟩, A70, H⟩ := H
  replace H : ((params_Slack.f k l0 a1).bind fun bt419 => ((windhoverref08_Slack.f k l0 a1).bind fun bt421 => (if t411 = t413 then (if t415 = t417 then (if bt419.1 = bt421.1 then (if t412 = t414 then (if t416 = t418 then (if bt419.2 = bt421.2 then ((windhoverlaw08_awake.f k).bind fun t423 => (some t423)) else (none)) else (none)) else (none)) else (none)) else (none)) else (none)))) = some r := H
  have A7 := Aside0.mk A70
  clear A70
  replace H := Option.bind_eq_some_iff.mp H
  obtain ⟨⟨t419, t420⟩, A80, H⟩ := H
  replace H : ((windhoverref08_Slack.f k l0 a1).bind fun bt421 => (if t411 = t413 then (if t415 = t417 then (if t419 = bt421.1 then (if t412 = t414 then (if t416 = t418 then (if t420 = bt421.2 then ((windhoverlaw08_awake.f k).bind fun t423 => (some t423)) else (none)) else (none)) else (none)) else (none)) else (none)) else (none))) = some r := H
  have A8 := Aside0.mk A80
  clear A80
  replace H := Option.bind_eq_some_iff.mp H
  obtain ⟨⟨t421, t422⟩, A90, H⟩ := H
  replace H : (if t411 = t413 then (if t415 = t417 then (if t419 = t421 then (if t412 = t414 then (if t416 = t418 then (if t420 = t422 then ((windhoverlaw08_awake.f k).bind fun t423 => (some t423)) else (none)) else (none)) else (none)) else (none)) else (none)) else (none)) = some r := H
  have A9 := Aside0.mk A90
  clear A90
  by_cases c10 : t411 = t413
  · rw [if_pos c10] at H
    have c10b0 : (t411 == t413) = true := beq_iff_eq.mpr c10
    have c10b1 : (t411 != t413) = false := bne_eq_false_iff_eq.mpr c10
    clear c10
    by_cases c11 : t415 = t417
    · rw [if_pos c11] at H
      have c11b0 : (t415 == t417) = true := beq_iff_eq.mpr c11
      have c11b1 : (t415 != t417) = false := bne_eq_false_iff_eq.mpr c11
      clear c11
      by_cases c12 : t419 = t421
      · rw [if_pos c12] at H
        have c12b0 : (t419 == t421) = true := beq_iff_eq.mpr c12
        have c12b1 : (t419 != t421) = false := bne_eq_false_iff_eq.mpr c12
        clear c12
        by_cases c13 : t412 = t414
        · rw [if_pos c13] at H
          have c13b0 : (t412 == t414) = true := beq_iff_eq.mpr c13
          have c13b1 : (t412 != t414) = false := bne_eq_false_iff_eq.mpr c13
          clear c13
          by_cases c14 : t416 = t418
          · rw [if_pos c14] at H
            have c14b0 : (t416 == t418) = true := beq_iff_eq.mpr c14
            have c14b1 : (t416 != t418) = false := bne_eq_false_iff_eq.mpr c14
            clear c14
            by_cases c15 : t420 = t422
            · rw [if_pos c15] at H
              have c15b0 : (t420 == t422) = true := beq_iff_eq.mpr c15
              have c15b1 : (t420 != t422) = false := bne_eq_false_iff_eq.mpr c15
              clear c15
              replace H := Option.bind_eq_some_iff.mp H
              obtain ⟨t423, A160, H⟩ := H
              replace H : (some t423) = some r := H
              have A16 := Aside0.mk A160
              clear A160
              obtain rfl := Option.some.inj H
              go_enter Try.func7, Try.ntmps7
              go_wp2_with (first | ((with_reducible refine gate_callee (f := 26) rfl ?_); refine goesL_ (some 22) rfl rfl Try.func26 (by kernel_rfl) rfl #[.slice A0 l0.length c0, .int .i64 a1] rfl (by (try simp only [List.map_toArray, List.map_cons, List.map_nil]); first | done | rfl | (simp only [List.length_drop, List.length_take]; rfl)) ?_; (with_reducible refine (params_LandTicks.calls k _ _ l0 a1 t411 t412 _ ?side1 ?side2 A4.out).mono ?_); (case side1 => repeat (first | exact HR0.out | (with_reducible refine Kd.C_alloc ?_ _) | (with_reducible refine Kd.C_drewN ?_ _) | (with_reducible refine Kd.C_drew ?_))); (case side2 => exact HC0.out); rintro e w17 ⟨rfl, hb⟩; refine ⟨_, rfl, ?_⟩; have n0_ := Aside0.mk (below_step (by repeat (first | (with_reducible first | exact HB.out | apply below_alloc | apply pw_below_drewN | apply below_drew1) | exact HB.out)) hb); clear HB; have HB := n0_; clear n0_; (try clear hb); (try clear hb2); (try clear hk); (try clear hi)) | ((with_reducible refine gate_callee (f := 27) rfl ?_); refine goesL_ (some 28) rfl rfl Try.func27 (by kernel_rfl) rfl #[.slice A0 l0.length c0, .int .i64 a1] rfl (by (try simp only [List.map_toArray, List.map_cons, List.map_nil]); first | done | rfl | (simp only [List.length_drop, List.length_take]; rfl)) ?_; (with_reducible refine (windhoverref08_LandTicks.calls k _ _ l0 a1 t413 t414 _ ?side1 ?side2 A5.out).mono ?_); (case side1 => repeat (first | exact (Kd.C_below HR0.out HB.out) | (with_reducible refine Kd.C_alloc ?_ _) | (with_reducible refine Kd.C_drewN ?_ _) | (with_reducible refine Kd.C_drew ?_))); (case side2 => exact HC0.out); rintro e w18 ⟨rfl, hb⟩; refine ⟨_, rfl, ?_⟩; have n0_ := Aside0.mk (below_step (by repeat (first | (with_reducible first | exact HB.out | apply below_alloc | apply pw_below_drewN | apply below_drew1) | exact HB.out)) hb); clear HB; have HB := n0_; clear n0_; (try clear hb); (try clear hb2); (try clear hk); (try clear hi)) | ((with_reducible refine gate_callee (f := 28) rfl ?_); refine goesL_ (some 35) rfl rfl Try.func28 (by kernel_rfl) rfl #[.slice A0 l0.length c0, .int .i64 a1, .int .i64 a2] rfl (by (try simp only [List.map_toArray, List.map_cons, List.map_nil]); first | done | rfl | (simp only [List.length_drop, List.length_take]; rfl)) ?_; (with_reducible refine (params_ReturnTicks.calls k _ _ l0 a1 a2 t415 t416 _ ?side1 ?side2 A6.out).mono ?_); (case side1 => repeat (first | exact (Kd.C_below HR0.out HB.out) | (with_reducible refine Kd.C_alloc ?_ _) | (with_reducible refine Kd.C_drewN ?_ _) | (with_reducible refine Kd.C_drew ?_))); (case side2 => exact HC0.out); rintro e w19 ⟨rfl, hb⟩; refine ⟨_, rfl, ?_⟩; have n0_ := Aside0.mk (below_step (by repeat (first | (with_reducible first | exact HB.out | apply below_alloc | apply pw_below_drewN | apply below_drew1) | exact HB.out)) hb); clear HB; have HB := n0_; clear n0_; (try clear hb); (try clear hb2); (try clear hk); (try clear hi)) | ((with_reducible refine gate_callee (f := 29) rfl ?_); refine goesL_ (some 42) rfl rfl Try.func29 (by kernel_rfl) rfl #[.slice A0 l0.length c0, .int .i64 a1, .int .i64 a2] rfl (by (try simp only [List.map_toArray, List.map_cons, List.map_nil]); first | done | rfl | (simp only [List.length_drop, List.length_take]; rfl)) ?_; (with_reducible refine (windhoverref08_ReturnTicks.calls k _ _ l0 a1 a2 t417 t418 _ ?side1 ?side2 A7.out).mono ?_); (case side1 => repeat (first | exact (Kd.C_below HR0.out HB.out) | (with_reducible refine Kd.C_alloc ?_ _) | (with_reducible refine Kd.C_drewN ?_ _) | (with_reducible refine Kd.C_drew ?_))); (case side2 => exact HC0.out); rintro e w20 ⟨rfl, hb⟩; refine ⟨_, rfl, ?_⟩; have n0_ := Aside0.mk (below_step (by repeat (first | (with_reducible first | exact HB.out | apply below_alloc | apply pw_below_drewN | apply below_drew1) | exact HB.out)) hb); clear HB; have HB := n0_; clear n0_; (try clear hb); (try clear hb2); (try clear hk); (try clear hi)) | ((with_reducible refine gate_callee (f := 30) rfl ?_); refine goesL_ (some 48) rfl rfl Try.func30 (by kernel_rfl) rfl #[.slice A0 l0.length c0, .int .i64 a1] rfl (by (try simp only [List.map_toArray, List.map_cons, List.map_nil]); first | done | rfl | (simp only [List.length_drop, List.length_take]; rfl)) ?_; (with_reducible refine (params_Slack.calls k _ _ l0 a1 t419 t420 _ ?side1 ?side2 A8.out).mono ?_); (case side1 => repeat (first | exact (Kd.C_below HR0.out HB.out) | (with_reducible refine Kd.C_alloc ?_ _) | (with_reducible refine Kd.C_drewN ?_ _) | (with_reducible refine Kd.C_drew ?_))); (case side2 => exact HC0.out); rintro e w21 ⟨rfl, hb⟩; refine ⟨_, rfl, ?_⟩; have n0_ := Aside0.mk (below_step (by repeat (first | (with_reducible first | exact HB.out | apply below_alloc | apply pw_below_drewN | apply below_drew1) | exact HB.out)) hb); clear HB; have HB := n0_; clear n0_; (try clear hb); (try clear hb2); (try clear hk); (try clear hi)) | ((with_reducible refine gate_callee (f := 31) rfl ?_); refine goesL_ (some 54) rfl rfl Try.func31 (by kernel_rfl) rfl #[.slice A0 l0.length c0, .int .i64 a1] rfl (by (try simp only [List.map_toArray, List.map_cons, List.map_nil]); first | done | rfl | (simp only [List.length_drop, List.length_take]; rfl)) ?_; (with_reducible refine (windhoverref08_Slack.calls k _ _ l0 a1 t421 t422 _ ?side1 ?side2 A9.out).mono ?_); (case side1 => repeat (first | exact (Kd.C_below HR0.out HB.out) | (with_reducible refine Kd.C_alloc ?_ _) | (with_reducible refine Kd.C_drewN ?_ _) | (with_reducible refine Kd.C_drew ?_))); (case side2 => exact HC0.out); rintro e w22 ⟨rfl, hb⟩; refine ⟨_, rfl, ?_⟩; have n0_ := Aside0.mk (below_step (by repeat (first | (with_reducible first | exact HB.out | apply below_alloc | apply pw_below_drewN | apply below_drew1) | exact HB.out)) hb); clear HB; have HB := n0_; clear n0_; (try clear hb); (try clear hb2); (try clear hk); (try clear hi)) | (go_at_call 15; (with_reducible refine (windhoverlaw08_awake.calls k  t423 _ A16.out).mono ?_); rintro e w23 ⟨rfl, hb⟩; have n0_ := Aside0.mk (below_step (by repeat (first | (with_reducible first | exact HB.out | apply below_alloc | apply pw_below_drewN | apply below_drew1) | exact HB.out)) hb); clear HB; have HB := n0_; clear n0_; (try clear hb); (try clear hb2); (try clear hk); (try clear hi)))
              go_ret
              exact ⟨by first | rfl | (simp [errW_none, errW_some] <;> rfl) | (simp [*, errW_none, errW_some] <;> rfl), by repeat (first | (with_reducible first | exact HB.out | apply below_alloc | apply pw_below_drewN | apply below_drew1) | exact HB.out)⟩
            · rw [if_neg c15] at H
              exact absurd H (by simp)
          · rw [if_neg c14] at H
            exact absurd H (by simp)
        · rw [if_neg c13] at H
          exact absurd H (by simp)
      · rw [if_neg c12] at H
        exact absurd H (by simp)
    · rw [if_neg c11] at H
      exact absurd H (by simp)
  · rw [if_neg c10] at H
    exact absurd H (by simp)

/-- THE ONE PURE STATEMENT of windhoverlaw08_ParamsTimes: yours. -/
def windhoverlaw08_ParamsTimes.Pure : Prop := ∀ (l0 : List Int) (a1 : Int) (a2 : Int), l0.length ≤ maxLen → l0.length * 8 ≤ 140737488351232 → (∀ x ∈ l0, (Lit.int .i64 x).wf = true) → (Lit.int .i64 a1).wf = true → (Lit.int .i64 a2).wf = true → ∃ k, windhoverlaw08_ParamsTimes.f k l0 a1 a2 = some true
theorem windhoverlaw08_ParamsTimes.walk (P : windhoverlaw08_ParamsTimes.Pure) (a0 : Option Addr) (len0 cap0 : Nat) (z0 : List Int) (a1 : Int) (a2 : Int) (w : World) (w0 : (a0 = none ∧ len0 = 0 ∧ cap0 = 0 ∧ z0 = []) ∨ ∃ x, a0 = some x ∧ len0 ≤ cap0 ∧ cap0 ≤ maxLen ∧ z0.length = cap0 ∧ (∀ i, i < z0.length → w.cell? (x.add i) = some (.int .i64 (z0.getD i 0))) ∧ ∀ n ∈ z0, (Lit.int .i64 n).wf = true) (y0 : len0 * 8 ≤ 140737488351232) (w1 : (Lit.int .i64 a1).wf = true) (w2 : (Lit.int .i64 a2).wf = true) :
    Calls Try.prog 7 #[.slice a0 len0 cap0, .int .i64 a1, .int .i64 a2] w fun e w' => e = .returned (.bool true) ∧ Below w.heap.size w w' := by
  obtain ⟨l0, rfl, hr0, hm0, hw0, hc0⟩ := ReadsInt.ofRowC w0
  obtain ⟨k, h⟩ := P l0 a1 a2 hm0 y0 hw0 w1 w2
  refine (windhoverlaw08_ParamsTimes.calls k _ _ l0 a1 a2 true w (Kd.C_of_reads (d := (0 : Int)) (h1 := fun _ => rfl) hr0) hc0 h).mono ?_
  rintro e w' ⟨rfl, hd⟩
  exact ⟨rfl, hd⟩

end Go.Proofs.Ytaabdnamofmfcaa.PParamsTimes
