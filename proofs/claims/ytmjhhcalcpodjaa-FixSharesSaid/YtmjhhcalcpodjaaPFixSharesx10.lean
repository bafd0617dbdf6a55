-- WRITTEN BY wip/tools/aprint.py of this claim's repository over the kit's words: not typed by hand
import Derived.Test.YtmjhhcalcpodjaaPFixSharesx0
import Derived.Test.YtmjhhcalcpodjaaPFixSharesx5
import Derived.Test.YtmjhhcalcpodjaaPFixSharesx6
import Derived.Test.YtmjhhcalcpodjaaPFixSharesx8
import Derived.Test.YtmjhhcalcpodjaaPFixSharesx9
namespace Go.Proofs.Ytmjhhcalcpodjaa.PFixShares
open Go.RowKit Go.Proofs.YtmjhhcalcpodjaaW.PrintWords Go.Proofs.YtmjhhcalcpodjaaW.PrintLast Go.Proofs.YtmjhhcalcpodjaaW.PrintMore
attribute [local go_sem] max2_int min2_int max_two min_two max_three min_three max_four min_four   -- for this text's walks alone
set_option linter.unusedVariables false
set_option linter.unusedSimpArgs false

/-! ### windhoverref01_MulDiv: function 24 -/
def windhoverref01_MulDiv.f (k : Nat) (a0 : Int) (a1 : Int) (a2 : Int) : Option (Int × Int) := if a2 = 0 then (some (0, 1)) else ((windhoverref00_Of.f k a0).bind fun bt366 => ((windhoverref00_Of.f k a1).bind fun bt370 => ((windhoverref00_Times.f k bt366.1 bt366.2 bt370.1 bt370.2).bind fun bt374 => ((windhoverref00_Of.f k a2).bind fun bt379 => (if a2 < 0 then ((windhoverref00_Of.f k 0).bind fun bt384 => ((windhoverref00_Minus.f k bt384.1 bt384.2 bt374.1 bt374.2).bind fun bt388 => ((windhoverref00_Of.f k 0).bind fun bt392 => ((windhoverref00_Minus.f k bt392.1 bt392.2 bt379.1 bt379.2).bind fun bt396 => ((windhoverref01_over.f k bt388.1 bt388.2 bt396.1 bt396.2).bind fun t400 => (some (t400, 0))))))) else ((windhoverref01_over.f k bt374.1 bt374.2 bt379.1 bt379.2).bind fun t401 => (some (t401, 0))))))))
theorem windhoverref01_MulDiv.mono : ∀ a0 a1 a2 k, LeO (windhoverref01_MulDiv.f k a0 a1 a2) (windhoverref01_MulDiv.f (k + 1) a0 a1 a2) := by
  intro a0 a1 a2 k
  unfold windhoverref01_MulDiv.f
  repeat' first
      | (with_reducible exact windhoverref00_Minus.mono _ _ _ _ _)
      | (with_reducible exact windhoverref00_Of.mono _ _)
      | (with_reducible exact windhoverref00_Times.mono _ _ _ _ _)
      | (with_reducible exact windhoverref01_over.mono _ _ _ _ _)
      | (with_reducible exact LeO.refl _)
      | (with_reducible exact LeO.none _)
      | (with_reducible refine LeO.ite ?_ ?_)
      | (with_reducible refine LeO.bind ?_ (fun _ => ?_))
      | exact windhoverref00_Minus.mono _ _ _ _ _
      | exact windhoverref00_Of.mono _ _
      | exact windhoverref00_Times.mono _ _ _ _ _
      | exact windhoverref01_over.mono _ _ _ _ _
      | exact LeO.none _
      | refine LeO.ite ?_ ?_
      | refine LeO.bind ?_ (fun _ => ?_)
set_option maxHeartbeats 8000000 in
set_option maxRecDepth 100000 in
theorem windhoverref01_MulDiv.calls (k : Nat) (a0 : Int) (a1 : Int) (a2 : Int) (r1 : Int) (r2 : Int) (w : World) (h : windhoverref01_MulDiv.f k a0 a1 a2 = some (r1, r2)) :
    Calls Try.prog 24 #[.int .i64 a0, .int .i64 a1, .int .i64 a2] w fun e w' => e = .returned (.tuple #[.int .i64 r1, .int .i64 r2]) ∧ Below w.heap.size w w' := by
  have hu30 := Try.underlying30
  have HB := Aside0.mk (Below.refl w.heap.size w)
  have H : (if a2 = 0 then (some (0, 1)) else ((windhoverref00_Of.f k a0).bind fun bt366 => ((windhoverref00_Of.f k a1).bind fun bt370 => ((windhoverref00_Times.f k bt366.1 bt366.2 bt370.1 bt370.2).bind fun bt374 => ((windhoverref00_Of.f k a2).bind fun bt379 => (if a2 < 0 then ((windhoverref00_Of.f k 0).bind fun bt384 => ((windhoverref00_Minus.f k bt384.1 bt384.2 bt374.1 bt374.2).bind fun bt388 => ((windhoverref00_Of.f k 0).bind fun bt392 => ((windhoverref00_Minus.f k bt392.1 bt392.2 bt379.1 bt379.2).bind fun bt396 => ((windhoverref01_over.f k bt388.1 bt388.2 bt396.1 bt396.2).bind fun t400 => (some (t400, 0))))))) else ((windhoverref01_over.f k bt374.1 bt374.2 bt379.1 bt379.2).bind fun t401 => (some (t401, 0))))))))) = some (r1, r2) := h
  clear h
  by_cases c4 : a2 = 0
  · rw [if_pos c4] at H
    have c4b0 : (a2 == 0) = true := beq_iff_eq.mpr c4
    have c4b1 : (a2 != 0) = false := bne_eq_false_iff_eq.mpr c4
    clear c4
    simp only [Option.some.injEq, Prod.mk.injEq] at H
    obtain ⟨rfl, rfl⟩ := H
    go_enter Try.func24, Try.ntmps24
    go_wp2
    go_ret2
    exact ⟨by first | rfl | (simp [errW_none, errW_some] <;> rfl) | (simp [*, errW_none, errW_some] <;> rfl), by repeat (first | (with_reducible first | exact HB.out | apply below_alloc | apply pw_below_drewN | apply below_drew1) | exact HB.out)⟩
  · rw [if_neg c4] at H
    have c4b0 : (a2 == 0) = false := beq_eq_false_iff_ne.mpr c4
    have c4b1 : (a2 != 0) = true := bne_iff_ne.mpr c4
    replace H := Option.bind_eq_some_iff.mp H
    obtain ⟨⟨t366, t367⟩, A50, H⟩ := H
    replace H : ((windhoverref00_Of.f k a1).bind fun bt370 => ((windhoverref00_Times.f k t366 t367 bt370.1 bt370.2).bind fun bt374 => ((windhoverref00_Of.f k a2).bind fun bt379 => (if a2 < 0 then ((windhoverref00_Of.f k 0).bind fun bt384 => ((windhoverref00_Minus.f k bt384.1 bt384.2 bt374.1 bt374.2).bind fun bt388 => ((windhoverref00_Of.f k 0).bind fun bt392 => ((windhoverref00_Minus.f k bt392.1 bt392.2 bt379.1 bt379.2).bind fun bt396 => ((windhoverref01_over.f k bt388.1 bt388.2 bt396.1 bt396.2).bind fun t400 => (some (t400, 0))))))) else ((windhoverref01_over.f k bt374.1 bt374.2 bt379.1 bt379.2).bind fun t401 => (some (t401, 0))))))) = some (r1, r2) := H
    have A5 := Aside0.mk A50
    clear A50
    replace H := Option.bind_eq_some_iff.mp H
    obtain ⟨⟨t370, t371⟩, A60, H⟩ := H
    replace H : ((windhoverref00_Times.f k t366 t367 t370 t371).bind fun bt374 => ((windhoverref00_Of.f k a2).bind fun bt379 => (if a2 < 0 then ((windhoverref00_Of.f k 0).bind fun bt384 => ((windhoverref00_Minus.f k bt384.1 bt384.2 bt374.1 bt374.2).bind fun bt388 => ((windhoverref00_Of.f k 0).bind fun bt392 => ((windhoverref00_Minus.f k bt392.1 bt392.2 bt379.1 bt379.2).bind fun bt396 => ((windhoverref01_over.f k bt388.1 bt388.2 bt396.1 bt396.2).bind fun t400 => (some (t400, 0))))))) else ((windhoverref01_over.f k bt374.1 bt374.2 bt379.1 bt379.2).bind fun t401 => (some (t401, 0)))))) = some (r1, r2) := H
    have A6 := Aside0.mk A60
    clear A60
    replace H := Option.bind_eq_some_iff.mp H
    obtain ⟨⟨t374, t375⟩, A70, H⟩ := H
    replace H : ((windhoverref00_Of.f k a2).bind fun bt379 => (if a2 < 0 then ((windhoverref00_Of.f k 0).bind fun bt384 => ((windhoverref00_Minus.f k bt384.1 bt384.2 t374 t375).bind fun bt388 => ((windhoverref00_Of.f k 0).bind fun bt392 => ((windhoverref00_Minus.f k bt392.1 bt392.2 bt379.1 bt379.2).bind fun bt396 => ((windhoverref01_over.f k bt388.1 bt388.2 bt396.1 bt396.2).bind fun t400 => (some (t400, 0))))))) else ((windhoverref01_over.f k t374 t375 bt379.1 bt379.2).bind fun t401 => (some (t401, 0))))) = some (r1, r2) := H
    have A7 := Aside0.mk A70
    clear A70
    replace H := Option.bind_eq_some_iff.mp H
    obtain ⟨⟨t379, t380⟩, A80, H⟩ := H
    replace H : (if a2 < 0 then ((windhoverref00_Of.f k 0).bind fun bt384 => ((windhoverref00_Minus.f k bt384.1 bt384.2 t374 t375).bind fun bt388 => ((windhoverref00_Of.f k 0).bind fun bt392 => ((windhoverref00_Minus.f k bt392.1 bt392.2 t379 t380).bind fun bt396 => ((windhoverref01_over.f k bt388.1 bt388.2 bt396.1 bt396.2).bind fun t400 => (some (t400, 0))))))) else ((windhoverref01_over.f k t374 t375 t379 t380).bind fun t401 => (some (t401, 0)))) = some (r1, r2) := H
    have A8 := Aside0.mk A80
    clear A80
    by_cases c9 : a2 < 0
    · rw [if_pos c9] at H
      have c9b0 : decide (a2 < 0) = true := decide_eq_true c9
      clear c9
      replace H := Option.bind_eq_some_iff.mp H
      obtain ⟨⟨t384, t385⟩, A100, H⟩ := H
      replace H : ((windhoverref00_Minus.f k t384 t385 t374 t375).bind fun bt388 => ((windhoverref00_Of.f k 0).bind fun bt392 => ((windhoverref00_Minus.f k bt392.1 bt392.2 t379 t380).bind fun bt396 => ((windhoverref01_over.f k bt388.1 bt388.2 bt396.1 bt396.2).bind fun t400 => (some (t400, 0)))))) = some (r1, r2) := H
      have A10 := Aside0.mk A100
      clear A100
      replace H := Option.bind_eq_some_iff.mp H
      obtain ⟨⟨t388, t389⟩, A110, H⟩ := H
      replace H : ((windhoverref00_Of.f k 0).bind fun bt392 => ((windhoverref00_Minus.f k bt392.1 bt392.2 t379 t380).bind fun bt396 => ((windhoverref01_over.f k t388 t389 bt396.1 bt396.2).bind fun t400 => (some (t400, 0))))) = some (r1, r2) := H
      have A11 := Aside0.mk A110
      clear A110
      replace H := Option.bind_eq_some_iff.mp H
      obtain ⟨⟨t392, t393⟩, A120, H⟩ := H
      replace H : ((windhoverref00_Minus.f k t392 t393 t379 t380).bind fun bt396 => ((windhoverref01_over.f k t388 t389 bt396.1 bt396.2).bind fun t400 => (some (t400, 0)))) = some (r1, r2) := H
      have A12 := Aside0.mk A120
      clear A120
      replace H := Option.bind_eq_some_iff.mp H
      obtain ⟨⟨t396, t397⟩, A130, H⟩ := H
      replace H : ((windhoverref01_over.f k t388 t389 t396 t397).bind fun t400 => (some (t400, 0))) = some (r1, r2) := H
      have A13 := Aside0.mk A130
      clear A130
      replace H := Option.bind_eq_some_iff.mp H
      obtain ⟨t400, A140, H⟩ := H
      replace H : (some (t400, 0)) = some (r1, r2) := H
      have A14 := Aside0.mk A140
      clear A140
      simp only [Option.some.injEq, Prod.mk.injEq] at H
      obtain ⟨rfl, rfl⟩ := H
      go_enter Try.func24, Try.ntmps24
      try go_wp2_with (first | ((with_reducible refine gate_callee (f := 21) rfl ?_); refine goesL_ (some 13) rfl rfl Try.func21 (by kernel_rfl) rfl #[.int .i64 a0] rfl (by (try simp only [List.map_toArray, List.map_cons, List.map_nil]); first | done | rfl | (simp only [List.length_drop, List.length_take]; rfl)) ?_; (with_reducible refine (windhoverref00_Of.calls k a0 t366 t367 _ A5.out).mono ?_); rintro e w15 ⟨v368, rfl, ho0, hb⟩; refine ⟨_, rfl, ?_⟩; have n0_ := Aside0.mk (Kd.R_lower ho0 (below_size (by repeat (first | (with_reducible first | exact HB.out | apply below_alloc | apply pw_below_drewN | apply below_drew1) | exact HB.out)))); have n1_ := Aside0.mk (below_step (by repeat (first | (with_reducible first | exact HB.out | apply below_alloc | apply pw_below_drewN | apply below_drew1) | exact HB.out)) hb); clear HB; have HO369 := n0_; have HB := n1_; clear n0_ n1_; (try clear hb); (try clear hb2); (try clear hk); (try clear hi); (try clear ho0)) | ((with_reducible refine gate_callee (f := 21) rfl ?_); refine goesL_ (some 15) rfl rfl Try.func21 (by kernel_rfl) rfl #[.int .i64 a1] rfl (by (try simp only [List.map_toArray, List.map_cons, List.map_nil]); first | done | rfl | (simp only [List.length_drop, List.length_take]; rfl)) ?_; (with_reducible refine (windhoverref00_Of.calls k a1 t370 t371 _ A6.out).mono ?_); rintro e w16 ⟨v372, rfl, ho0, hb⟩; refine ⟨_, rfl, ?_⟩; have n0_ := Aside0.mk (Kd.R_elder' (by (with_reducible repeat (first | apply Kd.R_alloc | apply Kd.R_drewN | apply Kd.R_drew)); exact HO369.out) (Kd.R_base ho0) hb); have n1_ := Aside0.mk (Kd.R_lower (Kd.R_new' ho0 (Kd.R_lt (by (with_reducible repeat (first | apply Kd.R_alloc | apply Kd.R_drewN | apply Kd.R_drew)); exact HO369.out))) (below_size (by repeat (first | (with_reducible first | exact HB.out | apply below_alloc | apply pw_below_drewN | apply below_drew1) | exact HB.out)))); have n2_ := Aside0.mk (below_step (by repeat (first | (with_reducible first | exact HB.out | apply below_alloc | apply pw_below_drewN | apply below_drew1) | exact HB.out)) hb); clear HO369; clear HB; have HO369 := n0_; have HO373 := n1_; have HB := n2_; clear n0_ n1_ n2_; (try clear hb); (try clear hb2); (try clear hk); (try clear hi); (try clear ho0); obtain ⟨Ao17, co17, eo17⟩ := Kd.R_slice HO369.out; subst eo17; obtain ⟨Ao18, co18, eo18⟩ := Kd.R_slice HO373.out; subst eo18) | ((with_reducible refine gate_callee (f := 20) rfl ?_); refine goesL_ (some 16) rfl rfl Try.func20 (by kernel_rfl) rfl #[.agg #[.bool t366, .slice Ao17 t367.length co17], .agg #[.bool t370, .slice Ao18 t371.length co18]] rfl (by (try simp only [List.map_toArray, List.map_cons, List.map_nil]); first | done | rfl | (simp only [List.length_drop, List.length_take]; rfl)) ?_; (with_reducible refine (windhoverref00_Times.calls k t366 _ _ t367 t370 _ _ t371 t374 t375 _ ?side1 ?side2 ?side3 ?side4 A7.out).mono ?_); (case side1 => repeat (first | exact (Kd.R_reads' HO369.out).2.2 | (with_reducible refine Kd.C_alloc ?_ _) | (with_reducible refine Kd.C_drewN ?_ _) | (with_reducible refine Kd.C_drew ?_))); (case side2 => exact (Kd.R_reads' HO369.out).2.1); (case side3 => repeat (first | exact (Kd.R_reads' HO373.out).2.2 | (with_reducible refine Kd.C_alloc ?_ _) | (with_reducible refine Kd.C_drewN ?_ _) | (with_reducible refine Kd.C_drew ?_))); (case side4 => exact (Kd.R_reads' HO373.out).2.1); rintro e w19 ⟨v376, rfl, ho0, hb⟩; refine ⟨_, rfl, ?_⟩; have n0_ := Aside0.mk (Kd.R_elder' (by (with_reducible repeat (first | apply Kd.R_alloc | apply Kd.R_drewN | apply Kd.R_drew)); exact HO369.out) (Kd.R_base ho0) hb); have n1_ := Aside0.mk (Kd.R_elder' (by (with_reducible repeat (first | apply Kd.R_alloc | apply Kd.R_drewN | apply Kd.R_drew)); exact HO373.out) (Kd.R_base ho0) hb); have n2_ := Aside0.mk (Kd.R_lower (Kd.R_new' (Kd.R_new' ho0 (Kd.R_lt (by (with_reducible repeat (first | apply Kd.R_alloc | apply Kd.R_drewN | apply Kd.R_drew)); exact HO369.out))) (Kd.R_lt (by (with_reducible repeat (first | apply Kd.R_alloc | apply Kd.R_drewN | apply Kd.R_drew)); exact HO373.out))) (below_size (by repeat (first | (with_reducible first | exact HB.out | apply below_alloc | apply pw_below_drewN | apply below_drew1) | exact HB.out)))); have n3_ := Aside0.mk (below_step (by repeat (first | (with_reducible first | exact HB.out | apply below_alloc | apply pw_below_drewN | apply below_drew1) | exact HB.out)) hb); clear HO369; clear HO373; clear HB; have HO369 := n0_; have HO373 := n1_; have HO377 := n2_; have HB := n3_; clear n0_ n1_ n2_ n3_; (try clear hb); (try clear hb2); (try clear hk); (try clear hi); (try clear ho0)) | ((with_reducible refine gate_dst (N := 8) rfl ?_); refine box_event ?hg (N := 8) ?hd (cs := #[.bool false, .slice none 0 0]) (t := 30) ?hr ?_; (case hd => rfl); (case hg => rfl); (case hr => first | (go_simp; done) | (go_simp; rfl)); intro gb378 hg w20 hbox hb; have n0_ := Aside0.mk (Kd.R_below (by (with_reducible repeat (first | apply Kd.R_alloc | apply Kd.R_drewN | apply Kd.R_drew)); exact HO369.out) hb); have n1_ := Aside0.mk (Kd.R_below (by (with_reducible repeat (first | apply Kd.R_alloc | apply Kd.R_drewN | apply Kd.R_drew)); exact HO373.out) hb); have n2_ := Aside0.mk (Kd.R_below (by (with_reducible repeat (first | apply Kd.R_alloc | apply Kd.R_drewN | apply Kd.R_drew)); exact HO377.out) hb); have n3_ := Aside0.mk (below_step (by repeat (first | (with_reducible first | exact HB.out | apply below_alloc | apply pw_below_drewN | apply below_drew1) | exact HB.out)) hb); have n4_ := Aside0.mk (hbox); have n5_ := Aside0.mk ((by rw [hg]; exact (below_size (by repeat (first | (with_reducible first | exact HB.out | apply below_alloc | apply pw_below_drewN | apply below_drew1) | exact HB.out))) : w.heap.size ≤ gb378)); have n6_ := Aside0.mk ((by rw [hg]; exact (below_size (by repeat (first | (with_reducible first | exact HB.out | apply below_alloc | apply pw_below_drewN | apply below_drew1) | exact HB.out))) : w.heap.size ≤ gb378)); clear HO369; clear HO373; clear HO377; clear HB; have HO369 := n0_; have HO373 := n1_; have HO377 := n2_; have HB := n3_; have BK378 := n4_; have GW378 := n5_; have GE378 := n6_; clear n0_ n1_ n2_ n3_ n4_ n5_ n6_; clear hb hbox hg; have hcz21_0 := blk_cells2 (w := w20) (g := gb378) BK378.out; have hfz21_0 := blk_frozen BK378.out; obtain ⟨Ao22, co22, eo22⟩ := Kd.R_slice HO377.out; subst eo22) | ((with_reducible refine gate_callee (f := 21) rfl ?_); refine goesL_ (some 18) rfl rfl Try.func21 (by kernel_rfl) rfl #[.int .i64 a2] rfl (by (try simp only [List.map_toArray, List.map_cons, List.map_nil]); first | done | rfl | (simp only [List.length_drop, List.length_take]; rfl)) ?_; (with_reducible refine (windhoverref00_Of.calls k a2 t379 t380 _ A8.out).mono ?_); rintro e w23 ⟨v381, rfl, ho0, hb⟩; refine ⟨_, rfl, ?_⟩; have n0_ := Aside0.mk (Kd.R_elder' (by (with_reducible repeat (first | apply Kd.R_alloc | apply Kd.R_drewN | apply Kd.R_drew)); exact (Kd.R_mono (Kd.R_far (p := ⟨gb378, 1, none⟩) (Kd.R_far (p := ⟨gb378, 0, none⟩) (Kd.R_types HO369.out BK378.out (by decide)) (fun _ hk => hk.2) (.bool t374)) (fun _ hk => hk.2) (.slice Ao22 t375.length co22)) (fun _ h_ => h_.1))) (Kd.R_base ho0) hb); have n1_ := Aside0.mk (Kd.R_elder' (by (with_reducible repeat (first | apply Kd.R_alloc | apply Kd.R_drewN | apply Kd.R_drew)); exact (Kd.R_mono (Kd.R_far (p := ⟨gb378, 1, none⟩) (Kd.R_far (p := ⟨gb378, 0, none⟩) (Kd.R_types HO373.out BK378.out (by decide)) (fun _ hk => hk.2) (.bool t374)) (fun _ hk => hk.2) (.slice Ao22 t375.length co22)) (fun _ h_ => h_.1))) (Kd.R_base ho0) hb); have n2_ := Aside0.mk (Kd.R_elder' (by (with_reducible repeat (first | apply Kd.R_alloc | apply Kd.R_drewN | apply Kd.R_drew)); exact (Kd.R_mono (Kd.R_far (p := ⟨gb378, 1, none⟩) (Kd.R_far (p := ⟨gb378, 0, none⟩) (Kd.R_types HO377.out BK378.out (by decide)) (fun _ hk => hk.2) (.bool t374)) (fun _ hk => hk.2) (.slice Ao22 t375.length co22)) (fun _ h_ => h_.1))) (Kd.R_base ho0) hb); have n3_ := Aside0.mk (Kd.R_lower (Kd.R_new' (Kd.R_new' (Kd.R_new' ho0 (Kd.R_lt (by (with_reducible repeat (first | apply Kd.R_alloc | apply Kd.R_drewN | apply Kd.R_drew)); exact (Kd.R_mono (Kd.R_far (p := ⟨gb378, 1, none⟩) (Kd.R_far (p := ⟨gb378, 0, none⟩) (Kd.R_types HO369.out BK378.out (by decide)) (fun _ hk => hk.2) (.bool t374)) (fun _ hk => hk.2) (.slice Ao22 t375.length co22)) (fun _ h_ => h_.1))))) (Kd.R_lt (by (with_reducible repeat (first | apply Kd.R_alloc | apply Kd.R_drewN | apply Kd.R_drew)); exact (Kd.R_mono (Kd.R_far (p := ⟨gb378, 1, none⟩) (Kd.R_far (p := ⟨gb378, 0, none⟩) (Kd.R_types HO373.out BK378.out (by decide)) (fun _ hk => hk.2) (.bool t374)) (fun _ hk => hk.2) (.slice Ao22 t375.length co22)) (fun _ h_ => h_.1))))) (Kd.R_lt (by (with_reducible repeat (first | apply Kd.R_alloc | apply Kd.R_drewN | apply Kd.R_drew)); exact (Kd.R_mono (Kd.R_far (p := ⟨gb378, 1, none⟩) (Kd.R_far (p := ⟨gb378, 0, none⟩) (Kd.R_types HO377.out BK378.out (by decide)) (fun _ hk => hk.2) (.bool t374)) (fun _ hk => hk.2) (.slice Ao22 t375.length co22)) (fun _ h_ => h_.1))))) (below_size (by repeat (first | (with_reducible first | exact HB.out | apply below_alloc | apply pw_below_drewN | apply below_drew1 | refine below_set ?_ GE378.out) | exact HB.out)))); have n4_ := Aside0.mk (blk_below (g := gb378) (o := .cells #[.bool t374, .slice Ao22 t375.length co22] 30 (0, 0)) (by (with_reducible repeat (first | refine blk_drewN ?_ _ | refine blk_drew ?_ | refine blk_alloc ?_ _)); refine blk_put (cs := #[.bool t374, .slice none 0 0]) ?_ 1 _ rfl; (with_reducible repeat (first | refine blk_drewN ?_ _ | refine blk_drew ?_ | refine blk_alloc ?_ _)); refine blk_put (cs := #[.bool false, .slice none 0 0]) ?_ 0 _ rfl; (with_reducible repeat (first | refine blk_drewN ?_ _ | refine blk_drew ?_ | refine blk_alloc ?_ _)); exact BK378.out) hb); have n5_ := Aside0.mk (below_step (by repeat (first | (with_reducible first | exact HB.out | apply below_alloc | apply pw_below_drewN | apply below_drew1 | refine below_set ?_ GE378.out) | exact HB.out)) hb); clear HO369; clear HO373; clear HO377; clear BK378; clear HB; have HO369 := n0_; have HO373 := n1_; have HO377 := n2_; have HO382 := n3_; have BK378 := n4_; have HB := n5_; clear n0_ n1_ n2_ n3_ n4_ n5_; (try clear hb); (try clear hb2); (try clear hk); (try clear hi); (try clear ho0)) | ((with_reducible refine gate_dst (N := 9) rfl ?_); refine box_event ?hg (N := 9) ?hd (cs := #[.bool false, .slice none 0 0]) (t := 30) ?hr ?_; (case hd => rfl); (case hg => rfl); (case hr => first | (go_simp; done) | (go_simp; rfl)); intro gb383 hg w24 hbox hb; have n0_ := Aside0.mk (Kd.R_below (by (with_reducible repeat (first | apply Kd.R_alloc | apply Kd.R_drewN | apply Kd.R_drew)); exact HO369.out) hb); have n1_ := Aside0.mk (Kd.R_below (by (with_reducible repeat (first | apply Kd.R_alloc | apply Kd.R_drewN | apply Kd.R_drew)); exact HO373.out) hb); have n2_ := Aside0.mk (Kd.R_below (by (with_reducible repeat (first | apply Kd.R_alloc | apply Kd.R_drewN | apply Kd.R_drew)); exact HO377.out) hb); have n3_ := Aside0.mk (Kd.R_below (by (with_reducible repeat (first | apply Kd.R_alloc | apply Kd.R_drewN | apply Kd.R_drew)); exact HO382.out) hb); have n4_ := Aside0.mk (blk_below (g := gb378) (o := .cells #[.bool t374, .slice Ao22 t375.length co22] 30 (0, 0)) (by (with_reducible repeat (first | refine blk_drewN ?_ _ | refine blk_drew ?_ | refine blk_alloc ?_ _)); exact BK378.out) hb); have n5_ := Aside0.mk (below_step (by repeat (first | (with_reducible first | exact HB.out | apply below_alloc | apply pw_below_drewN | apply below_drew1 | refine below_set ?_ GE378.out) | exact HB.out)) hb); have n6_ := Aside0.mk (hbox); have n7_ := Aside0.mk ((by rw [hg]; exact (below_size (by repeat (first | (with_reducible first | exact HB.out | apply below_alloc | apply pw_below_drewN | apply below_drew1 | refine below_set ?_ GE378.out) | exact HB.out))) : w.heap.size ≤ gb383)); have n8_ := Aside0.mk ((by rw [hg]; exact (below_size (by repeat (first | (with_reducible first | exact HB.out | apply below_alloc | apply pw_below_drewN | apply below_drew1 | refine below_set ?_ GE378.out) | exact HB.out))) : w.heap.size ≤ gb383)); have n9_ := Aside0.mk ((by rw [hg]; exact Nat.ne_of_lt (blk_lt (g := gb378) (o := .cells #[.bool t374, .slice Ao22 t375.length co22] 30 (0, 0)) (by (with_reducible repeat (first | refine blk_drewN ?_ _ | refine blk_drew ?_ | refine blk_alloc ?_ _)); exact BK378.out)) : gb378 ≠ gb383)); have n10_ := Aside0.mk ((by rw [hg]; exact Nat.ne_of_gt (blk_lt (g := gb378) (o := .cells #[.bool t374, .slice Ao22 t375.length co22] 30 (0, 0)) (by (with_reducible repeat (first | refine blk_drewN ?_ _ | refine blk_drew ?_ | refine blk_alloc ?_ _)); exact BK378.out)) : gb383 ≠ gb378)); clear HO369; clear HO373; clear HO377; clear HO382; clear BK378; clear HB; have HO369 := n0_; have HO373 := n1_; have HO377 := n2_; have HO382 := n3_; have BK378 := n4_; have HB := n5_; have BK383 := n6_; have GW383 := n7_; have GE383 := n8_; have NB378_383 := n9_; have NB383_378 := n10_; clear n0_ n1_ n2_ n3_ n4_ n5_ n6_ n7_ n8_ n9_ n10_; clear hb hbox hg; have hnb25 := NB383_378.out; have hnc25 := NB378_383.out; have hcz26_0 := blk_cells2 (w := w24) (g := gb383) BK383.out; have hfz26_0 := blk_frozen BK383.out; obtain ⟨Ao27, co27, eo27⟩ := Kd.R_slice HO382.out; subst eo27))
      have n0_ : Aside0 (Kd.R (Kd.int .i64) 3 ((w24.setCell ⟨gb383, 0, none⟩ (.bool t379)).setCell ⟨gb383, 1, none⟩ (.slice Ao27 t380.length co27)) w.heap.size (fun k_ => some k_ ≠ (.slice Ao18 t371.length co18 : Value).ownBlock ∧ some k_ ≠ (.slice Ao22 t375.length co22 : Value).ownBlock ∧ some k_ ≠ (.slice Ao27 t380.length co27 : Value).ownBlock) (.slice Ao17 t367.length co17) t367) := ⟨by (with_reducible repeat (first | apply Kd.R_alloc | apply Kd.R_drewN | apply Kd.R_drew)); exact Kd.R_mono (Kd.R_far (p := ⟨gb383, 1, none⟩) (Kd.R_far (p := ⟨gb383, 0, none⟩) (Kd.R_types HO369.out BK383.out (by decide)) (fun _ hk => hk.2) (.bool t379)) (fun _ hk => hk.2) (.slice Ao27 t380.length co27)) (fun _ hk => ⟨hk.1.1.1.2, ⟨hk.1.1.2, hk.1.2⟩⟩)⟩
      have n1_ : Aside0 (Kd.R (Kd.int .i64) 3 ((w24.setCell ⟨gb383, 0, none⟩ (.bool t379)).setCell ⟨gb383, 1, none⟩ (.slice Ao27 t380.length co27)) w.heap.size (fun k_ => some k_ ≠ (.slice Ao17 t367.length co17 : Value).ownBlock ∧ some k_ ≠ (.slice Ao22 t375.length co22 : Value).ownBlock ∧ some k_ ≠ (.slice Ao27 t380.length co27 : Value).ownBlock) (.slice Ao18 t371.length co18) t371) := ⟨by (with_reducible repeat (first | apply Kd.R_alloc | apply Kd.R_drewN | apply Kd.R_drew)); exact Kd.R_mono (Kd.R_far (p := ⟨gb383, 1, none⟩) (Kd.R_far (p := ⟨gb383, 0, none⟩) (Kd.R_types HO373.out BK383.out (by decide)) (fun _ hk => hk.2) (.bool t379)) (fun _ hk => hk.2) (.slice Ao27 t380.length co27)) (fun _ hk => ⟨hk.1.1.1.2, ⟨hk.1.1.2, hk.1.2⟩⟩)⟩
      have n2_ : Aside0 (Kd.R (Kd.int .i64) 3 ((w24.setCell ⟨gb383, 0, none⟩ (.bool t379)).setCell ⟨gb383, 1, none⟩ (.slice Ao27 t380.length co27)) w.heap.size (fun k_ => some k_ ≠ (.slice Ao17 t367.length co17 : Value).ownBlock ∧ some k_ ≠ (.slice Ao18 t371.length co18 : Value).ownBlock ∧ some k_ ≠ (.slice Ao27 t380.length co27 : Value).ownBlock) (.slice Ao22 t375.length co22) t375) := ⟨by (with_reducible repeat (first | apply Kd.R_alloc | apply Kd.R_drewN | apply Kd.R_drew)); exact Kd.R_mono (Kd.R_far (p := ⟨gb383, 1, none⟩) (Kd.R_far (p := ⟨gb383, 0, none⟩) (Kd.R_types HO377.out BK383.out (by decide)) (fun _ hk => hk.2) (.bool t379)) (fun _ hk => hk.2) (.slice Ao27 t380.length co27)) (fun _ hk => ⟨hk.1.1.1.2, ⟨hk.1.1.2, hk.1.2⟩⟩)⟩
      have n3_ : Aside0 (Kd.R (Kd.int .i64) 3 ((w24.setCell ⟨gb383, 0, none⟩ (.bool t379)).setCell ⟨gb383, 1, none⟩ (.slice Ao27 t380.length co27)) w.heap.size (fun k_ => some k_ ≠ (.slice Ao17 t367.length co17 : Value).ownBlock ∧ some k_ ≠ (.slice Ao18 t371.length co18 : Value).ownBlock ∧ some k_ ≠ (.slice Ao22 t375.length co22 : Value).ownBlock) (.slice Ao27 t380.length co27) t380) := ⟨by (with_reducible repeat (first | apply Kd.R_alloc | apply Kd.R_drewN | apply Kd.R_drew)); exact Kd.R_mono (Kd.R_far (p := ⟨gb383, 1, none⟩) (Kd.R_far (p := ⟨gb383, 0, none⟩) (Kd.R_types HO382.out BK383.out (by decide)) (fun _ hk => hk.2) (.bool t379)) (fun _ hk => hk.2) (.slice Ao27 t380.length co27)) (fun _ hk => ⟨hk.1.1.1.2, ⟨hk.1.1.2, hk.1.2⟩⟩)⟩
      have n4_ : Aside0 (((w24.setCell ⟨gb383, 0, none⟩ (.bool t379)).setCell ⟨gb383, 1, none⟩ (.slice Ao27 t380.length co27)).heap[gb378]? = some (.cells #[.bool t374, .slice Ao22 t375.length co22] 30 (0, 0))) := ⟨by (with_reducible repeat (first | refine blk_drewN ?_ _ | refine blk_drew ?_ | refine blk_alloc ?_ _)); refine blk_far ?_ NB378_383.out _; (with_reducible repeat (first | refine blk_drewN ?_ _ | refine blk_drew ?_ | refine blk_alloc ?_ _)); refine blk_far ?_ NB378_383.out _; (with_reducible repeat (first | refine blk_drewN ?_ _ | refine blk_drew ?_ | refine blk_alloc ?_ _)); exact BK378.out⟩
      have n5_ : Aside0 (((w24.setCell ⟨gb383, 0, none⟩ (.bool t379)).setCell ⟨gb383, 1, none⟩ (.slice Ao27 t380.length co27)).heap[gb383]? = some (.cells #[.bool t379, .slice Ao27 t380.length co27] 30 (0, 0))) := ⟨by (with_reducible repeat (first | refine blk_drewN ?_ _ | refine blk_drew ?_ | refine blk_alloc ?_ _)); refine blk_put (cs := #[.bool t379, .slice none 0 0]) ?_ 1 _ rfl; (with_reducible repeat (first | refine blk_drewN ?_ _ | refine blk_drew ?_ | refine blk_alloc ?_ _)); refine blk_put (cs := #[.bool false, .slice none 0 0]) ?_ 0 _ rfl; (with_reducible repeat (first | refine blk_drewN ?_ _ | refine blk_drew ?_ | refine blk_alloc ?_ _)); exact BK383.out⟩
      have n6_ : Aside0 (Below w.heap.size w ((w24.setCell ⟨gb383, 0, none⟩ (.bool t379)).setCell ⟨gb383, 1, none⟩ (.slice Ao27 t380.length co27))) := ⟨by repeat (first | (with_reducible first | exact HB.out | apply below_alloc | apply pw_below_drewN | apply below_drew1 | refine below_set ?_ GE378.out | refine below_set ?_ GE383.out) | exact HB.out)⟩
      (try clear HO369)
      (try clear HO373)
      (try clear HO377)
      (try clear HO382)
      (try clear BK378)
      (try clear BK383)
      (try clear HB)
      generalize ((w24.setCell ⟨gb383, 0, none⟩ (.bool t379)).setCell ⟨gb383, 1, none⟩ (.slice Ao27 t380.length co27)) = w28 at n0_ n1_ n2_ n3_ n4_ n5_ n6_ ⊢
      have HO369 := n0_
      have HO373 := n1_
      have HO377 := n2_
      have HO382 := n3_
      have BK378 := n4_
      have BK383 := n5_
      have HB := n6_
      clear n0_ n1_ n2_ n3_ n4_ n5_ n6_
      have n0_ := Aside0.mk (Kd.R_drew HO369.out)
      have n1_ := Aside0.mk (Kd.R_drew HO373.out)
      have n2_ := Aside0.mk (Kd.R_drew HO377.out)
      have n3_ := Aside0.mk (Kd.R_drew HO382.out)
      have n4_ := Aside0.mk (blk_drew BK378.out)
      have n5_ := Aside0.mk (blk_drew BK383.out)
      have n6_ := Aside0.mk (below_drew1 HB.out)
      clear HO369
      clear HO373
      clear HO377
      clear HO382
      clear BK378
      clear BK383
      clear HB
      have HO369 := n0_
      have HO373 := n1_
      have HO377 := n2_
      have HO382 := n3_
      have BK378 := n4_
      have BK383 := n5_
      have HB := n6_
      clear n0_ n1_ n2_ n3_ n4_ n5_ n6_
      refine start_ (n := 4) (S := fun w' => w'.cell? ⟨gb378, 0, none⟩ = some (.bool t374) ∧ w'.cell? ⟨gb378, 1, none⟩ = some (.slice Ao22 t375.length co22)) (ds := [3]) #[false, false, false, false] (by kernel_rfl) rfl rfl ⟨(blk_cell BK378.out 0).trans rfl, (blk_cell BK378.out 1).trans rfl⟩ (fun hHeld => ?_)
      generalize w28.drew = w29 at HO369 HO373 HO377 HO382 BK378 BK383 HB hHeld ⊢
      refine take_ (i := 1) (N := some 22) (v := ?_) (a' := ?_) #[false, true, false, false] rfl rfl (by kernel_rfl) (fun _ _ _ h => h) (Or.inl ⟨by rfl, ?_⟩) hHeld ?_ ?_
      rotate_left
      · rintro w' ⟨s0, s1⟩
        go_simp
        with_reducible rfl
      rotate_left
      · simp only [Act.put, List.setIfInBounds_toArray, List.set_cons_zero, List.set_cons_succ, i64_w, i32_w]
        rfl
      refine one_ (i := 0) (N := some 21) #[true, true, false, false] rfl rfl (by kernel_rfl) (by decide) (fun K hK => ?_)
      refine goes_ Try.func21 (by kernel_rfl) rfl #[.int .i64 0] (by rfl) rfl rfl (by (try simp only [List.map_toArray, List.map_cons, List.map_nil]); first | done | rfl | (simp only [List.length_drop, List.length_take]; rfl)) ?_
      with_reducible refine (windhoverref00_Of.calls k 0 t384 t385 _ A10.out).mono ?_
      rintro e w30 ⟨v386, rfl, ho0, hb⟩
      refine ⟨_, rfl, ?_⟩
      have n0_ := Aside0.mk (Kd.R_elder' (by (with_reducible repeat (first | apply Kd.R_alloc | apply Kd.R_drewN | apply Kd.R_drew)); exact HO369.out) (Kd.R_base ho0) hb)
      have n1_ := Aside0.mk (Kd.R_elder' (by (with_reducible repeat (first | apply Kd.R_alloc | apply Kd.R_drewN | apply Kd.R_drew)); exact HO373.out) (Kd.R_base ho0) hb)
      have n2_ := Aside0.mk (Kd.R_elder' (by (with_reducible repeat (first | apply Kd.R_alloc | apply Kd.R_drewN | apply Kd.R_drew)); exact HO377.out) (Kd.R_base ho0) hb)
      have n3_ := Aside0.mk (Kd.R_elder' (by (with_reducible repeat (first | apply Kd.R_alloc | apply Kd.R_drewN | apply Kd.R_drew)); exact HO382.out) (Kd.R_base ho0) hb)
      have n4_ := Aside0.mk (Kd.R_lower (Kd.R_new' (Kd.R_new' (Kd.R_new' (Kd.R_new' ho0 (Kd.R_lt (by (with_reducible repeat (first | apply Kd.R_alloc | apply Kd.R_drewN | apply Kd.R_drew)); exact HO369.out))) (Kd.R_lt (by (with_reducible repeat (first | apply Kd.R_alloc | apply Kd.R_drewN | apply Kd.R_drew)); exact HO373.out))) (Kd.R_lt (by (with_reducible repeat (first | apply Kd.R_alloc | apply Kd.R_drewN | apply Kd.R_drew)); exact HO377.out))) (Kd.R_lt (by (with_reducible repeat (first | apply Kd.R_alloc | apply Kd.R_drewN | apply Kd.R_drew)); exact HO382.out))) (below_size (by repeat (first | (with_reducible first | exact HB.out | apply below_alloc | apply pw_below_drewN | apply below_drew1 | refine below_set ?_ GE378.out | refine below_set ?_ GE383.out) | exact HB.out))))
      have n5_ := Aside0.mk (blk_below (g := gb378) (o := .cells #[.bool t374, .slice Ao22 t375.length co22] 30 (0, 0)) (by (with_reducible repeat (first | refine blk_drewN ?_ _ | refine blk_drew ?_ | refine blk_alloc ?_ _)); exact BK378.out) hb)
      have n6_ := Aside0.mk (blk_below (g := gb383) (o := .cells #[.bool t379, .slice Ao27 t380.length co27] 30 (0, 0)) (by (with_reducible repeat (first | refine blk_drewN ?_ _ | refine blk_drew ?_ | refine blk_alloc ?_ _)); exact BK383.out) hb)
      have n7_ := Aside0.mk (below_step (by repeat (first | (with_reducible first | exact HB.out | apply below_alloc | apply pw_below_drewN | apply below_drew1 | refine below_set ?_ GE378.out | refine below_set ?_ GE383.out) | exact HB.out)) hb)
      clear HO369
      clear HO373
      clear HO377
      clear HO382
      clear BK378
      clear BK383
      clear HB
      have HO369 := n0_
      have HO373 := n1_
      have HO377 := n2_
      have HO382 := n3_
      have HO387 := n4_
      have BK378 := n5_
      have BK383 := n6_
      have HB := n7_
      clear n0_ n1_ n2_ n3_ n4_ n5_ n6_ n7_
      (try clear hb)
      (try clear hb2)
      (try clear hk)
      (try clear hi)
      (try clear ho0)
      obtain ⟨Ao31, co31, eo31⟩ := Kd.R_slice HO387.out
      (first | subst eo31 | (injection eo31 with f1_ f2_ f3_; have f4_ := f1_.symm; have f5_ := f3_.symm; clear f1_ f2_ f3_; subst f4_; subst f5_))
      refine hK.out _ _ ⟨(blk_cell BK378.out 0).trans rfl, (blk_cell BK378.out 1).trans rfl⟩ (fun hHeld => ?_)
      clear hK K
      refine norm_ (a' := ?_) ?_ ?_
      rotate_left
      · show Act.put _ (some 21) _ = _
        simp only [Act.put, List.setIfInBounds_toArray, List.set_cons_zero, List.set_cons_succ, i64_w, i32_w]
        rfl
      refine one_ (i := 2) (N := some 23) #[true, true, true, false] rfl rfl (by kernel_rfl) (by decide) (fun K hK => ?_)
      refine goes_ Try.func25 (by kernel_rfl) rfl #[.agg #[.bool t384, .slice Ao31 t385.length co31], .agg #[.bool t374, .slice Ao22 t375.length co22]] (by rfl) rfl rfl (by (try simp only [List.map_toArray, List.map_cons, List.map_nil]); first | done | rfl | (simp only [List.length_drop, List.length_take]; rfl)) ?_
      with_reducible refine (windhoverref00_Minus.calls k t384 _ _ t385 t374 (fun k_ => some k_ = (.slice Ao22 t375.length co22 : Value).ownBlock) (.slice Ao22 t375.length co22) t375 t388 t389 w _ ?side1 ?side2 ?side3 ?side4 A11.out).mono ?_
      (case side1 => repeat (first | (with_reducible first | exact HB.out | apply below_alloc | apply pw_below_drewN | apply below_drew1 | refine below_set ?_ GE378.out | refine below_set ?_ GE383.out) | exact HB.out))
      (case side2 => exact Kd.C_kept_own (HO387.out) (fun k_ hk_ hs_ => (hk_.1.2) hs_))
      (case side3 => exact (Kd.R_reads' HO387.out).2.1)
      (case side4 => exact Kd.R_tight rfl HO377.out)
      rintro e w32 ⟨v390, rfl, ho0, hb, hkp⟩
      refine ⟨_, rfl, ?_⟩
      have n0_ := Aside0.mk (Kd.R_mono (ok' := fun k_ => some k_ ≠ (.slice Ao18 t371.length co18 : Value).ownBlock ∧ some k_ ≠ (.slice Ao27 t380.length co27 : Value).ownBlock ∧ some k_ ≠ (.slice Ao31 t385.length co31 : Value).ownBlock ∧ some k_ ≠ (v390 : Value).ownBlock) (Kd.R_keptB (HO369.out) hkp (fun k_ hk_ hs_ => (hk_.1.2.1) hs_)) (fun k_ hk_ => ⟨hk_.1.1.1, hk_.1.1.2.2, hk_.1.2, fun e_ => Or.elim (ho0.1 k_ e_.symm) (fun hs_ => hk_.2.1 hs_) (fun hn_ => Nat.not_le.2 hk_.2.2 hn_)⟩))
      have n1_ := Aside0.mk (Kd.R_mono (ok' := fun k_ => some k_ ≠ (.slice Ao17 t367.length co17 : Value).ownBlock ∧ some k_ ≠ (.slice Ao27 t380.length co27 : Value).ownBlock ∧ some k_ ≠ (.slice Ao31 t385.length co31 : Value).ownBlock ∧ some k_ ≠ (v390 : Value).ownBlock) (Kd.R_keptB (HO373.out) hkp (fun k_ hk_ hs_ => (hk_.1.2.1) hs_)) (fun k_ hk_ => ⟨hk_.1.1.1, hk_.1.1.2.2, hk_.1.2, fun e_ => Or.elim (ho0.1 k_ e_.symm) (fun hs_ => hk_.2.1 hs_) (fun hn_ => Nat.not_le.2 hk_.2.2 hn_)⟩))
      have n2_ := Aside0.mk (blk_kept (by (with_reducible repeat (first | refine blk_drewN ?_ _ | refine blk_drew ?_ | refine blk_alloc ?_ _)); exact BK378.out) hkp (fun hs_ => (fun e_ => (Kd.R_ne HO377.out BK378.out (by decide)) e_) hs_))
      have n3_ := Aside0.mk (Kd.R_mono (ok' := fun k_ => some k_ ≠ (.slice Ao17 t367.length co17 : Value).ownBlock ∧ some k_ ≠ (.slice Ao18 t371.length co18 : Value).ownBlock ∧ some k_ ≠ (.slice Ao31 t385.length co31 : Value).ownBlock ∧ some k_ ≠ (v390 : Value).ownBlock) (Kd.R_keptB (HO382.out) hkp (fun k_ hk_ hs_ => (hk_.1.2.2) hs_)) (fun k_ hk_ => ⟨hk_.1.1.1, hk_.1.1.2.1, hk_.1.2, fun e_ => Or.elim (ho0.1 k_ e_.symm) (fun hs_ => hk_.2.1 hs_) (fun hn_ => Nat.not_le.2 hk_.2.2 hn_)⟩))
      have n4_ := Aside0.mk (blk_kept (by (with_reducible repeat (first | refine blk_drewN ?_ _ | refine blk_drew ?_ | refine blk_alloc ?_ _)); exact BK383.out) hkp (fun hs_ => (fun e_ => (Kd.R_ne HO377.out BK383.out (by decide)) e_) hs_))
      have n5_ := Aside0.mk (Kd.R_mono (ok' := fun k_ => some k_ ≠ (.slice Ao17 t367.length co17 : Value).ownBlock ∧ some k_ ≠ (.slice Ao18 t371.length co18 : Value).ownBlock ∧ some k_ ≠ (.slice Ao27 t380.length co27 : Value).ownBlock ∧ some k_ ≠ (v390 : Value).ownBlock) (Kd.R_keptB (HO387.out) hkp (fun k_ hk_ hs_ => (hk_.1.2) hs_)) (fun k_ hk_ => ⟨hk_.1.1.1.1.2, hk_.1.1.1.2, hk_.1.2, fun e_ => Or.elim (ho0.1 k_ e_.symm) (fun hs_ => hk_.2.1 hs_) (fun hn_ => Nat.not_le.2 hk_.2.2 hn_)⟩))
      have n6_ := Aside0.mk (Kd.R_mono (ok' := fun k_ => some k_ ≠ (.slice Ao17 t367.length co17 : Value).ownBlock ∧ some k_ ≠ (.slice Ao18 t371.length co18 : Value).ownBlock ∧ some k_ ≠ (.slice Ao27 t380.length co27 : Value).ownBlock ∧ some k_ ≠ (.slice Ao31 t385.length co31 : Value).ownBlock) ho0 (fun k_ hk_ => ⟨Or.elim hk_ (fun hs_ => fun e_ => (((HO369.out).1 k_ e_.symm).1.2.1) hs_) (fun hn_ => (Kd.fresh' (Kd.R_lt (by (with_reducible repeat (first | apply Kd.R_alloc | apply Kd.R_drewN | apply Kd.R_drew)); exact HO369.out)) k_ hn_)), Or.elim hk_ (fun hs_ => fun e_ => (((HO373.out).1 k_ e_.symm).1.2.1) hs_) (fun hn_ => (Kd.fresh' (Kd.R_lt (by (with_reducible repeat (first | apply Kd.R_alloc | apply Kd.R_drewN | apply Kd.R_drew)); exact HO373.out)) k_ hn_)), Or.elim hk_ (fun hs_ => fun e_ => (((HO382.out).1 k_ e_.symm).1.2.2) hs_) (fun hn_ => (Kd.fresh' (Kd.R_lt (by (with_reducible repeat (first | apply Kd.R_alloc | apply Kd.R_drewN | apply Kd.R_drew)); exact HO382.out)) k_ hn_)), Or.elim hk_ (fun hs_ => fun e_ => (((HO387.out).1 k_ e_.symm).1.2) hs_) (fun hn_ => (Kd.fresh' (Kd.R_lt (by (with_reducible repeat (first | apply Kd.R_alloc | apply Kd.R_drewN | apply Kd.R_drew)); exact HO387.out)) k_ hn_))⟩))
      have n7_ := Aside0.mk (hb)
      clear HO369
      clear HO373
      clear BK378
      clear HO382
      clear BK383
      clear HO387
      clear HB
      clear HO377
      have HO369 := n0_
      have HO373 := n1_
      have BK378 := n2_
      have HO382 := n3_
      have BK383 := n4_
      have HO387 := n5_
      have HO391 := n6_
      have HB := n7_
      clear n0_ n1_ n2_ n3_ n4_ n5_ n6_ n7_
      (try clear hb)
      (try clear hkp)
      (try clear ho0)
      obtain ⟨Ao34, co34, eo34⟩ := Kd.R_slice HO391.out
      (first | subst eo34 | (injection eo34 with f1_ f2_ f3_; have f4_ := f1_.symm; have f5_ := f3_.symm; clear f1_ f2_ f3_; subst f4_; subst f5_))
      refine hK.out _ _ ⟨(blk_cell BK378.out 0).trans rfl, (blk_cell BK378.out 1).trans rfl⟩ (fun hHeld => ?_)
      clear hK K
      refine norm_ (a' := ?_) ?_ ?_
      rotate_left
      · show Act.put _ (some 23) _ = _
        simp only [Act.put, List.setIfInBounds_toArray, List.set_cons_zero, List.set_cons_succ, i64_w, i32_w]
        rfl
      refine last_ (i := 3) (N := none) #[true, true, true, true] rfl rfl (by kernel_rfl) (by decide) (fun K hK => ?_)
      have hs33 : w32.cell? ⟨gb378, 0, none⟩ = some (.bool t374) := (blk_cell BK378.out 0).trans rfl
      have hfs33 := blk_frozen BK378.out 0
      have hns33_1 := NB383_378.out
      have hms33_1 := NB378_383.out
      have hs35 : w32.cell? ⟨gb378, 1, none⟩ = some (.slice Ao22 t375.length co22) := (blk_cell BK378.out 1).trans rfl
      have hfs35 := blk_frozen BK378.out 1
      have hns35_1 := NB383_378.out
      have hms35_1 := NB378_383.out
      refine skip_ (w1 := ?_) (by rfl) rfl ?_ ?_
      rotate_left
      · go_simp
        rfl
      refine hK.out _ _ ?_
      clear hK K
      refine done_ (by kernel_rfl) ?_
      try go_wp2
      have n0_ : Aside0 (Kd.R (Kd.int .i64) 3 ((w32.setCell ⟨gb378, 0, none⟩ (.bool t388)).setCell ⟨gb378, 1, none⟩ (.slice Ao34 t389.length co34)) w.heap.size (fun k_ => some k_ ≠ (.slice Ao18 t371.length co18 : Value).ownBlock ∧ some k_ ≠ (.slice Ao27 t380.length co27 : Value).ownBlock ∧ some k_ ≠ (.slice Ao31 t385.length co31 : Value).ownBlock ∧ some k_ ≠ (.slice Ao34 t389.length co34 : Value).ownBlock) (.slice Ao17 t367.length co17) t367) := ⟨by (with_reducible repeat (first | apply Kd.R_alloc | apply Kd.R_drewN | apply Kd.R_drew)); exact Kd.R_mono (Kd.R_far (p := ⟨gb378, 1, none⟩) (Kd.R_far (p := ⟨gb378, 0, none⟩) (Kd.R_types HO369.out BK378.out (by decide)) (fun _ hk => hk.2) (.bool t388)) (fun _ hk => hk.2) (.slice Ao34 t389.length co34)) (fun _ hk => ⟨hk.1.1, ⟨hk.1.2.1, ⟨hk.1.2.2.1, hk.1.2.2.2⟩⟩⟩)⟩
      have n1_ : Aside0 (Kd.R (Kd.int .i64) 3 ((w32.setCell ⟨gb378, 0, none⟩ (.bool t388)).setCell ⟨gb378, 1, none⟩ (.slice Ao34 t389.length co34)) w.heap.size (fun k_ => some k_ ≠ (.slice Ao17 t367.length co17 : Value).ownBlock ∧ some k_ ≠ (.slice Ao27 t380.length co27 : Value).ownBlock ∧ some k_ ≠ (.slice Ao31 t385.length co31 : Value).ownBlock ∧ some k_ ≠ (.slice Ao34 t389.length co34 : Value).ownBlock) (.slice Ao18 t371.length co18) t371) := ⟨by (with_reducible repeat (first | apply Kd.R_alloc | apply Kd.R_drewN | apply Kd.R_drew)); exact Kd.R_mono (Kd.R_far (p := ⟨gb378, 1, none⟩) (Kd.R_far (p := ⟨gb378, 0, none⟩) (Kd.R_types HO373.out BK378.out (by decide)) (fun _ hk => hk.2) (.bool t388)) (fun _ hk => hk.2) (.slice Ao34 t389.length co34)) (fun _ hk => ⟨hk.1.1, ⟨hk.1.2.1, ⟨hk.1.2.2.1, hk.1.2.2.2⟩⟩⟩)⟩
      have n2_ : Aside0 (Kd.R (Kd.int .i64) 3 ((w32.setCell ⟨gb378, 0, none⟩ (.bool t388)).setCell ⟨gb378, 1, none⟩ (.slice Ao34 t389.length co34)) w.heap.size (fun k_ => some k_ ≠ (.slice Ao17 t367.length co17 : Value).ownBlock ∧ some k_ ≠ (.slice Ao18 t371.length co18 : Value).ownBlock ∧ some k_ ≠ (.slice Ao31 t385.length co31 : Value).ownBlock ∧ some k_ ≠ (.slice Ao34 t389.length co34 : Value).ownBlock) (.slice Ao27 t380.length co27) t380) := ⟨by (with_reducible repeat (first | apply Kd.R_alloc | apply Kd.R_drewN | apply Kd.R_drew)); exact Kd.R_mono (Kd.R_far (p := ⟨gb378, 1, none⟩) (Kd.R_far (p := ⟨gb378, 0, none⟩) (Kd.R_types HO382.out BK378.out (by decide)) (fun _ hk => hk.2) (.bool t388)) (fun _ hk => hk.2) (.slice Ao34 t389.length co34)) (fun _ hk => ⟨hk.1.1, ⟨hk.1.2.1, ⟨hk.1.2.2.1, hk.1.2.2.2⟩⟩⟩)⟩
      have n3_ : Aside0 (Kd.R (Kd.int .i64) 3 ((w32.setCell ⟨gb378, 0, none⟩ (.bool t388)).setCell ⟨gb378, 1, none⟩ (.slice Ao34 t389.length co34)) w.heap.size (fun k_ => some k_ ≠ (.slice Ao17 t367.length co17 : Value).ownBlock ∧ some k_ ≠ (.slice Ao18 t371.length co18 : Value).ownBlock ∧ some k_ ≠ (.slice Ao27 t380.length co27 : Value).ownBlock ∧ some k_ ≠ (.slice Ao34 t389.length co34 : Value).ownBlock) (.slice Ao31 t385.length co31) t385) := ⟨by (with_reducible repeat (first | apply Kd.R_alloc | apply Kd.R_drewN | apply Kd.R_drew)); exact Kd.R_mono (Kd.R_far (p := ⟨gb378, 1, none⟩) (Kd.R_far (p := ⟨gb378, 0, none⟩) (Kd.R_types HO387.out BK378.out (by decide)) (fun _ hk => hk.2) (.bool t388)) (fun _ hk => hk.2) (.slice Ao34 t389.length co34)) (fun _ hk => ⟨hk.1.1, ⟨hk.1.2.1, ⟨hk.1.2.2.1, hk.1.2.2.2⟩⟩⟩)⟩
      have n4_ : Aside0 (Kd.R (Kd.int .i64) 3 ((w32.setCell ⟨gb378, 0, none⟩ (.bool t388)).setCell ⟨gb378, 1, none⟩ (.slice Ao34 t389.length co34)) w.heap.size (fun k_ => some k_ ≠ (.slice Ao17 t367.length co17 : Value).ownBlock ∧ some k_ ≠ (.slice Ao18 t371.length co18 : Value).ownBlock ∧ some k_ ≠ (.slice Ao27 t380.length co27 : Value).ownBlock ∧ some k_ ≠ (.slice Ao31 t385.length co31 : Value).ownBlock) (.slice Ao34 t389.length co34) t389) := ⟨by (with_reducible repeat (first | apply Kd.R_alloc | apply Kd.R_drewN | apply Kd.R_drew)); exact Kd.R_mono (Kd.R_far (p := ⟨gb378, 1, none⟩) (Kd.R_far (p := ⟨gb378, 0, none⟩) (Kd.R_types HO391.out BK378.out (by decide)) (fun _ hk => hk.2) (.bool t388)) (fun _ hk => hk.2) (.slice Ao34 t389.length co34)) (fun _ hk => ⟨hk.1.1, ⟨hk.1.2.1, ⟨hk.1.2.2.1, hk.1.2.2.2⟩⟩⟩)⟩
      have n5_ : Aside0 (((w32.setCell ⟨gb378, 0, none⟩ (.bool t388)).setCell ⟨gb378, 1, none⟩ (.slice Ao34 t389.length co34)).heap[gb378]? = some (.cells #[.bool t388, .slice Ao34 t389.length co34] 30 (0, 0))) := ⟨by (with_reducible repeat (first | refine blk_drewN ?_ _ | refine blk_drew ?_ | refine blk_alloc ?_ _)); refine blk_put (cs := #[.bool t388, .slice Ao22 t375.length co22]) ?_ 1 _ rfl; (with_reducible repeat (first | refine blk_drewN ?_ _ | refine blk_drew ?_ | refine blk_alloc ?_ _)); refine blk_put (cs := #[.bool t374, .slice Ao22 t375.length co22]) ?_ 0 _ rfl; (with_reducible repeat (first | refine blk_drewN ?_ _ | refine blk_drew ?_ | refine blk_alloc ?_ _)); exact BK378.out⟩
      have n6_ : Aside0 (((w32.setCell ⟨gb378, 0, none⟩ (.bool t388)).setCell ⟨gb378, 1, none⟩ (.slice Ao34 t389.length co34)).heap[gb383]? = some (.cells #[.bool t379, .slice Ao27 t380.length co27] 30 (0, 0))) := ⟨by (with_reducible repeat (first | refine blk_drewN ?_ _ | refine blk_drew ?_ | refine blk_alloc ?_ _)); refine blk_far ?_ NB383_378.out _; (with_reducible repeat (first | refine blk_drewN ?_ _ | refine blk_drew ?_ | refine blk_alloc ?_ _)); refine blk_far ?_ NB383_378.out _; (with_reducible repeat (first | refine blk_drewN ?_ _ | refine blk_drew ?_ | refine blk_alloc ?_ _)); exact BK383.out⟩
      have n7_ : Aside0 (Below w.heap.size w ((w32.setCell ⟨gb378, 0, none⟩ (.bool t388)).setCell ⟨gb378, 1, none⟩ (.slice Ao34 t389.length co34))) := ⟨by repeat (first | (with_reducible first | exact HB.out | apply below_alloc | apply pw_below_drewN | apply below_drew1 | refine below_set ?_ GE378.out | refine below_set ?_ GE383.out) | exact HB.out)⟩
      (try clear HO369)
      (try clear HO373)
      (try clear HO382)
      (try clear HO387)
      (try clear HO391)
      (try clear BK378)
      (try clear BK383)
      (try clear HB)
      generalize ((w32.setCell ⟨gb378, 0, none⟩ (.bool t388)).setCell ⟨gb378, 1, none⟩ (.slice Ao34 t389.length co34)) = w36 at n0_ n1_ n2_ n3_ n4_ n5_ n6_ n7_ ⊢
      have HO369 := n0_
      have HO373 := n1_
      have HO382 := n2_
      have HO387 := n3_
      have HO391 := n4_
      have BK378 := n5_
      have BK383 := n6_
      have HB := n7_
      clear n0_ n1_ n2_ n3_ n4_ n5_ n6_ n7_
      have n0_ := Aside0.mk (Kd.R_drew HO369.out)
      have n1_ := Aside0.mk (Kd.R_drew HO373.out)
      have n2_ := Aside0.mk (Kd.R_drew HO382.out)
      have n3_ := Aside0.mk (Kd.R_drew HO387.out)
      have n4_ := Aside0.mk (Kd.R_drew HO391.out)
      have n5_ := Aside0.mk (blk_drew BK378.out)
      have n6_ := Aside0.mk (blk_drew BK383.out)
      have n7_ := Aside0.mk (below_drew1 HB.out)
      clear HO369
      clear HO373
      clear HO382
      clear HO387
      clear HO391
      clear BK378
      clear BK383
      clear HB
      have HO369 := n0_
      have HO373 := n1_
      have HO382 := n2_
      have HO387 := n3_
      have HO391 := n4_
      have BK378 := n5_
      have BK383 := n6_
      have HB := n7_
      clear n0_ n1_ n2_ n3_ n4_ n5_ n6_ n7_
      refine start_ (n := 4) (S := fun w' => w'.cell? ⟨gb383, 0, none⟩ = some (.bool t379) ∧ w'.cell? ⟨gb383, 1, none⟩ = some (.slice Ao27 t380.length co27)) (ds := [3]) #[false, false, false, false] (by kernel_rfl) rfl rfl ⟨(blk_cell BK383.out 0).trans rfl, (blk_cell BK383.out 1).trans rfl⟩ (fun hHeld => ?_)
      generalize w36.drew = w37 at HO369 HO373 HO382 HO387 HO391 BK378 BK383 HB hHeld ⊢
      refine take_ (i := 1) (N := some 25) (v := ?_) (a' := ?_) #[false, true, false, false] rfl rfl (by kernel_rfl) (fun _ _ _ h => h) (Or.inl ⟨by rfl, ?_⟩) hHeld ?_ ?_
      rotate_left
      · rintro w' ⟨s0, s1⟩
        go_simp
        with_reducible rfl
      rotate_left
      · simp only [Act.put, List.setIfInBounds_toArray, List.set_cons_zero, List.set_cons_succ, i64_w, i32_w]
        rfl
      refine one_ (i := 0) (N := some 24) #[true, true, false, false] rfl rfl (by kernel_rfl) (by decide) (fun K hK => ?_)
      refine goes_ Try.func21 (by kernel_rfl) rfl #[.int .i64 0] (by rfl) rfl rfl (by (try simp only [List.map_toArray, List.map_cons, List.map_nil]); first | done | rfl | (simp only [List.length_drop, List.length_take]; rfl)) ?_
      with_reducible refine (windhoverref00_Of.calls k 0 t392 t393 _ A12.out).mono ?_
      rintro e w38 ⟨v394, rfl, ho0, hb⟩
      refine ⟨_, rfl, ?_⟩
      have n0_ := Aside0.mk (Kd.R_elder' (by (with_reducible repeat (first | apply Kd.R_alloc | apply Kd.R_drewN | apply Kd.R_drew)); exact HO369.out) (Kd.R_base ho0) hb)
      have n1_ := Aside0.mk (Kd.R_elder' (by (with_reducible repeat (first | apply Kd.R_alloc | apply Kd.R_drewN | apply Kd.R_drew)); exact HO373.out) (Kd.R_base ho0) hb)
      have n2_ := Aside0.mk (Kd.R_elder' (by (with_reducible repeat (first | apply Kd.R_alloc | apply Kd.R_drewN | apply Kd.R_drew)); exact HO382.out) (Kd.R_base ho0) hb)
      have n3_ := Aside0.mk (Kd.R_elder' (by (with_reducible repeat (first | apply Kd.R_alloc | apply Kd.R_drewN | apply Kd.R_drew)); exact HO387.out) (Kd.R_base ho0) hb)
      have n4_ := Aside0.mk (Kd.R_elder' (by (with_reducible repeat (first | apply Kd.R_alloc | apply Kd.R_drewN | apply Kd.R_drew)); exact HO391.out) (Kd.R_base ho0) hb)
      have n5_ := Aside0.mk (Kd.R_lower (Kd.R_new' (Kd.R_new' (Kd.R_new' (Kd.R_new' (Kd.R_new' ho0 (Kd.R_lt (by (with_reducible repeat (first | apply Kd.R_alloc | apply Kd.R_drewN | apply Kd.R_drew)); exact HO369.out))) (Kd.R_lt (by (with_reducible repeat (first | apply Kd.R_alloc | apply Kd.R_drewN | apply Kd.R_drew)); exact HO373.out))) (Kd.R_lt (by (with_reducible repeat (first | apply Kd.R_alloc | apply Kd.R_drewN | apply Kd.R_drew)); exact HO382.out))) (Kd.R_lt (by (with_reducible repeat (first | apply Kd.R_alloc | apply Kd.R_drewN | apply Kd.R_drew)); exact HO387.out))) (Kd.R_lt (by (with_reducible repeat (first | apply Kd.R_alloc | apply Kd.R_drewN | apply Kd.R_drew)); exact HO391.out))) (below_size (by repeat (first | (with_reducible first | exact HB.out | apply below_alloc | apply pw_below_drewN | apply below_drew1 | refine below_set ?_ GE378.out | refine below_set ?_ GE383.out) | exact HB.out))))
      have n6_ := Aside0.mk (blk_below (g := gb378) (o := .cells #[.bool t388, .slice Ao34 t389.length co34] 30 (0, 0)) (by (with_reducible repeat (first | refine blk_drewN ?_ _ | refine blk_drew ?_ | refine blk_alloc ?_ _)); exact BK378.out) hb)
      have n7_ := Aside0.mk (blk_below (g := gb383) (o := .cells #[.bool t379, .slice Ao27 t380.length co27] 30 (0, 0)) (by (with_reducible repeat (first | refine blk_drewN ?_ _ | refine blk_drew ?_ | refine blk_alloc ?_ _)); exact BK383.out) hb)
      have n8_ := Aside0.mk (below_step (by repeat (first | (with_reducible first | exact HB.out | apply below_alloc | apply pw_below_drewN | apply below_drew1 | refine below_set ?_ GE378.out | refine below_set ?_ GE383.out) | exact HB.out)) hb)
      clear HO369
      clear HO373
      clear HO382
      clear HO387
      clear HO391
      clear BK378
      clear BK383
      clear HB
      have HO369 := n0_
      have HO373 := n1_
      have HO382 := n2_
      have HO387 := n3_
      have HO391 := n4_
      have HO395 := n5_
      have BK378 := n6_
      have BK383 := n7_
      have HB := n8_
      clear n0_ n1_ n2_ n3_ n4_ n5_ n6_ n7_ n8_
      (try clear hb)
      (try clear hb2)
      (try clear hk)
      (try clear hi)
      (try clear ho0)
      obtain ⟨Ao39, co39, eo39⟩ := Kd.R_slice HO395.out
      (first | subst eo39 | (injection eo39 with f1_ f2_ f3_; have f4_ := f1_.symm; have f5_ := f3_.symm; clear f1_ f2_ f3_; subst f4_; subst f5_))
      refine hK.out _ _ ⟨(blk_cell BK383.out 0).trans rfl, (blk_cell BK383.out 1).trans rfl⟩ (fun hHeld => ?_)
      clear hK K
      refine norm_ (a' := ?_) ?_ ?_
      rotate_left
      · show Act.put _ (some 24) _ = _
        simp only [Act.put, List.setIfInBounds_toArray, List.set_cons_zero, List.set_cons_succ, i64_w, i32_w]
        rfl
      refine one_ (i := 2) (N := some 26) #[true, true, true, false] rfl rfl (by kernel_rfl) (by decide) (fun K hK => ?_)
      refine goes_ Try.func25 (by kernel_rfl) rfl #[.agg #[.bool t392, .slice Ao39 t393.length co39], .agg #[.bool t379, .slice Ao27 t380.length co27]] (by rfl) rfl rfl (by (try simp only [List.map_toArray, List.map_cons, List.map_nil]); first | done | rfl | (simp only [List.length_drop, List.length_take]; rfl)) ?_
      with_reducible refine (windhoverref00_Minus.calls k t392 _ _ t393 t379 (fun k_ => some k_ = (.slice Ao27 t380.length co27 : Value).ownBlock) (.slice Ao27 t380.length co27) t380 t396 t397 w _ ?side1 ?side2 ?side3 ?side4 A13.out).mono ?_
      (case side1 => repeat (first | (with_reducible first | exact HB.out | apply below_alloc | apply pw_below_drewN | apply below_drew1 | refine below_set ?_ GE378.out | refine below_set ?_ GE383.out) | exact HB.out))
      (case side2 => exact Kd.C_kept_own (HO395.out) (fun k_ hk_ hs_ => (hk_.1.1.2) hs_))
      (case side3 => exact (Kd.R_reads' HO395.out).2.1)
      (case side4 => exact Kd.R_tight rfl HO382.out)
      rintro e w40 ⟨v398, rfl, ho0, hb, hkp⟩
      refine ⟨_, rfl, ?_⟩
      have n0_ := Aside0.mk (Kd.R_mono (ok' := fun k_ => some k_ ≠ (.slice Ao18 t371.length co18 : Value).ownBlock ∧ some k_ ≠ (.slice Ao31 t385.length co31 : Value).ownBlock ∧ some k_ ≠ (.slice Ao34 t389.length co34 : Value).ownBlock ∧ some k_ ≠ (.slice Ao39 t393.length co39 : Value).ownBlock ∧ some k_ ≠ (v398 : Value).ownBlock) (Kd.R_keptB (HO369.out) hkp (fun k_ hk_ hs_ => (hk_.1.2.1) hs_)) (fun k_ hk_ => ⟨hk_.1.1.1, hk_.1.1.2.2.1, hk_.1.1.2.2.2, hk_.1.2, fun e_ => Or.elim (ho0.1 k_ e_.symm) (fun hs_ => hk_.2.1 hs_) (fun hn_ => Nat.not_le.2 hk_.2.2 hn_)⟩))
      have n1_ := Aside0.mk (Kd.R_mono (ok' := fun k_ => some k_ ≠ (.slice Ao17 t367.length co17 : Value).ownBlock ∧ some k_ ≠ (.slice Ao31 t385.length co31 : Value).ownBlock ∧ some k_ ≠ (.slice Ao34 t389.length co34 : Value).ownBlock ∧ some k_ ≠ (.slice Ao39 t393.length co39 : Value).ownBlock ∧ some k_ ≠ (v398 : Value).ownBlock) (Kd.R_keptB (HO373.out) hkp (fun k_ hk_ hs_ => (hk_.1.2.1) hs_)) (fun k_ hk_ => ⟨hk_.1.1.1, hk_.1.1.2.2.1, hk_.1.1.2.2.2, hk_.1.2, fun e_ => Or.elim (ho0.1 k_ e_.symm) (fun hs_ => hk_.2.1 hs_) (fun hn_ => Nat.not_le.2 hk_.2.2 hn_)⟩))
      have n2_ := Aside0.mk (blk_kept (by (with_reducible repeat (first | refine blk_drewN ?_ _ | refine blk_drew ?_ | refine blk_alloc ?_ _)); exact BK378.out) hkp (fun hs_ => (fun e_ => (Kd.R_ne HO382.out BK378.out (by decide)) e_) hs_))
      have n3_ := Aside0.mk (blk_kept (by (with_reducible repeat (first | refine blk_drewN ?_ _ | refine blk_drew ?_ | refine blk_alloc ?_ _)); exact BK383.out) hkp (fun hs_ => (fun e_ => (Kd.R_ne HO382.out BK383.out (by decide)) e_) hs_))
      have n4_ := Aside0.mk (Kd.R_mono (ok' := fun k_ => some k_ ≠ (.slice Ao17 t367.length co17 : Value).ownBlock ∧ some k_ ≠ (.slice Ao18 t371.length co18 : Value).ownBlock ∧ some k_ ≠ (.slice Ao34 t389.length co34 : Value).ownBlock ∧ some k_ ≠ (.slice Ao39 t393.length co39 : Value).ownBlock ∧ some k_ ≠ (v398 : Value).ownBlock) (Kd.R_keptB (HO387.out) hkp (fun k_ hk_ hs_ => (hk_.1.2.2.1) hs_)) (fun k_ hk_ => ⟨hk_.1.1.1, hk_.1.1.2.1, hk_.1.1.2.2.2, hk_.1.2, fun e_ => Or.elim (ho0.1 k_ e_.symm) (fun hs_ => hk_.2.1 hs_) (fun hn_ => Nat.not_le.2 hk_.2.2 hn_)⟩))
      have n5_ := Aside0.mk (Kd.R_mono (ok' := fun k_ => some k_ ≠ (.slice Ao17 t367.length co17 : Value).ownBlock ∧ some k_ ≠ (.slice Ao18 t371.length co18 : Value).ownBlock ∧ some k_ ≠ (.slice Ao31 t385.length co31 : Value).ownBlock ∧ some k_ ≠ (.slice Ao39 t393.length co39 : Value).ownBlock ∧ some k_ ≠ (v398 : Value).ownBlock) (Kd.R_keptB (HO391.out) hkp (fun k_ hk_ hs_ => (hk_.1.2.2.1) hs_)) (fun k_ hk_ => ⟨hk_.1.1.1, hk_.1.1.2.1, hk_.1.1.2.2.2, hk_.1.2, fun e_ => Or.elim (ho0.1 k_ e_.symm) (fun hs_ => hk_.2.1 hs_) (fun hn_ => Nat.not_le.2 hk_.2.2 hn_)⟩))
      have n6_ := Aside0.mk (Kd.R_mono (ok' := fun k_ => some k_ ≠ (.slice Ao17 t367.length co17 : Value).ownBlock ∧ some k_ ≠ (.slice Ao18 t371.length co18 : Value).ownBlock ∧ some k_ ≠ (.slice Ao31 t385.length co31 : Value).ownBlock ∧ some k_ ≠ (.slice Ao34 t389.length co34 : Value).ownBlock ∧ some k_ ≠ (v398 : Value).ownBlock) (Kd.R_keptB (HO395.out) hkp (fun k_ hk_ hs_ => (hk_.1.1.2) hs_)) (fun k_ hk_ => ⟨hk_.1.1.1.1.1.2, hk_.1.1.1.1.2, hk_.1.1.2, hk_.1.2, fun e_ => Or.elim (ho0.1 k_ e_.symm) (fun hs_ => hk_.2.1 hs_) (fun hn_ => Nat.not_le.2 hk_.2.2 hn_)⟩))
      have n7_ := Aside0.mk (Kd.R_mono (ok' := fun k_ => some k_ ≠ (.slice Ao17 t367.length co17 : Value).ownBlock ∧ some k_ ≠ (.slice Ao18 t371.length co18 : Value).ownBlock ∧ some k_ ≠ (.slice Ao31 t385.length co31 : Value).ownBlock ∧ some k_ ≠ (.slice Ao34 t389.length co34 : Value).ownBlock ∧ some k_ ≠ (.slice Ao39 t393.length co39 : Value).ownBlock) ho0 (fun k_ hk_ => ⟨Or.elim hk_ (fun hs_ => fun e_ => (((HO369.out).1 k_ e_.symm).1.2.1) hs_) (fun hn_ => (Kd.fresh' (Kd.R_lt (by (with_reducible repeat (first | apply Kd.R_alloc | apply Kd.R_drewN | apply Kd.R_drew)); exact HO369.out)) k_ hn_)), Or.elim hk_ (fun hs_ => fun e_ => (((HO373.out).1 k_ e_.symm).1.2.1) hs_) (fun hn_ => (Kd.fresh' (Kd.R_lt (by (with_reducible repeat (first | apply Kd.R_alloc | apply Kd.R_drewN | apply Kd.R_drew)); exact HO373.out)) k_ hn_)), Or.elim hk_ (fun hs_ => fun e_ => (((HO387.out).1 k_ e_.symm).1.2.2.1) hs_) (fun hn_ => (Kd.fresh' (Kd.R_lt (by (with_reducible repeat (first | apply Kd.R_alloc | apply Kd.R_drewN | apply Kd.R_drew)); exact HO387.out)) k_ hn_)), Or.elim hk_ (fun hs_ => fun e_ => (((HO391.out).1 k_ e_.symm).1.2.2.1) hs_) (fun hn_ => (Kd.fresh' (Kd.R_lt (by (with_reducible repeat (first | apply Kd.R_alloc | apply Kd.R_drewN | apply Kd.R_drew)); exact HO391.out)) k_ hn_)), Or.elim hk_ (fun hs_ => fun e_ => (((HO395.out).1 k_ e_.symm).1.1.2) hs_) (fun hn_ => (Kd.fresh' (Kd.R_lt (by (with_reducible repeat (first | apply Kd.R_alloc | apply Kd.R_drewN | apply Kd.R_drew)); exact HO395.out)) k_ hn_))⟩))
      have n8_ := Aside0.mk (hb)
      clear HO369
      clear HO373
      clear BK378
      clear BK383
      clear HO387
      clear HO391
      clear HO395
      clear HB
      clear HO382
      have HO369 := n0_
      have HO373 := n1_
      have BK378 := n2_
      have BK383 := n3_
      have HO387 := n4_
      have HO391 := n5_
      have HO395 := n6_
      have HO399 := n7_
      have HB := n8_
      clear n0_ n1_ n2_ n3_ n4_ n5_ n6_ n7_ n8_
      (try clear hb)
      (try clear hkp)
      (try clear ho0)
      obtain ⟨Ao42, co42, eo42⟩ := Kd.R_slice HO399.out
      (first | subst eo42 | (injection eo42 with f1_ f2_ f3_; have f4_ := f1_.symm; have f5_ := f3_.symm; clear f1_ f2_ f3_; subst f4_; subst f5_))
      refine hK.out _ _ ⟨(blk_cell BK383.out 0).trans rfl, (blk_cell BK383.out 1).trans rfl⟩ (fun hHeld => ?_)
      clear hK K
      refine norm_ (a' := ?_) ?_ ?_
      rotate_left
      · show Act.put _ (some 26) _ = _
        simp only [Act.put, List.setIfInBounds_toArray, List.set_cons_zero, List.set_cons_succ, i64_w, i32_w]
        rfl
      refine last_ (i := 3) (N := none) #[true, true, true, true] rfl rfl (by kernel_rfl) (by decide) (fun K hK => ?_)
      have hs41 : w40.cell? ⟨gb383, 0, none⟩ = some (.bool t379) := (blk_cell BK383.out 0).trans rfl
      have hfs41 := blk_frozen BK383.out 0
      have hns41_0 := NB378_383.out
      have hms41_0 := NB383_378.out
      have hs43 : w40.cell? ⟨gb383, 1, none⟩ = some (.slice Ao27 t380.length co27) := (blk_cell BK383.out 1).trans rfl
      have hfs43 := blk_frozen BK383.out 1
      have hns43_0 := NB378_383.out
      have hms43_0 := NB383_378.out
      refine skip_ (w1 := ?_) (by rfl) rfl ?_ ?_
      rotate_left
      · go_simp
        rfl
      refine hK.out _ _ ?_
      clear hK K
      refine done_ (by kernel_rfl) ?_
      have hcz44_0 := blk_cells2 (w := w40) (g := gb378) BK378.out
      have hfz44_0 := blk_frozen BK378.out
      have hcz45_0 := blk_cells2 (w := w40) (g := gb383) BK383.out
      have hfz45_0 := blk_frozen BK383.out
      try go_wp2_with (first | ((with_reducible refine gate_callee (f := 41) rfl ?_); refine goesL_ (some 29) rfl rfl Try.func41 (by kernel_rfl) rfl #[.agg #[.bool t388, .slice Ao34 t389.length co34], .agg #[.bool t396, .slice Ao42 t397.length co42]] rfl (by (try simp only [List.map_toArray, List.map_cons, List.map_nil]); first | done | rfl | (simp only [List.length_drop, List.length_take]; rfl)) ?_; (with_reducible refine (windhoverref01_over.calls k t388 _ _ t389 t396 _ _ t397 t400 _ ?side1 ?side2 ?side3 ?side4 A14.out).mono ?_); (case side1 => refine (Kd.R_reads' (e := 3) (base := w.heap.size) (ok := fun k_ => (some k_ ≠ (.slice Ao17 t367.length co17 : Value).ownBlock ∧ (some k_ ≠ (.slice Ao18 t371.length co18 : Value).ownBlock ∧ (some k_ ≠ (.slice Ao31 t385.length co31 : Value).ownBlock ∧ (some k_ ≠ (.slice Ao39 t393.length co39 : Value).ownBlock ∧ some k_ ≠ (.slice Ao42 t397.length co42 : Value).ownBlock))))) (n := t389.length) (c := co34) ?_).2.2; exact (by (with_reducible repeat (first | apply Kd.R_alloc | apply Kd.R_drewN | apply Kd.R_drew)); exact (Kd.R_mono (Kd.R_far (p := ⟨gb383, 1, none⟩) (Kd.R_far (p := ⟨gb383, 0, none⟩) (Kd.R_types HO391.out BK383.out (by decide)) (fun _ hk => hk.2) (.bool t396)) (fun _ hk => hk.2) (.slice Ao42 t397.length co42)) (fun _ h_ => h_.1)))); (case side2 => exact (Kd.R_reads' HO391.out).2.1); (case side3 => refine (Kd.R_reads' (e := 3) (base := w.heap.size) (ok := fun k_ => (some k_ ≠ (.slice Ao17 t367.length co17 : Value).ownBlock ∧ (some k_ ≠ (.slice Ao18 t371.length co18 : Value).ownBlock ∧ (some k_ ≠ (.slice Ao31 t385.length co31 : Value).ownBlock ∧ (some k_ ≠ (.slice Ao34 t389.length co34 : Value).ownBlock ∧ some k_ ≠ (.slice Ao39 t393.length co39 : Value).ownBlock))))) (n := t397.length) (c := co42) ?_).2.2; exact (by (with_reducible repeat (first | apply Kd.R_alloc | apply Kd.R_drewN | apply Kd.R_drew)); exact (Kd.R_mono (Kd.R_far (p := ⟨gb383, 1, none⟩) (Kd.R_far (p := ⟨gb383, 0, none⟩) (Kd.R_types HO399.out BK383.out (by decide)) (fun _ hk => hk.2) (.bool t396)) (fun _ hk => hk.2) (.slice Ao42 t397.length co42)) (fun _ h_ => h_.1)))); (case side4 => exact (Kd.R_reads' HO399.out).2.1); rintro e w46 ⟨rfl, hb⟩; refine ⟨_, rfl, ?_⟩; have n0_ := Aside0.mk (Kd.R_below (by (with_reducible repeat (first | apply Kd.R_alloc | apply Kd.R_drewN | apply Kd.R_drew)); exact (Kd.R_mono (Kd.R_far (p := ⟨gb383, 1, none⟩) (Kd.R_far (p := ⟨gb383, 0, none⟩) (Kd.R_types HO369.out BK383.out (by decide)) (fun _ hk => hk.2) (.bool t396)) (fun _ hk => hk.2) (.slice Ao42 t397.length co42)) (fun _ h_ => h_.1))) hb); have n1_ := Aside0.mk (Kd.R_below (by (with_reducible repeat (first | apply Kd.R_alloc | apply Kd.R_drewN | apply Kd.R_drew)); exact (Kd.R_mono (Kd.R_far (p := ⟨gb383, 1, none⟩) (Kd.R_far (p := ⟨gb383, 0, none⟩) (Kd.R_types HO373.out BK383.out (by decide)) (fun _ hk => hk.2) (.bool t396)) (fun _ hk => hk.2) (.slice Ao42 t397.length co42)) (fun _ h_ => h_.1))) hb); have n2_ := Aside0.mk (Kd.R_below (by (with_reducible repeat (first | apply Kd.R_alloc | apply Kd.R_drewN | apply Kd.R_drew)); exact (Kd.R_mono (Kd.R_far (p := ⟨gb383, 1, none⟩) (Kd.R_far (p := ⟨gb383, 0, none⟩) (Kd.R_types HO387.out BK383.out (by decide)) (fun _ hk => hk.2) (.bool t396)) (fun _ hk => hk.2) (.slice Ao42 t397.length co42)) (fun _ h_ => h_.1))) hb); have n3_ := Aside0.mk (Kd.R_below (by (with_reducible repeat (first | apply Kd.R_alloc | apply Kd.R_drewN | apply Kd.R_drew)); exact (Kd.R_mono (Kd.R_far (p := ⟨gb383, 1, none⟩) (Kd.R_far (p := ⟨gb383, 0, none⟩) (Kd.R_types HO391.out BK383.out (by decide)) (fun _ hk => hk.2) (.bool t396)) (fun _ hk => hk.2) (.slice Ao42 t397.length co42)) (fun _ h_ => h_.1))) hb); have n4_ := Aside0.mk (Kd.R_below (by (with_reducible repeat (first | apply Kd.R_alloc | apply Kd.R_drewN | apply Kd.R_drew)); exact (Kd.R_mono (Kd.R_far (p := ⟨gb383, 1, none⟩) (Kd.R_far (p := ⟨gb383, 0, none⟩) (Kd.R_types HO395.out BK383.out (by decide)) (fun _ hk => hk.2) (.bool t396)) (fun _ hk => hk.2) (.slice Ao42 t397.length co42)) (fun _ h_ => h_.1))) hb); have n5_ := Aside0.mk (Kd.R_below (by (with_reducible repeat (first | apply Kd.R_alloc | apply Kd.R_drewN | apply Kd.R_drew)); exact (Kd.R_mono (Kd.R_far (p := ⟨gb383, 1, none⟩) (Kd.R_far (p := ⟨gb383, 0, none⟩) (Kd.R_types HO399.out BK383.out (by decide)) (fun _ hk => hk.2) (.bool t396)) (fun _ hk => hk.2) (.slice Ao42 t397.length co42)) (fun _ h_ => h_.1))) hb); have n6_ := Aside0.mk (blk_below (g := gb378) (o := .cells #[.bool t388, .slice Ao34 t389.length co34] 30 (0, 0)) (by (with_reducible repeat (first | refine blk_drewN ?_ _ | refine blk_drew ?_ | refine blk_alloc ?_ _)); refine blk_far ?_ NB378_383.out _; (with_reducible repeat (first | refine blk_drewN ?_ _ | refine blk_drew ?_ | refine blk_alloc ?_ _)); refine blk_far ?_ NB378_383.out _; (with_reducible repeat (first | refine blk_drewN ?_ _ | refine blk_drew ?_ | refine blk_alloc ?_ _)); exact BK378.out) hb); have n7_ := Aside0.mk (blk_below (g := gb383) (o := .cells #[.bool t396, .slice Ao42 t397.length co42] 30 (0, 0)) (by (with_reducible repeat (first | refine blk_drewN ?_ _ | refine blk_drew ?_ | refine blk_alloc ?_ _)); refine blk_put (cs := #[.bool t396, .slice Ao27 t380.length co27]) ?_ 1 _ rfl; (with_reducible repeat (first | refine blk_drewN ?_ _ | refine blk_drew ?_ | refine blk_alloc ?_ _)); refine blk_put (cs := #[.bool t379, .slice Ao27 t380.length co27]) ?_ 0 _ rfl; (with_reducible repeat (first | refine blk_drewN ?_ _ | refine blk_drew ?_ | refine blk_alloc ?_ _)); exact BK383.out) hb); have n8_ := Aside0.mk (below_step (by repeat (first | (with_reducible first | exact HB.out | apply below_alloc | apply pw_below_drewN | apply below_drew1 | refine below_set ?_ GE378.out | refine below_set ?_ GE383.out) | exact HB.out)) hb); clear HO369; clear HO373; clear HO387; clear HO391; clear HO395; clear HO399; clear BK378; clear BK383; clear HB; have HO369 := n0_; have HO373 := n1_; have HO387 := n2_; have HO391 := n3_; have HO395 := n4_; have HO399 := n5_; have BK378 := n6_; have BK383 := n7_; have HB := n8_; clear n0_ n1_ n2_ n3_ n4_ n5_ n6_ n7_ n8_; (try clear hb); (try clear hb2); (try clear hk); (try clear hi)))
      go_ret2
      exact ⟨by first | rfl | (simp [errW_none, errW_some] <;> rfl) | (simp [*, errW_none, errW_some] <;> rfl), by repeat (first | (with_reducible first | exact HB.out | apply below_alloc | apply pw_below_drewN | apply below_drew1 | refine below_set ?_ GE378.out | refine below_set ?_ GE383.out) | exact HB.out)⟩
    · rw [if_neg c9] at H
      have c9b0 : decide (a2 < 0) = false := decide_eq_false c9
      clear c9
      replace H := Option.bind_eq_some_iff.mp H
      obtain ⟨t401, A470, H⟩ := H
      replace H : (some (t401, 0)) = some (r1, r2) := H
      have A47 := Aside0.mk A470
      clear A470
      simp only [Option.some.injEq, Prod.mk.injEq] at H
      obtain ⟨rfl, rfl⟩ := H
      go_enter Try.func24, Try.ntmps24
      go_wp2_with (first | ((with_reducible refine gate_callee (f := 21) rfl ?_); refine goesL_ (some 13) rfl rfl Try.func21 (by kernel_rfl) rfl #[.int .i64 a0] rfl (by (try simp only [List.map_toArray, List.map_cons, List.map_nil]); first | done | rfl | (simp only [List.length_drop, List.length_take]; rfl)) ?_; (with_reducible refine (windhoverref00_Of.calls k a0 t366 t367 _ A5.out).mono ?_); rintro e w48 ⟨v368, rfl, ho0, hb⟩; refine ⟨_, rfl, ?_⟩; have n0_ := Aside0.mk (Kd.R_lower ho0 (below_size (by repeat (first | (with_reducible first | exact HB.out | apply below_alloc | apply pw_below_drewN | apply below_drew1) | exact HB.out)))); have n1_ := Aside0.mk (below_step (by repeat (first | (with_reducible first | exact HB.out | apply below_alloc | apply pw_below_drewN | apply below_drew1) | exact HB.out)) hb); clear HB; have HO369 := n0_; have HB := n1_; clear n0_ n1_; (try clear hb); (try clear hb2); (try clear hk); (try clear hi); (try clear ho0)) | ((with_reducible refine gate_callee (f := 21) rfl ?_); refine goesL_ (some 15) rfl rfl Try.func21 (by kernel_rfl) rfl #[.int .i64 a1] rfl (by (try simp only [List.map_toArray, List.map_cons, List.map_nil]); first | done | rfl | (simp only [List.length_drop, List.length_take]; rfl)) ?_; (with_reducible refine (windhoverref00_Of.calls k a1 t370 t371 _ A6.out).mono ?_); rintro e w49 ⟨v372, rfl, ho0, hb⟩; refine ⟨_, rfl, ?_⟩; have n0_ := Aside0.mk (Kd.R_elder' (by (with_reducible repeat (first | apply Kd.R_alloc | apply Kd.R_drewN | apply Kd.R_drew)); exact HO369.out) (Kd.R_base ho0) hb); have n1_ := Aside0.mk (Kd.R_lower (Kd.R_new' ho0 (Kd.R_lt (by (with_reducible repeat (first | apply Kd.R_alloc | apply Kd.R_drewN | apply Kd.R_drew)); exact HO369.out))) (below_size (by repeat (first | (with_reducible first | exact HB.out | apply below_alloc | apply pw_below_drewN | apply below_drew1) | exact HB.out)))); have n2_ := Aside0.mk (below_step (by repeat (first | (with_reducible first | exact HB.out | apply below_alloc | apply pw_below_drewN | apply below_drew1) | exact HB.out)) hb); clear HO369; clear HB; have HO369 := n0_; have HO373 := n1_; have HB := n2_; clear n0_ n1_ n2_; (try clear hb); (try clear hb2); (try clear hk); (try clear hi); (try clear ho0); obtain ⟨Ao50, co50, eo50⟩ := Kd.R_slice HO369.out; subst eo50; obtain ⟨Ao51, co51, eo51⟩ := Kd.R_slice HO373.out; subst eo51) | ((with_reducible refine gate_callee (f := 20) rfl ?_); refine goesL_ (some 16) rfl rfl Try.func20 (by kernel_rfl) rfl #[.agg #[.bool t366, .slice Ao50 t367.length co50], .agg #[.bool t370, .slice Ao51 t371.length co51]] rfl (by (try simp only [List.map_toArray, List.map_cons, List.map_nil]); first | done | rfl | (simp only [List.length_drop, List.length_take]; rfl)) ?_; (with_reducible refine (windhoverref00_Times.calls k t366 _ _ t367 t370 _ _ t371 t374 t375 _ ?side1 ?side2 ?side3 ?side4 A7.out).mono ?_); (case side1 => repeat (first | exact (Kd.R_reads' HO369.out).2.2 | (with_reducible refine Kd.C_alloc ?_ _) | (with_reducible refine Kd.C_drewN ?_ _) | (with_reducible refine Kd.C_drew ?_))); (case side2 => exact (Kd.R_reads' HO369.out).2.1); (case side3 => repeat (first | exact (Kd.R_reads' HO373.out).2.2 | (with_reducible refine Kd.C_alloc ?_ _) | (with_reducible refine Kd.C_drewN ?_ _) | (with_reducible refine Kd.C_drew ?_))); (case side4 => exact (Kd.R_reads' HO373.out).2.1); rintro e w52 ⟨v376, rfl, ho0, hb⟩; refine ⟨_, rfl, ?_⟩; have n0_ := Aside0.mk (Kd.R_elder' (by (with_reducible repeat (first | apply Kd.R_alloc | apply Kd.R_drewN | apply Kd.R_drew)); exact HO369.out) (Kd.R_base ho0) hb); have n1_ := Aside0.mk (Kd.R_elder' (by (with_reducible repeat (first | apply Kd.R_alloc | apply Kd.R_drewN | apply Kd.R_drew)); exact HO373.out) (Kd.R_base ho0) hb); have n2_ := Aside0.mk (Kd.R_lower (Kd.R_new' (Kd.R_new' ho0 (Kd.R_lt (by (with_reducible repeat (first | apply Kd.R_alloc | apply Kd.R_drewN | apply Kd.R_drew)); exact HO369.out))) (Kd.R_lt (by (with_reducible repeat (first | apply Kd.R_alloc | apply Kd.R_drewN | apply Kd.R_drew)); exact HO373.out))) (below_size (by repeat (first | (with_reducible first | exact HB.out | apply below_alloc | apply pw_below_drewN | apply below_drew1) | exact HB.out)))); have n3_ := Aside0.mk (below_step (by repeat (first | (with_reducible first | exact HB.out | apply below_alloc | apply pw_below_drewN | apply below_drew1) | exact HB.out)) hb); clear HO369; clear HO373; clear HB; have HO369 := n0_; have HO373 := n1_; have HO377 := n2_; have HB := n3_; clear n0_ n1_ n2_ n3_; (try clear hb); (try clear hb2); (try clear hk); (try clear hi); (try clear ho0)) | ((with_reducible refine gate_dst (N := 8) rfl ?_); refine box_event ?hg (N := 8) ?hd (cs := #[.bool false, .slice none 0 0]) (t := 30) ?hr ?_; (case hd => rfl); (case hg => rfl); (case hr => first | (go_simp; done) | (go_simp; rfl)); intro gb378 hg w53 hbox hb; have n0_ := Aside0.mk (Kd.R_below (by (with_reducible repeat (first | apply Kd.R_alloc | apply Kd.R_drewN | apply Kd.R_drew)); exact HO369.out) hb); have n1_ := Aside0.mk (Kd.R_below (by (with_reducible repeat (first | apply Kd.R_alloc | apply Kd.R_drewN | apply Kd.R_drew)); exact HO373.out) hb); have n2_ := Aside0.mk (Kd.R_below (by (with_reducible repeat (first | apply Kd.R_alloc | apply Kd.R_drewN | apply Kd.R_drew)); exact HO377.out) hb); have n3_ := Aside0.mk (below_step (by repeat (first | (with_reducible first | exact HB.out | apply below_alloc | apply pw_below_drewN | apply below_drew1) | exact HB.out)) hb); have n4_ := Aside0.mk (hbox); have n5_ := Aside0.mk ((by rw [hg]; exact (below_size (by repeat (first | (with_reducible first | exact HB.out | apply below_alloc | apply pw_below_drewN | apply below_drew1) | exact HB.out))) : w.heap.size ≤ gb378)); have n6_ := Aside0.mk ((by rw [hg]; exact (below_size (by repeat (first | (with_reducible first | exact HB.out | apply below_alloc | apply pw_below_drewN | apply below_drew1) | exact HB.out))) : w.heap.size ≤ gb378)); clear HO369; clear HO373; clear HO377; clear HB; have HO369 := n0_; have HO373 := n1_; have HO377 := n2_; have HB := n3_; have BK378 := n4_; have GW378 := n5_; have GE378 := n6_; clear n0_ n1_ n2_ n3_ n4_ n5_ n6_; clear hb hbox hg; have hcz54_0 := blk_cells2 (w := w53) (g := gb378) BK378.out; have hfz54_0 := blk_frozen BK378.out; obtain ⟨Ao55, co55, eo55⟩ := Kd.R_slice HO377.out; subst eo55) | ((with_reducible refine gate_callee (f := 21) rfl ?_); refine goesL_ (some 18) rfl rfl Try.func21 (by kernel_rfl) rfl #[.int .i64 a2] rfl (by (try simp only [List.map_toArray, List.map_cons, List.map_nil]); first | done | rfl | (simp only [List.length_drop, List.length_take]; rfl)) ?_; (with_reducible refine (windhoverref00_Of.calls k a2 t379 t380 _ A8.out).mono ?_); rintro e w56 ⟨v381, rfl, ho0, hb⟩; refine ⟨_, rfl, ?_⟩; have n0_ := Aside0.mk (Kd.R_elder' (by (with_reducible repeat (first | apply Kd.R_alloc | apply Kd.R_drewN | apply Kd.R_drew)); exact (Kd.R_mono (Kd.R_far (p := ⟨gb378, 1, none⟩) (Kd.R_far (p := ⟨gb378, 0, none⟩) (Kd.R_types HO369.out BK378.out (by decide)) (fun _ hk => hk.2) (.bool t374)) (fun _ hk => hk.2) (.slice Ao55 t375.length co55)) (fun _ h_ => h_.1))) (Kd.R_base ho0) hb); have n1_ := Aside0.mk (Kd.R_elder' (by (with_reducible repeat (first | apply Kd.R_alloc | apply Kd.R_drewN | apply Kd.R_drew)); exact (Kd.R_mono (Kd.R_far (p := ⟨gb378, 1, none⟩) (Kd.R_far (p := ⟨gb378, 0, none⟩) (Kd.R_types HO373.out BK378.out (by decide)) (fun _ hk => hk.2) (.bool t374)) (fun _ hk => hk.2) (.slice Ao55 t375.length co55)) (fun _ h_ => h_.1))) (Kd.R_base ho0) hb); have n2_ := Aside0.mk (Kd.R_elder' (by (with_reducible repeat (first | apply Kd.R_alloc | apply Kd.R_drewN | apply Kd.R_drew)); exact (Kd.R_mono (Kd.R_far (p := ⟨gb378, 1, none⟩) (Kd.R_far (p := ⟨gb378, 0, none⟩) (Kd.R_types HO377.out BK378.out (by decide)) (fun _ hk => hk.2) (.bool t374)) (fun _ hk => hk.2) (.slice Ao55 t375.length co55)) (fun _ h_ => h_.1))) (Kd.R_base ho0) hb); have n3_ := Aside0.mk (Kd.R_lower (Kd.R_new' (Kd.R_new' (Kd.R_new' ho0 (Kd.R_lt (by (with_reducible repeat (first | apply Kd.R_alloc | apply Kd.R_drewN | apply Kd.R_drew)); exact (Kd.R_mono (Kd.R_far (p := ⟨gb378, 1, none⟩) (Kd.R_far (p := ⟨gb378, 0, none⟩) (Kd.R_types HO369.out BK378.out (by decide)) (fun _ hk => hk.2) (.bool t374)) (fun _ hk => hk.2) (.slice Ao55 t375.length co55)) (fun _ h_ => h_.1))))) (Kd.R_lt (by (with_reducible repeat (first | apply Kd.R_alloc | apply Kd.R_drewN | apply Kd.R_drew)); exact (Kd.R_mono (Kd.R_far (p := ⟨gb378, 1, none⟩) (Kd.R_far (p := ⟨gb378, 0, none⟩) (Kd.R_types HO373.out BK378.out (by decide)) (fun _ hk => hk.2) (.bool t374)) (fun _ hk => hk.2) (.slice Ao55 t375.length co55)) (fun _ h_ => h_.1))))) (Kd.R_lt (by (with_reducible repeat (first | apply Kd.R_alloc | apply Kd.R_drewN | apply Kd.R_drew)); exact (Kd.R_mono (Kd.R_far (p := ⟨gb378, 1, none⟩) (Kd.R_far (p := ⟨gb378, 0, none⟩) (Kd.R_types HO377.out BK378.out (by decide)) (fun _ hk => hk.2) (.bool t374)) (fun _ hk => hk.2) (.slice Ao55 t375.length co55)) (fun _ h_ => h_.1))))) (below_size (by repeat (first | (with_reducible first | exact HB.out | apply below_alloc | apply pw_below_drewN | apply below_drew1 | refine below_set ?_ GE378.out) | exact HB.out)))); have n4_ := Aside0.mk (blk_below (g := gb378) (o := .cells #[.bool t374, .slice Ao55 t375.length co55] 30 (0, 0)) (by (with_reducible repeat (first | refine blk_drewN ?_ _ | refine blk_drew ?_ | refine blk_alloc ?_ _)); refine blk_put (cs := #[.bool t374, .slice none 0 0]) ?_ 1 _ rfl; (with_reducible repeat (first | refine blk_drewN ?_ _ | refine blk_drew ?_ | refine blk_alloc ?_ _)); refine blk_put (cs := #[.bool false, .slice none 0 0]) ?_ 0 _ rfl; (with_reducible repeat (first | refine blk_drewN ?_ _ | refine blk_drew ?_ | refine blk_alloc ?_ _)); exact BK378.out) hb); have n5_ := Aside0.mk (below_step (by repeat (first | (with_reducible first | exact HB.out | apply below_alloc | apply pw_below_drewN | apply below_drew1 | refine below_set ?_ GE378.out) | exact HB.out)) hb); clear HO369; clear HO373; clear HO377; clear BK378; clear HB; have HO369 := n0_; have HO373 := n1_; have HO377 := n2_; have HO382 := n3_; have BK378 := n4_; have HB := n5_; clear n0_ n1_ n2_ n3_ n4_ n5_; (try clear hb); (try clear hb2); (try clear hk); (try clear hi); (try clear ho0)) | ((with_reducible refine gate_dst (N := 9) rfl ?_); refine box_event ?hg (N := 9) ?hd (cs := #[.bool false, .slice none 0 0]) (t := 30) ?hr ?_; (case hd => rfl); (case hg => rfl); (case hr => first | (go_simp; done) | (go_simp; rfl)); intro gb383 hg w57 hbox hb; have n0_ := Aside0.mk (Kd.R_below (by (with_reducible repeat (first | apply Kd.R_alloc | apply Kd.R_drewN | apply Kd.R_drew)); exact HO369.out) hb); have n1_ := Aside0.mk (Kd.R_below (by (with_reducible repeat (first | apply Kd.R_alloc | apply Kd.R_drewN | apply Kd.R_drew)); exact HO373.out) hb); have n2_ := Aside0.mk (Kd.R_below (by (with_reducible repeat (first | apply Kd.R_alloc | apply Kd.R_drewN | apply Kd.R_drew)); exact HO377.out) hb); have n3_ := Aside0.mk (Kd.R_below (by (with_reducible repeat (first | apply Kd.R_alloc | apply Kd.R_drewN | apply Kd.R_drew)); exact HO382.out) hb); have n4_ := Aside0.mk (blk_below (g := gb378) (o := .cells #[.bool t374, .slice Ao55 t375.length co55] 30 (0, 0)) (by (with_reducible repeat (first | refine blk_drewN ?_ _ | refine blk_drew ?_ | refine blk_alloc ?_ _)); exact BK378.out) hb); have n5_ := Aside0.mk (below_step (by repeat (first | (with_reducible first | exact HB.out | apply below_alloc | apply pw_below_drewN | apply below_drew1 | refine below_set ?_ GE378.out) | exact HB.out)) hb); have n6_ := Aside0.mk (hbox); have n7_ := Aside0.mk ((by rw [hg]; exact (below_size (by repeat (first | (with_reducible first | exact HB.out | apply below_alloc | apply pw_below_drewN | apply below_drew1 | refine below_set ?_ GE378.out) | exact HB.out))) : w.heap.size ≤ gb383)); have n8_ := Aside0.mk ((by rw [hg]; exact (below_size (by repeat (first | (with_reducible first | exact HB.out | apply below_alloc | apply pw_below_drewN | apply below_drew1 | refine below_set ?_ GE378.out) | exact HB.out))) : w.heap.size ≤ gb383)); have n9_ := Aside0.mk ((by rw [hg]; exact Nat.ne_of_lt (blk_lt (g := gb378) (o := .cells #[.bool t374, .slice Ao55 t375.length co55] 30 (0, 0)) (by (with_reducible repeat (first | refine blk_drewN ?_ _ | refine blk_drew ?_ | refine blk_alloc ?_ _)); exact BK378.out)) : gb378 ≠ gb383)); have n10_ := Aside0.mk ((by rw [hg]; exact Nat.ne_of_gt (blk_lt (g := gb378) (o := .cells #[.bool t374, .slice Ao55 t375.length co55] 30 (0, 0)) (by (with_reducible repeat (first | refine blk_drewN ?_ _ | refine blk_drew ?_ | refine blk_alloc ?_ _)); exact BK378.out)) : gb383 ≠ gb378)); clear HO369; clear HO373; clear HO377; clear HO382; clear BK378; clear HB; have HO369 := n0_; have HO373 := n1_; have HO377 := n2_; have HO382 := n3_; have BK378 := n4_; have HB := n5_; have BK383 := n6_; have GW383 := n7_; have GE383 := n8_; have NB378_383 := n9_; have NB383_378 := n10_; clear n0_ n1_ n2_ n3_ n4_ n5_ n6_ n7_ n8_ n9_ n10_; clear hb hbox hg; have hnb58 := NB383_378.out; have hnc58 := NB378_383.out; have hcz59_0 := blk_cells2 (w := w57) (g := gb383) BK383.out; have hfz59_0 := blk_frozen BK383.out; obtain ⟨Ao60, co60, eo60⟩ := Kd.R_slice HO382.out; subst eo60; have hcz61_0 := blk_cells2 (w := w57) (g := gb378) BK378.out; have hfz61_0 := blk_frozen BK378.out) | ((with_reducible refine gate_callee (f := 41) rfl ?_); refine goesL_ (some 29) rfl rfl Try.func41 (by kernel_rfl) rfl #[.agg #[.bool t374, .slice Ao55 t375.length co55], .agg #[.bool t379, .slice Ao60 t380.length co60]] rfl (by (try simp only [List.map_toArray, List.map_cons, List.map_nil]); first | done | rfl | (simp only [List.length_drop, List.length_take]; rfl)) ?_; (with_reducible refine (windhoverref01_over.calls k t374 _ _ t375 t379 _ _ t380 t401 _ ?side1 ?side2 ?side3 ?side4 A47.out).mono ?_); (case side1 => refine (Kd.R_reads' (e := 3) (base := w.heap.size) (ok := fun k_ => (((True ∧ some k_ ≠ (.slice Ao50 t367.length co50 : Value).ownBlock) ∧ some k_ ≠ (.slice Ao51 t371.length co51 : Value).ownBlock) ∧ some k_ ≠ (.slice Ao60 t380.length co60 : Value).ownBlock)) (n := t375.length) (c := co55) ?_).2.2; exact (by (with_reducible repeat (first | apply Kd.R_alloc | apply Kd.R_drewN | apply Kd.R_drew)); exact (Kd.R_mono (Kd.R_far (p := ⟨gb383, 1, none⟩) (Kd.R_far (p := ⟨gb383, 0, none⟩) (Kd.R_types HO377.out BK383.out (by decide)) (fun _ hk => hk.2) (.bool t379)) (fun _ hk => hk.2) (.slice Ao60 t380.length co60)) (fun _ h_ => h_.1)))); (case side2 => exact (Kd.R_reads' HO377.out).2.1); (case side3 => refine (Kd.R_reads' (e := 3) (base := w.heap.size) (ok := fun k_ => (((True ∧ some k_ ≠ (.slice Ao50 t367.length co50 : Value).ownBlock) ∧ some k_ ≠ (.slice Ao51 t371.length co51 : Value).ownBlock) ∧ some k_ ≠ (.slice Ao55 t375.length co55 : Value).ownBlock)) (n := t380.length) (c := co60) ?_).2.2; exact (by (with_reducible repeat (first | apply Kd.R_alloc | apply Kd.R_drewN | apply Kd.R_drew)); exact (Kd.R_mono (Kd.R_far (p := ⟨gb383, 1, none⟩) (Kd.R_far (p := ⟨gb383, 0, none⟩) (Kd.R_types HO382.out BK383.out (by decide)) (fun _ hk => hk.2) (.bool t379)) (fun _ hk => hk.2) (.slice Ao60 t380.length co60)) (fun _ h_ => h_.1)))); (case side4 => exact (Kd.R_reads' HO382.out).2.1); rintro e w62 ⟨rfl, hb⟩; refine ⟨_, rfl, ?_⟩; have n0_ := Aside0.mk (Kd.R_below (by (with_reducible repeat (first | apply Kd.R_alloc | apply Kd.R_drewN | apply Kd.R_drew)); exact (Kd.R_mono (Kd.R_far (p := ⟨gb383, 1, none⟩) (Kd.R_far (p := ⟨gb383, 0, none⟩) (Kd.R_types HO369.out BK383.out (by decide)) (fun _ hk => hk.2) (.bool t379)) (fun _ hk => hk.2) (.slice Ao60 t380.length co60)) (fun _ h_ => h_.1))) hb); have n1_ := Aside0.mk (Kd.R_below (by (with_reducible repeat (first | apply Kd.R_alloc | apply Kd.R_drewN | apply Kd.R_drew)); exact (Kd.R_mono (Kd.R_far (p := ⟨gb383, 1, none⟩) (Kd.R_far (p := ⟨gb383, 0, none⟩) (Kd.R_types HO373.out BK383.out (by decide)) (fun _ hk => hk.2) (.bool t379)) (fun _ hk => hk.2) (.slice Ao60 t380.length co60)) (fun _ h_ => h_.1))) hb); have n2_ := Aside0.mk (Kd.R_below (by (with_reducible repeat (first | apply Kd.R_alloc | apply Kd.R_drewN | apply Kd.R_drew)); exact (Kd.R_mono (Kd.R_far (p := ⟨gb383, 1, none⟩) (Kd.R_far (p := ⟨gb383, 0, none⟩) (Kd.R_types HO377.out BK383.out (by decide)) (fun _ hk => hk.2) (.bool t379)) (fun _ hk => hk.2) (.slice Ao60 t380.length co60)) (fun _ h_ => h_.1))) hb); have n3_ := Aside0.mk (Kd.R_below (by (with_reducible repeat (first | apply Kd.R_alloc | apply Kd.R_drewN | apply Kd.R_drew)); exact (Kd.R_mono (Kd.R_far (p := ⟨gb383, 1, none⟩) (Kd.R_far (p := ⟨gb383, 0, none⟩) (Kd.R_types HO382.out BK383.out (by decide)) (fun _ hk => hk.2) (.bool t379)) (fun _ hk => hk.2) (.slice Ao60 t380.length co60)) (fun _ h_ => h_.1))) hb); have n4_ := Aside0.mk (blk_below (g := gb378) (o := .cells #[.bool t374, .slice Ao55 t375.length co55] 30 (0, 0)) (by (with_reducible repeat (first | refine blk_drewN ?_ _ | refine blk_drew ?_ | refine blk_alloc ?_ _)); refine blk_far ?_ NB378_383.out _; (with_reducible repeat (first | refine blk_drewN ?_ _ | refine blk_drew ?_ | refine blk_alloc ?_ _)); refine blk_far ?_ NB378_383.out _; (with_reducible repeat (first | refine blk_drewN ?_ _ | refine blk_drew ?_ | refine blk_alloc ?_ _)); exact BK378.out) hb); have n5_ := Aside0.mk (blk_below (g := gb383) (o := .cells #[.bool t379, .slice Ao60 t380.length co60] 30 (0, 0)) (by (with_reducible repeat (first | refine blk_drewN ?_ _ | refine blk_drew ?_ | refine blk_alloc ?_ _)); refine blk_put (cs := #[.bool t379, .slice none 0 0]) ?_ 1 _ rfl; (with_reducible repeat (first | refine blk_drewN ?_ _ | refine blk_drew ?_ | refine blk_alloc ?_ _)); refine blk_put (cs := #[.bool false, .slice none 0 0]) ?_ 0 _ rfl; (with_reducible repeat (first | refine blk_drewN ?_ _ | refine blk_drew ?_ | refine blk_alloc ?_ _)); exact BK383.out) hb); have n6_ := Aside0.mk (below_step (by repeat (first | (with_reducible first | exact HB.out | apply below_alloc | apply pw_below_drewN | apply below_drew1 | refine below_set ?_ GE378.out | refine below_set ?_ GE383.out) | exact HB.out)) hb); clear HO369; clear HO373; clear HO377; clear HO382; clear BK378; clear BK383; clear HB; have HO369 := n0_; have HO373 := n1_; have HO377 := n2_; have HO382 := n3_; have BK378 := n4_; have BK383 := n5_; have HB := n6_; clear n0_ n1_ n2_ n3_ n4_ n5_ n6_; (try clear hb); (try clear hb2); (try clear hk); (try clear hi)))
      go_ret2
      exact ⟨by first | rfl | (simp [errW_none, errW_some] <;> rfl) | (simp [*, errW_none, errW_some] <;> rfl), by repeat (first | (with_reducible first | exact HB.out | apply below_alloc | apply pw_below_drewN | apply below_drew1 | refine below_set ?_ GE378.out | refine below_set ?_ GE383.out) | exact HB.out)⟩

end Go.Proofs.Ytmjhhcalcpodjaa.PFixShares
