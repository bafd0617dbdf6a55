-- WRITTEN BY wip/tools/aprint.py of this claim's repository over the kit's words: not typed by hand
import Derived.Test.YtaabdnamofmfcaaPParamsRangesx0
namespace Go.Proofs.Ytaabdnamofmfcaa.PParamsRanges
open Go.RowKit Go.Proofs.YtaabdnamofmfcaaW.PrintWords Go.Proofs.YtaabdnamofmfcaaW.PrintLast Go.Proofs.YtaabdnamofmfcaaW.PrintMore
attribute [local go_sem] max2_int min2_int max_two min_two max_three min_three max_four min_four   -- for this text's walks alone
set_option linter.unusedVariables false
set_option linter.unusedSimpArgs false

/-! ### params_rows: function 35, by hand -/
def params_rows.tb : Array Value := #[.int .i64 0, .int .i64 16, .int .i64 6, .int .i64 1, .int .i64 200, .int .i64 20, .int .i64 0, .int .i64 16, .int .i64 4, .int .i64 1, .int .i64 200, .int .i64 20, .int .i64 0, .int .i64 16, .int .i64 4, .int .i64 0, .int .i64 4, .int .i64 2, .int .i64 4, .int .i64 32, .int .i64 12, .int .i64 1600, .int .i64 64000, .int .i64 16000, .int .i64 1600, .int .i64 32000, .int .i64 8000, .int .i64 2000, .int .i64 16000, .int .i64 8000, .int .i64 1000, .int .i64 120000, .int .i64 5000, .int .i64 500, .int .i64 120000, .int .i64 2000, .int .i64 200, .int .i64 10000, .int .i64 1000, .int .i64 100, .int .i64 10000, .int .i64 500, .int .i64 40, .int .i64 40000, .int .i64 4000, .int .i64 40, .int .i64 40000, .int .i64 400, .int .i64 1, .int .i64 40, .int .i64 8, .int .i64 0, .int .i64 1000000000, .int .i64 1000, .int .i64 0, .int .i64 1000000, .int .i64 100, .int .i64 0, .int .i64 1000, .int .i64 1, .int .i64 0, .int .i64 1000, .int .i64 2, .int .i64 1, .int .i64 10000, .int .i64 500, .int .i64 0, .int .i64 16384, .int .i64 4000, .int .i64 16, .int .i64 3200, .int .i64 800]
def params_rows.zs : Array Value := #[.int .i64 0, .int .i64 0, .int .i64 0, .int .i64 0, .int .i64 0, .int .i64 0, .int .i64 0, .int .i64 0, .int .i64 0, .int .i64 0, .int .i64 0, .int .i64 0, .int .i64 0, .int .i64 0, .int .i64 0, .int .i64 0, .int .i64 0, .int .i64 0, .int .i64 0, .int .i64 0, .int .i64 0, .int .i64 0, .int .i64 0, .int .i64 0, .int .i64 0, .int .i64 0, .int .i64 0, .int .i64 0, .int .i64 0, .int .i64 0, .int .i64 0, .int .i64 0, .int .i64 0, .int .i64 0, .int .i64 0, .int .i64 0, .int .i64 0, .int .i64 0, .int .i64 0, .int .i64 0, .int .i64 0, .int .i64 0, .int .i64 0, .int .i64 0, .int .i64 0, .int .i64 0, .int .i64 0, .int .i64 0, .int .i64 0, .int .i64 0, .int .i64 0, .int .i64 0, .int .i64 0, .int .i64 0, .int .i64 0, .int .i64 0, .int .i64 0, .int .i64 0, .int .i64 0, .int .i64 0, .int .i64 0, .int .i64 0, .int .i64 0, .int .i64 0, .int .i64 0, .int .i64 0, .int .i64 0, .int .i64 0, .int .i64 0, .int .i64 0, .int .i64 0, .int .i64 0]
def params_rows.f : Option (Int × Int × Int × Int × Int × Int × Int × Int × Int × Int × Int × Int × Int × Int × Int × Int × Int × Int × Int × Int × Int × Int × Int × Int × Int × Int × Int × Int × Int × Int × Int × Int × Int × Int × Int × Int × Int × Int × Int × Int × Int × Int × Int × Int × Int × Int × Int × Int × Int × Int × Int × Int × Int × Int × Int × Int × Int × Int × Int × Int × Int × Int × Int × Int × Int × Int × Int × Int × Int × Int × Int × Int) := some (0, 16, 6, 1, 200, 20, 0, 16, 4, 1, 200, 20, 0, 16, 4, 0, 4, 2, 4, 32, 12, 1600, 64000, 16000, 1600, 32000, 8000, 2000, 16000, 8000, 1000, 120000, 5000, 500, 120000, 2000, 200, 10000, 1000, 100, 10000, 500, 40, 40000, 4000, 40, 40000, 400, 1, 40, 8, 0, 1000000000, 1000, 0, 1000000, 100, 0, 1000, 1, 0, 1000, 2, 1, 10000, 500, 0, 16384, 4000, 16, 3200, 800)
set_option maxRecDepth 100000 in
theorem params_rows.st (w : World) (a : Act) (o : Oper) (h1 : o.op = .store 55 (.tmp 0) (.tmp 25)) (h2 : a.eval (.tmp 0) = .pointer (some ⟨w.heap.size, 0, none⟩)) (h3 : a.eval (.tmp 25) = .agg params_rows.tb) : Sem.run Try.prog (execOp a.eval o) (w.alloc (.cells params_rows.zs 55 (0, 0))) = .ok .skip (w.alloc (.cells params_rows.tb 55 (0, 0))) := by
  have q := run_storeAt_new (P := Try.prog) w 55 params_rows.zs params_rows.tb (by kernel_rfl) (by kernel_rfl) (by kernel_rfl)
  have e : ∀ (ρ : Operand → Value) (o : Oper) (p x : Operand) (v y : Value), o.op = .store 55 p x → ρ p = v → ρ x = y → execOp ρ o = (Instr.storeAt 55 v y >>= fun _ => pure Next.skip) := by
    intro ρ o p x v y h1 h2 h3
    subst h2 h3
    unfold execOp
    rw [h1]
  rw [e _ _ (.tmp 0) (.tmp 25) (.pointer (some ⟨w.heap.size, 0, none⟩)) (.agg params_rows.tb) h1 h2 h3, Sem.run_bind, q]
  rfl
set_option maxHeartbeats 8000000 in
set_option maxRecDepth 100000 in
theorem params_rows.calls (r1 r2 r3 r4 r5 r6 r7 r8 r9 r10 r11 r12 r13 r14 r15 r16 r17 r18 r19 r20 r21 r22 r23 r24 r25 r26 r27 r28 r29 r30 r31 r32 r33 r34 r35 r36 r37 r38 r39 r40 r41 r42 r43 r44 r45 r46 r47 r48 r49 r50 r51 r52 r53 r54 r55 r56 r57 r58 r59 r60 r61 r62 r63 r64 r65 r66 r67 r68 r69 r70 r71 r72 : Int) (w : World) (h : params_rows.f = some (r1, r2, r3, r4, r5, r6, r7, r8, r9, r10, r11, r12, r13, r14, r15, r16, r17, r18, r19, r20, r21, r22, r23, r24, r25, r26, r27, r28, r29, r30, r31, r32, r33, r34, r35, r36, r37, r38, r39, r40, r41, r42, r43, r44, r45, r46, r47, r48, r49, r50, r51, r52, r53, r54, r55, r56, r57, r58, r59, r60, r61, r62, r63, r64, r65, r66, r67, r68, r69, r70, r71, r72)) :
    Calls Try.prog 35 #[] w fun e w' => e = .returned (.agg #[.int .i64 r1, .int .i64 r2, .int .i64 r3, .int .i64 r4, .int .i64 r5, .int .i64 r6, .int .i64 r7, .int .i64 r8, .int .i64 r9, .int .i64 r10, .int .i64 r11, .int .i64 r12, .int .i64 r13, .int .i64 r14, .int .i64 r15, .int .i64 r16, .int .i64 r17, .int .i64 r18, .int .i64 r19, .int .i64 r20, .int .i64 r21, .int .i64 r22, .int .i64 r23, .int .i64 r24, .int .i64 r25, .int .i64 r26, .int .i64 r27, .int .i64 r28, .int .i64 r29, .int .i64 r30, .int .i64 r31, .int .i64 r32, .int .i64 r33, .int .i64 r34, .int .i64 r35, .int .i64 r36, .int .i64 r37, .int .i64 r38, .int .i64 r39, .int .i64 r40, .int .i64 r41, .int .i64 r42, .int .i64 r43, .int .i64 r44, .int .i64 r45, .int .i64 r46, .int .i64 r47, .int .i64 r48, .int .i64 r49, .int .i64 r50, .int .i64 r51, .int .i64 r52, .int .i64 r53, .int .i64 r54, .int .i64 r55, .int .i64 r56, .int .i64 r57, .int .i64 r58, .int .i64 r59, .int .i64 r60, .int .i64 r61, .int .i64 r62, .int .i64 r63, .int .i64 r64, .int .i64 r65, .int .i64 r66, .int .i64 r67, .int .i64 r68, .int .i64 r69, .int .i64 r70, .int .i64 r71, .int .i64 r72]) ∧ Below w.heap.size w w' := by
  have HB := Aside0.mk (Below.refl w.heap.size w)
  simp only [params_rows.f, Option.some.injEq, Prod.mk.injEq] at h
  obtain ⟨rfl, rfl, rfl, rfl, rfl, rfl, rfl, rfl, rfl, rfl, rfl, rfl, rfl, rfl, rfl, rfl, rfl, rfl, rfl, rfl, rfl, rfl, rfl, rfl, rfl, rfl, rfl, rfl, rfl, rfl, rfl, rfl, rfl, rfl, rfl, rfl, rfl, rfl, rfl, rfl, rfl, rfl, rfl, rfl, rfl, rfl, rfl, rfl, rfl, rfl, rfl, rfl, rfl, rfl, rfl, rfl, rfl, rfl, rfl, rfl, rfl, rfl, rfl, rfl, rfl, rfl, rfl, rfl, rfl, rfl, rfl, rfl⟩ := h
  go_enter Try.func35, Try.ntmps35
  go_wp2_with (first
    | ((with_reducible refine gate_dst (N := 25) rfl ?_); refine Kd.event_run (v := .agg params_rows.tb) (w1 := w.alloc (.cells params_rows.zs 55 (0, 0))) rfl ?hr ?_; (case hr => kernel_rfl))
    | ((with_reducible refine gate_dst (N := 0) rfl ?_); refine Kd.event_run (v := .pointer (some ⟨w.heap.size, 0, none⟩)) (w1 := w.alloc (.cells params_rows.zs 55 (0, 0))) rfl ?hr ?_; (case hr => kernel_rfl))
    | ((with_reducible refine gate_store (t := 55) (p := 0) rfl ?_); refine store_event (t := 55) (p := 0) (v := .tmp 25) (w1 := w.alloc (.cells params_rows.tb 55 (0, 0))) rfl rfl rfl (params_rows.st w _ _ rfl rfl rfl) ?_; intro w2 hw2))
  have hg2 : w2.heap[w.heap.size]? = some (.cells params_rows.tb 55 (0, 0)) := by rw [hw2]; exact heap_alloc_last w _
  have HB2 : Below w.heap.size w w2 := by rw [hw2]; exact below_alloc (Below.refl _ _) _
  clear hw2
  go_wp2
  refine bodyPost_ret (results_cell_row rfl _ _ w.heap.size 55 params_rows.tb (0, 0) _ rfl hg2 Try.underlying55 rfl (by kernel_rfl)) rfl ?_
  exact ⟨rfl, HB2⟩


/-! ### params_Check: function 12 -/
def params_Check.tb0_0 : List Int := [0, 1, 0, 1, 0, 0, 4, 1600, 1600, 2000, 1000, 500, 200, 100, 40, 40, 1, 0, 0, 0, 0, 1, 0, 16]
def params_Check.tb0_1 : List Int := [16, 200, 16, 200, 16, 4, 32, 64000, 32000, 16000, 120000, 120000, 10000, 10000, 40000, 40000, 40, 1000000000, 1000000, 1000, 1000, 10000, 16384, 3200]
def params_Check.tb0_2 : List Int := [6, 20, 4, 20, 4, 2, 12, 16000, 8000, 8000, 5000, 2000, 1000, 500, 4000, 400, 8, 1000, 100, 1, 2, 500, 4000, 800]
set_option maxRecDepth 100000 in
theorem params_Check.row0 (j : Int) (h0 : 0 ≤ j) (h1 : j < 24) (W : World) : (Instr.index 55 (.agg #[.int .i64 0, .int .i64 16, .int .i64 6, .int .i64 1, .int .i64 200, .int .i64 20, .int .i64 0, .int .i64 16, .int .i64 4, .int .i64 1, .int .i64 200, .int .i64 20, .int .i64 0, .int .i64 16, .int .i64 4, .int .i64 0, .int .i64 4, .int .i64 2, .int .i64 4, .int .i64 32, .int .i64 12, .int .i64 1600, .int .i64 64000, .int .i64 16000, .int .i64 1600, .int .i64 32000, .int .i64 8000, .int .i64 2000, .int .i64 16000, .int .i64 8000, .int .i64 1000, .int .i64 120000, .int .i64 5000, .int .i64 500, .int .i64 120000, .int .i64 2000, .int .i64 200, .int .i64 10000, .int .i64 1000, .int .i64 100, .int .i64 10000, .int .i64 500, .int .i64 40, .int .i64 40000, .int .i64 4000, .int .i64 40, .int .i64 40000, .int .i64 400, .int .i64 1, .int .i64 40, .int .i64 8, .int .i64 0, .int .i64 1000000000, .int .i64 1000, .int .i64 0, .int .i64 1000000, .int .i64 100, .int .i64 0, .int .i64 1000, .int .i64 1, .int .i64 0, .int .i64 1000, .int .i64 2, .int .i64 1, .int .i64 10000, .int .i64 500, .int .i64 0, .int .i64 16384, .int .i64 4000, .int .i64 16, .int .i64 3200, .int .i64 800]) (.int .i64 j)).run Try.prog W = .ok (.agg #[.int .i64 (rd params_Check.tb0_0 j), .int .i64 (rd params_Check.tb0_1 j), .int .i64 (rd params_Check.tb0_2 j)]) W := by
  have hj : j = 0 ∨ j = 1 ∨ j = 2 ∨ j = 3 ∨ j = 4 ∨ j = 5 ∨ j = 6 ∨ j = 7 ∨ j = 8 ∨ j = 9 ∨ j = 10 ∨ j = 11 ∨ j = 12 ∨ j = 13 ∨ j = 14 ∨ j = 15 ∨ j = 16 ∨ j = 17 ∨ j = 18 ∨ j = 19 ∨ j = 20 ∨ j = 21 ∨ j = 22 ∨ j = 23 := by omega
  rcases hj with rfl | rfl | rfl | rfl | rfl | rfl | rfl | rfl | rfl | rfl | rfl | rfl | rfl | rfl | rfl | rfl | rfl | rfl | rfl | rfl | rfl | rfl | rfl | rfl
  all_goals rfl
def params_Check.l0 : Nat → List Int → Int → Option (Int)
  | 0, _, _ => none
  | k + 1, x0, x11 => if x11 < 24 then (if 0 ≤ x11 then (if x11 < (x0.length : Int) then (if (rd x0 x11) < (rd params_Check.tb0_0 x11) then (some 5) else (if (rd x0 x11) > (rd params_Check.tb0_1 x11) then (some 5) else (params_Check.l0 k x0 (wrap64 (x11 + 1))))) else (none)) else (none)) else (if 2 < (x0.length : Int) then (if 4 < (x0.length : Int) then (if 1 < (x0.length : Int) then (if 3 < (x0.length : Int) then (if 0 < (x0.length : Int) then (if 6 < (x0.length : Int) then (if (wrap64 ((wrap64 ((wrap64 ((rd x0 0) + (rd x0 6))) + (wrap64 (2 * (mx (rd x0 2) (rd x0 4)))))) + 4)) > 64 then (some 80) else (if 12 < (x0.length : Int) then (if (rd x0 12) < (wrap64 ((wrap64 (8 * (mx (rd x0 1) (rd x0 3)))) + 100)) then (some 80) else (if 11 < (x0.length : Int) then (if 10 < (x0.length : Int) then (if (rd x0 11) > (rd x0 10) then (some 80) else (some 0)) else (none)) else (none))) else (none))) else (none)) else (none)) else (none)) else (none)) else (none)) else (none))
def params_Check.f (k : Nat) (l0 : List Int) : Option (Int) := if (l0.length : Int) = 24 then ((params_rows.f).bind fun bt101 => (params_Check.l0 k l0 0)) else (some 3)
theorem params_Check.mono_l : ∀ k, (∀ y0 y1, LeO (params_Check.l0 k y0 y1) (params_Check.l0 (k + 1) y0 y1))
  | 0 => fun _ _ r h => by simp [params_Check.l0] at h
  | k + 1 => by
    have ih0 := params_Check.mono_l k
    · intro y0 y1
      unfold params_Check.l0
      repeat' first
      | (with_reducible exact ih0 _ _)
      | (with_reducible exact LeO.refl _)
      | (with_reducible exact LeO.none _)
      | (with_reducible refine LeO.ite ?_ ?_)
      | (with_reducible refine LeO.bind ?_ (fun _ => ?_))
      | exact ih0 _ _
      | exact LeO.none _
      | refine LeO.ite ?_ ?_
      | refine LeO.bind ?_ (fun _ => ?_)
theorem params_Check.mono : ∀ a0 k, LeO (params_Check.f k a0) (params_Check.f (k + 1) a0) := by
  intro a0 k
  have ih0 := params_Check.mono_l k
  unfold params_Check.f
  repeat' first
      | (with_reducible exact ih0 _ _)
      | (with_reducible exact LeO.refl _)
      | (with_reducible exact LeO.none _)
      | (with_reducible refine LeO.ite ?_ ?_)
      | (with_reducible refine LeO.bind ?_ (fun _ => ?_))
      | exact ih0 _ _
      | exact LeO.none _
      | refine LeO.ite ?_ ?_
      | refine LeO.bind ?_ (fun _ => ?_)
set_option maxHeartbeats 8000000 in
set_option maxRecDepth 100000 in
theorem params_Check.calls (k : Nat) (A0 : Option Addr) (c0 : Nat) (l0 : List Int) (r : Int) (w : World) (hr0 : Kd.C (Kd.int .i64) w A0 l0.length l0) (hc0 : l0.length ≤ c0) (h : params_Check.f k l0 = some r) :
    Calls Try.prog 12 #[.slice A0 l0.length c0] w fun e w' => e = .returned (.int .i64 r) ∧ Below w.heap.size w w' := by
  have hu54 := Try.underlying54
  have hu55 := Try.underlying55
  have HR0 := Aside0.mk hr0
  have HC0 := Aside0.mk hc0
  clear hr0 hc0
  have HB := Aside0.mk (Below.refl w.heap.size w)
  have H : (if (l0.length : Int) = 24 then ((params_rows.f).bind fun bt101 => (params_Check.l0 k l0 0)) else (some 3)) = some r := h
  clear h
  by_cases c2 : (l0.length : Int) = 24
  · rw [if_pos c2] at H
    have c2b0 : ((l0.length : Int) == 24) = true := beq_iff_eq.mpr c2
    have c2b1 : ((l0.length : Int) != 24) = false := bne_eq_false_iff_eq.mpr c2
    clear c2
    replace H := Option.bind_eq_some_iff.mp H
    obtain ⟨⟨t101, t102, t103, t104, t105, t106, t107, t108, t109, t110, t111, t112, t113, t114, t115, t116, t117, t118, t119, t120, t121, t122, t123, t124, t125, t126, t127, t128, t129, t130, t131, t132, t133, t134, t135, t136, t137, t138, t139, t140, t141, t142, t143, t144, t145, t146, t147, t148, t149, t150, t151, t152, t153, t154, t155, t156, t157, t158, t159, t160, t161, t162, t163, t164, t165, t166, t167, t168, t169, t170, t171, t172⟩, A30, H⟩ := H
    replace H : (params_Check.l0 k l0 0) = some r := H
    have A3 := Aside0.mk A30
    clear A30
    have A3E := A3.out
    simp only [params_rows.f, Option.some.injEq, Prod.mk.injEq] at A3E
    obtain ⟨rfl, rfl, rfl, rfl, rfl, rfl, rfl, rfl, rfl, rfl, rfl, rfl, rfl, rfl, rfl, rfl, rfl, rfl, rfl, rfl, rfl, rfl, rfl, rfl, rfl, rfl, rfl, rfl, rfl, rfl, rfl, rfl, rfl, rfl, rfl, rfl, rfl, rfl, rfl, rfl, rfl, rfl, rfl, rfl, rfl, rfl, rfl, rfl, rfl, rfl, rfl, rfl, rfl, rfl, rfl, rfl, rfl, rfl, rfl, rfl, rfl, rfl, rfl, rfl, rfl, rfl, rfl, rfl, rfl, rfl, rfl, rfl⟩ := A3E
    have H' := Aside0.mk H
    clear H
    go_enter Try.func12, Try.ntmps12
    go_wp2_with (first | (go_at_call 35; (with_reducible refine (params_rows.calls  0 16 6 1 200 20 0 16 4 1 200 20 0 16 4 0 4 2 4 32 12 1600 64000 16000 1600 32000 8000 2000 16000 8000 1000 120000 5000 500 120000 2000 200 10000 1000 100 10000 500 40 40000 4000 40 40000 400 1 40 8 0 1000000000 1000 0 1000000 100 0 1000 1 0 1000 2 1 10000 500 0 16384 4000 16 3200 800 _ A3.out).mono ?_); rintro e w4 ⟨rfl, hb⟩; have n0_ := Aside0.mk (below_step (by repeat (first | (with_reducible first | exact HB.out | apply below_alloc | apply pw_below_drewN | apply below_drew1) | exact HB.out)) hb); clear HB; have HB := n0_; clear n0_; (try clear hb); (try clear hb2); (try clear hk); (try clear hi)))
    go_loopg [11] k (fun kq v11 w' => ∃ (x11_1 : Int), v11 = .int .i64 x11_1 ∧ Aside0 (params_Check.l0 kq l0 x11_1 = some r) ∧ Aside0 (kq ≤ k) ∧ Aside0 (Below w.heap.size w w'))
    case atStart => exact ⟨(0), (by first | rfl | (simp; done) | (simp [*]; done)), H', ⟨Nat.le_refl _⟩, ⟨by repeat (first | (with_reducible first | exact HB.out | apply below_alloc | apply pw_below_drewN | apply below_drew1) | exact HB.out)⟩⟩
    case round =>
      clear H'
      try clear c1
      try clear c2
      try clear c2b0
      try clear c2b1
      try clear p2
      obtain ⟨x11_1, rfl, HA, HK1, HB⟩ := hrel
      cases gk with
      | zero => exact absurd HA.out (by simp [params_Check.l0])
      | succ k1 =>
        have H := HA.out
        clear HA
        simp only [params_Check.l0] at H
        by_cases c5 : x11_1 < 24
        · rw [if_pos c5] at H
          have c5b0 : decide (x11_1 < 24) = true := decide_eq_true c5
          clear c5
          by_cases c6 : 0 ≤ x11_1
          · rw [if_pos c6] at H
            have c6b0 := eq_true c6
            have c6b1 : decide (0 ≤ x11_1) = true := decide_eq_true c6
            clear c6
            have c7b0 := eq_true (of_decide_eq_true (by first | (with_reducible assumption) | assumption) : x11_1 < 24)
            have hix8 := params_Check.row0 x11_1 (of_decide_eq_true (by first | (with_reducible assumption) | assumption)) (of_decide_eq_true (by first | (with_reducible assumption) | assumption))
            by_cases c9 : x11_1 < (l0.length : Int)
            · rw [if_pos c9] at H
              have c9b0 : decide (x11_1 < (l0.length : Int)) = true := decide_eq_true c9
              clear c9
              by_cases c10 : (rd l0 x11_1) < (rd params_Check.tb0_0 x11_1)
              · rw [if_pos c10] at H
                have c10b0 : decide ((rd l0 x11_1) < (rd params_Check.tb0_0 x11_1)) = true := decide_eq_true c10
                clear c10
                obtain rfl := Option.some.inj H
                go_wp2_with (first | ((with_reducible refine gate_dst (N := 4) rfl ?_); refine box_event ?hg (N := 4) ?hd (cs := #[.int .i64 0, .int .i64 0, .int .i64 0]) (t := 54) ?hr ?_; (case hd => rfl); (case hg => rfl); (case hr => first | (go_simp; done) | (go_simp; rfl)); intro gb173 hg w11 hbox hb; have n0_ := Aside0.mk (below_step (by repeat (first | (with_reducible first | exact HB.out | apply below_alloc | apply pw_below_drewN | apply below_drew1) | exact HB.out)) hb); have n1_ := Aside0.mk (hbox); have n2_ := Aside0.mk ((by rw [hg]; exact (below_size (by repeat (first | (with_reducible first | exact HB.out | apply below_alloc | apply pw_below_drewN | apply below_drew1) | exact HB.out))) : w.heap.size ≤ gb173)); have n3_ := Aside0.mk ((by rw [hg]; exact (below_size (by repeat (first | (with_reducible first | exact HB.out | apply below_alloc | apply pw_below_drewN | apply below_drew1) | exact HB.out))) : w.heap.size ≤ gb173)); clear HB; have HB := n0_; have BK173 := n1_; have GW173 := n2_; have GE173 := n3_; clear n0_ n1_ n2_ n3_; clear hb hbox hg; have hcz12_0 := blk_cells3 (w := w11) (g := gb173) BK173.out; have hfz12_0 := blk_frozen BK173.out; have p174 : 0 ≤ (x11_1 : Int) := of_decide_eq_true (by first | (with_reducible assumption) | assumption); have q174 : x11_1 < (l0.length : Int) := of_decide_eq_true (by first | (with_reducible assumption) | assumption); obtain ⟨ad174, e174, hx174_0⟩ := Kd.at_int HR0.out x11_1 p174 q174; cases e174; have hn174_0 : ad174.block ≠ gb173 := Nat.ne_of_lt (Nat.lt_of_lt_of_le (by have := World.block_lt_of_cell? _ _ hx174_0; first | rwa [add_block] at this | exact this) GW173.out); have hn174_1 : ad174.block ≠ gb173 := Nat.ne_of_lt (Nat.lt_of_lt_of_le (by have := World.block_lt_of_cell? _ _ hx174_0; first | rwa [add_block] at this | exact this) GW173.out); have hn174_2 : ad174.block ≠ gb173 := Nat.ne_of_lt (Nat.lt_of_lt_of_le (by have := World.block_lt_of_cell? _ _ hx174_0; first | rwa [add_block] at this | exact this) GW173.out); replace hx174_0 := (HB.out.cell (World.block_lt_of_cell? w _ hx174_0)).trans hx174_0; replace hx174_0 := (cell_far (p := ⟨gb173, 0, none⟩) (by first | (rw [add_block]; exact hn174_0) | (show (Addr.add _ _).block ≠ _; rw [add_block]; exact hn174_0) | exact hn174_0) (.int .i64 (rd params_Check.tb0_0 x11_1))).trans hx174_0; replace hx174_0 := (cell_far (p := ⟨gb173, 1, none⟩) (by first | (rw [add_block]; exact hn174_1) | (show (Addr.add _ _).block ≠ _; rw [add_block]; exact hn174_1) | exact hn174_1) (.int .i64 (rd params_Check.tb0_1 x11_1))).trans hx174_0; replace hx174_0 := (cell_far (p := ⟨gb173, 2, none⟩) (by first | (rw [add_block]; exact hn174_2) | (show (Addr.add _ _).block ≠ _; rw [add_block]; exact hn174_2) | exact hn174_2) (.int .i64 (rd params_Check.tb0_2 x11_1))).trans hx174_0; (try have hy174_0 := fun (n_ : Nat) => (show (((((w11.drewN n_).setCell ⟨gb173, 0, none⟩ (.int .i64 (rd params_Check.tb0_0 x11_1))).setCell ⟨gb173, 1, none⟩ (.int .i64 (rd params_Check.tb0_1 x11_1))).setCell ⟨gb173, 2, none⟩ (.int .i64 (rd params_Check.tb0_2 x11_1)))).cell? _ = some _ from hx174_0)); clear hn174_0; clear hn174_1; clear hn174_2; replace p174 := eq_true p174; replace q174 := eq_true q174))
                repeat (go_quiet (first | ((with_reducible refine gate_dst (N := 4) rfl ?_); refine box_event ?hg (N := 4) ?hd (cs := #[.int .i64 0, .int .i64 0, .int .i64 0]) (t := 54) ?hr ?_; (case hd => rfl); (case hg => rfl); (case hr => first | (go_simp; done) | (go_simp; rfl)); intro gb173 hg w11 hbox hb; have n0_ := Aside0.mk (below_step (by repeat (first | (with_reducible first | exact HB.out | apply below_alloc | apply pw_below_drewN | apply below_drew1) | exact HB.out)) hb); have n1_ := Aside0.mk (hbox); have n2_ := Aside0.mk ((by rw [hg]; exact (below_size (by repeat (first | (with_reducible first | exact HB.out | apply below_alloc | apply pw_below_drewN | apply below_drew1) | exact HB.out))) : w.heap.size ≤ gb173)); have n3_ := Aside0.mk ((by rw [hg]; exact (below_size (by repeat (first | (with_reducible first | exact HB.out | apply below_alloc | apply pw_below_drewN | apply below_drew1) | exact HB.out))) : w.heap.size ≤ gb173)); clear HB; have HB := n0_; have BK173 := n1_; have GW173 := n2_; have GE173 := n3_; clear n0_ n1_ n2_ n3_; clear hb hbox hg; have hcz12_0 := blk_cells3 (w := w11) (g := gb173) BK173.out; have hfz12_0 := blk_frozen BK173.out; have p174 : 0 ≤ (x11_1 : Int) := of_decide_eq_true (by first | (with_reducible assumption) | assumption); have q174 : x11_1 < (l0.length : Int) := of_decide_eq_true (by first | (with_reducible assumption) | assumption); obtain ⟨ad174, e174, hx174_0⟩ := Kd.at_int HR0.out x11_1 p174 q174; cases e174; have hn174_0 : ad174.block ≠ gb173 := Nat.ne_of_lt (Nat.lt_of_lt_of_le (by have := World.block_lt_of_cell? _ _ hx174_0; first | rwa [add_block] at this | exact this) GW173.out); have hn174_1 : ad174.block ≠ gb173 := Nat.ne_of_lt (Nat.lt_of_lt_of_le (by have := World.block_lt_of_cell? _ _ hx174_0; first | rwa [add_block] at this | exact this) GW173.out); have hn174_2 : ad174.block ≠ gb173 := Nat.ne_of_lt (Nat.lt_of_lt_of_le (by have := World.block_lt_of_cell? _ _ hx174_0; first | rwa [add_block] at this | exact this) GW173.out); replace hx174_0 := (HB.out.cell (World.block_lt_of_cell? w _ hx174_0)).trans hx174_0; replace hx174_0 := (cell_far (p := ⟨gb173, 0, none⟩) (by first | (rw [add_block]; exact hn174_0) | (show (Addr.add _ _).block ≠ _; rw [add_block]; exact hn174_0) | exact hn174_0) (.int .i64 (rd params_Check.tb0_0 x11_1))).trans hx174_0; replace hx174_0 := (cell_far (p := ⟨gb173, 1, none⟩) (by first | (rw [add_block]; exact hn174_1) | (show (Addr.add _ _).block ≠ _; rw [add_block]; exact hn174_1) | exact hn174_1) (.int .i64 (rd params_Check.tb0_1 x11_1))).trans hx174_0; replace hx174_0 := (cell_far (p := ⟨gb173, 2, none⟩) (by first | (rw [add_block]; exact hn174_2) | (show (Addr.add _ _).block ≠ _; rw [add_block]; exact hn174_2) | exact hn174_2) (.int .i64 (rd params_Check.tb0_2 x11_1))).trans hx174_0; (try have hy174_0 := fun (n_ : Nat) => (show (((((w11.drewN n_).setCell ⟨gb173, 0, none⟩ (.int .i64 (rd params_Check.tb0_0 x11_1))).setCell ⟨gb173, 1, none⟩ (.int .i64 (rd params_Check.tb0_1 x11_1))).setCell ⟨gb173, 2, none⟩ (.int .i64 (rd params_Check.tb0_2 x11_1)))).cell? _ = some _ from hx174_0)); clear hn174_0; clear hn174_1; clear hn174_2; replace p174 := eq_true p174; replace q174 := eq_true q174)); try go_wp2_with (first | ((with_reducible refine gate_dst (N := 4) rfl ?_); refine box_event ?hg (N := 4) ?hd (cs := #[.int .i64 0, .int .i64 0, .int .i64 0]) (t := 54) ?hr ?_; (case hd => rfl); (case hg => rfl); (case hr => first | (go_simp; done) | (go_simp; rfl)); intro gb173 hg w11 hbox hb; have n0_ := Aside0.mk (below_step (by repeat (first | (with_reducible first | exact HB.out | apply below_alloc | apply pw_below_drewN | apply below_drew1) | exact HB.out)) hb); have n1_ := Aside0.mk (hbox); have n2_ := Aside0.mk ((by rw [hg]; exact (below_size (by repeat (first | (with_reducible first | exact HB.out | apply below_alloc | apply pw_below_drewN | apply below_drew1) | exact HB.out))) : w.heap.size ≤ gb173)); have n3_ := Aside0.mk ((by rw [hg]; exact (below_size (by repeat (first | (with_reducible first | exact HB.out | apply below_alloc | apply pw_below_drewN | apply below_drew1) | exact HB.out))) : w.heap.size ≤ gb173)); clear HB; have HB := n0_; have BK173 := n1_; have GW173 := n2_; have GE173 := n3_; clear n0_ n1_ n2_ n3_; clear hb hbox hg; have hcz12_0 := blk_cells3 (w := w11) (g := gb173) BK173.out; have hfz12_0 := blk_frozen BK173.out; have p174 : 0 ≤ (x11_1 : Int) := of_decide_eq_true (by first | (with_reducible assumption) | assumption); have q174 : x11_1 < (l0.length : Int) := of_decide_eq_true (by first | (with_reducible assumption) | assumption); obtain ⟨ad174, e174, hx174_0⟩ := Kd.at_int HR0.out x11_1 p174 q174; cases e174; have hn174_0 : ad174.block ≠ gb173 := Nat.ne_of_lt (Nat.lt_of_lt_of_le (by have := World.block_lt_of_cell? _ _ hx174_0; first | rwa [add_block] at this | exact this) GW173.out); have hn174_1 : ad174.block ≠ gb173 := Nat.ne_of_lt (Nat.lt_of_lt_of_le (by have := World.block_lt_of_cell? _ _ hx174_0; first | rwa [add_block] at this | exact this) GW173.out); have hn174_2 : ad174.block ≠ gb173 := Nat.ne_of_lt (Nat.lt_of_lt_of_le (by have := World.block_lt_of_cell? _ _ hx174_0; first | rwa [add_block] at this | exact this) GW173.out); replace hx174_0 := (HB.out.cell (World.block_lt_of_cell? w _ hx174_0)).trans hx174_0; replace hx174_0 := (cell_far (p := ⟨gb173, 0, none⟩) (by first | (rw [add_block]; exact hn174_0) | (show (Addr.add _ _).block ≠ _; rw [add_block]; exact hn174_0) | exact hn174_0) (.int .i64 (rd params_Check.tb0_0 x11_1))).trans hx174_0; replace hx174_0 := (cell_far (p := ⟨gb173, 1, none⟩) (by first | (rw [add_block]; exact hn174_1) | (show (Addr.add _ _).block ≠ _; rw [add_block]; exact hn174_1) | exact hn174_1) (.int .i64 (rd params_Check.tb0_1 x11_1))).trans hx174_0; replace hx174_0 := (cell_far (p := ⟨gb173, 2, none⟩) (by first | (rw [add_block]; exact hn174_2) | (show (Addr.add _ _).block ≠ _; rw [add_block]; exact hn174_2) | exact hn174_2) (.int .i64 (rd params_Check.tb0_2 x11_1))).trans hx174_0; (try have hy174_0 := fun (n_ : Nat) => (show (((((w11.drewN n_).setCell ⟨gb173, 0, none⟩ (.int .i64 (rd params_Check.tb0_0 x11_1))).setCell ⟨gb173, 1, none⟩ (.int .i64 (rd params_Check.tb0_1 x11_1))).setCell ⟨gb173, 2, none⟩ (.int .i64 (rd params_Check.tb0_2 x11_1)))).cell? _ = some _ from hx174_0)); clear hn174_0; clear hn174_1; clear hn174_2; replace p174 := eq_true p174; replace q174 := eq_true q174)))
                go_ret
                exact ⟨by first | rfl | (simp [errW_none, errW_some] <;> rfl) | (simp [*, errW_none, errW_some] <;> rfl), by repeat (first | (with_reducible first | exact HB.out | apply below_alloc | apply pw_below_drewN | apply below_drew1 | refine below_set ?_ GE173.out) | exact HB.out)⟩
              · rw [if_neg c10] at H
                have c10b0 : decide ((rd l0 x11_1) < (rd params_Check.tb0_0 x11_1)) = false := decide_eq_false c10
                clear c10
                by_cases c13 : (rd l0 x11_1) > (rd params_Check.tb0_1 x11_1)
                · rw [if_pos c13] at H
                  have c13b0 : decide ((rd params_Check.tb0_1 x11_1) < (rd l0 x11_1)) = true := decide_eq_true c13
                  clear c13
                  obtain rfl := Option.some.inj H
                  go_wp2_with (first | ((with_reducible refine gate_dst (N := 4) rfl ?_); refine box_event ?hg (N := 4) ?hd (cs := #[.int .i64 0, .int .i64 0, .int .i64 0]) (t := 54) ?hr ?_; (case hd => rfl); (case hg => rfl); (case hr => first | (go_simp; done) | (go_simp; rfl)); intro gb173 hg w14 hbox hb; have n0_ := Aside0.mk (below_step (by repeat (first | (with_reducible first | exact HB.out | apply below_alloc | apply pw_below_drewN | apply below_drew1) | exact HB.out)) hb); have n1_ := Aside0.mk (hbox); have n2_ := Aside0.mk ((by rw [hg]; exact (below_size (by repeat (first | (with_reducible first | exact HB.out | apply below_alloc | apply pw_below_drewN | apply below_drew1) | exact HB.out))) : w.heap.size ≤ gb173)); have n3_ := Aside0.mk ((by rw [hg]; exact (below_size (by repeat (first | (with_reducible first | exact HB.out | apply below_alloc | apply pw_below_drewN | apply below_drew1) | exact HB.out))) : w.heap.size ≤ gb173)); clear HB; have HB := n0_; have BK173 := n1_; have GW173 := n2_; have GE173 := n3_; clear n0_ n1_ n2_ n3_; clear hb hbox hg; have hcz15_0 := blk_cells3 (w := w14) (g := gb173) BK173.out; have hfz15_0 := blk_frozen BK173.out; have p174 : 0 ≤ (x11_1 : Int) := of_decide_eq_true (by first | (with_reducible assumption) | assumption); have q174 : x11_1 < (l0.length : Int) := of_decide_eq_true (by first | (with_reducible assumption) | assumption); obtain ⟨ad174, e174, hx174_0⟩ := Kd.at_int HR0.out x11_1 p174 q174; cases e174; have hn174_0 : ad174.block ≠ gb173 := Nat.ne_of_lt (Nat.lt_of_lt_of_le (by have := World.block_lt_of_cell? _ _ hx174_0; first | rwa [add_block] at this | exact this) GW173.out); have hn174_1 : ad174.block ≠ gb173 := Nat.ne_of_lt (Nat.lt_of_lt_of_le (by have := World.block_lt_of_cell? _ _ hx174_0; first | rwa [add_block] at this | exact this) GW173.out); have hn174_2 : ad174.block ≠ gb173 := Nat.ne_of_lt (Nat.lt_of_lt_of_le (by have := World.block_lt_of_cell? _ _ hx174_0; first | rwa [add_block] at this | exact this) GW173.out); replace hx174_0 := (HB.out.cell (World.block_lt_of_cell? w _ hx174_0)).trans hx174_0; replace hx174_0 := (cell_far (p := ⟨gb173, 0, none⟩) (by first | (rw [add_block]; exact hn174_0) | (show (Addr.add _ _).block ≠ _; rw [add_block]; exact hn174_0) | exact hn174_0) (.int .i64 (rd params_Check.tb0_0 x11_1))).trans hx174_0; replace hx174_0 := (cell_far (p := ⟨gb173, 1, none⟩) (by first | (rw [add_block]; exact hn174_1) | (show (Addr.add _ _).block ≠ _; rw [add_block]; exact hn174_1) | exact hn174_1) (.int .i64 (rd params_Check.tb0_1 x11_1))).trans hx174_0; replace hx174_0 := (cell_far (p := ⟨gb173, 2, none⟩) (by first | (rw [add_block]; exact hn174_2) | (show (Addr.add _ _).block ≠ _; rw [add_block]; exact hn174_2) | exact hn174_2) (.int .i64 (rd params_Check.tb0_2 x11_1))).trans hx174_0; (try have hy174_0 := fun (n_ : Nat) => (show (((((w14.drewN n_).setCell ⟨gb173, 0, none⟩ (.int .i64 (rd params_Check.tb0_0 x11_1))).setCell ⟨gb173, 1, none⟩ (.int .i64 (rd params_Check.tb0_1 x11_1))).setCell ⟨gb173, 2, none⟩ (.int .i64 (rd params_Check.tb0_2 x11_1)))).cell? _ = some _ from hx174_0)); clear hn174_0; clear hn174_1; clear hn174_2; replace p174 := eq_true p174; replace q174 := eq_true q174; have p175 : 0 ≤ (x11_1 : Int) := of_decide_eq_true (by first | (with_reducible assumption) | assumption); have q175 : x11_1 < (l0.length : Int) := of_decide_eq_true (by first | (with_reducible assumption) | assumption); obtain ⟨ad175, e175, hx175_0⟩ := Kd.at_int HR0.out x11_1 p175 q175; obtain rfl : ad174 = ad175 := (by injection e175); have hn175_0 : ad174.block ≠ gb173 := Nat.ne_of_lt (Nat.lt_of_lt_of_le (by have := World.block_lt_of_cell? _ _ hx175_0; first | rwa [add_block] at this | exact this) GW173.out); have hn175_1 : ad174.block ≠ gb173 := Nat.ne_of_lt (Nat.lt_of_lt_of_le (by have := World.block_lt_of_cell? _ _ hx175_0; first | rwa [add_block] at this | exact this) GW173.out); have hn175_2 : ad174.block ≠ gb173 := Nat.ne_of_lt (Nat.lt_of_lt_of_le (by have := World.block_lt_of_cell? _ _ hx175_0; first | rwa [add_block] at this | exact this) GW173.out); replace hx175_0 := (HB.out.cell (World.block_lt_of_cell? w _ hx175_0)).trans hx175_0; replace hx175_0 := (cell_far (p := ⟨gb173, 0, none⟩) (by first | (rw [add_block]; exact hn175_0) | (show (Addr.add _ _).block ≠ _; rw [add_block]; exact hn175_0) | exact hn175_0) (.int .i64 (rd params_Check.tb0_0 x11_1))).trans hx175_0; replace hx175_0 := (cell_far (p := ⟨gb173, 1, none⟩) (by first | (rw [add_block]; exact hn175_1) | (show (Addr.add _ _).block ≠ _; rw [add_block]; exact hn175_1) | exact hn175_1) (.int .i64 (rd params_Check.tb0_1 x11_1))).trans hx175_0; replace hx175_0 := (cell_far (p := ⟨gb173, 2, none⟩) (by first | (rw [add_block]; exact hn175_2) | (show (Addr.add _ _).block ≠ _; rw [add_block]; exact hn175_2) | exact hn175_2) (.int .i64 (rd params_Check.tb0_2 x11_1))).trans hx175_0; (try have hy175_0 := fun (n_ : Nat) => (show (((((w14.drewN n_).setCell ⟨gb173, 0, none⟩ (.int .i64 (rd params_Check.tb0_0 x11_1))).setCell ⟨gb173, 1, none⟩ (.int .i64 (rd params_Check.tb0_1 x11_1))).setCell ⟨gb173, 2, none⟩ (.int .i64 (rd params_Check.tb0_2 x11_1)))).cell? _ = some _ from hx175_0)); clear hn175_0; clear hn175_1; clear hn175_2; replace p175 := eq_true p175; replace q175 := eq_true q175))
                  repeat (go_quiet (first | ((with_reducible refine gate_dst (N := 4) rfl ?_); refine box_event ?hg (N := 4) ?hd (cs := #[.int .i64 0, .int .i64 0, .int .i64 0]) (t := 54) ?hr ?_; (case hd => rfl); (case hg => rfl); (case hr => first | (go_simp; done) | (go_simp; rfl)); intro gb173 hg w14 hbox hb; have n0_ := Aside0.mk (below_step (by repeat (first | (with_reducible first | exact HB.out | apply below_alloc | apply pw_below_drewN | apply below_drew1) | exact HB.out)) hb); have n1_ := Aside0.mk (hbox); have n2_ := Aside0.mk ((by rw [hg]; exact (below_size (by repeat (first | (with_reducible first | exact HB.out | apply below_alloc | apply pw_below_drewN | apply below_drew1) | exact HB.out))) : w.heap.size ≤ gb173)); have n3_ := Aside0.mk ((by rw [hg]; exact (below_size (by repeat (first | (with_reducible first | exact HB.out | apply below_alloc | apply pw_below_drewN | apply below_drew1) | exact HB.out))) : w.heap.size ≤ gb173)); clear HB; have HB := n0_; have BK173 := n1_; have GW173 := n2_; have GE173 := n3_; clear n0_ n1_ n2_ n3_; clear hb hbox hg; have hcz15_0 := blk_cells3 (w := w14) (g := gb173) BK173.out; have hfz15_0 := blk_frozen BK173.out; have p174 : 0 ≤ (x11_1 : Int) := of_decide_eq_true (by first | (with_reducible assumption) | assumption); have q174 : x11_1 < (l0.length : Int) := of_decide_eq_true (by first | (with_reducible assumption) | assumption); obtain ⟨ad174, e174, hx174_0⟩ := Kd.at_int HR0.out x11_1 p174 q174; cases e174; have hn174_0 : ad174.block ≠ gb173 := Nat.ne_of_lt (Nat.lt_of_lt_of_le (by have := World.block_lt_of_cell? _ _ hx174_0; first | rwa [add_block] at this | exact this) GW173.out); have hn174_1 : ad174.block ≠ gb173 := Nat.ne_of_lt (Nat.lt_of_lt_of_le (by have := World.block_lt_of_cell? _ _ hx174_0; first | rwa [add_block] at this | exact this) GW173.out); have hn174_2 : ad174.block ≠ gb173 := Nat.ne_of_lt (Nat.lt_of_lt_of_le (by have := World.block_lt_of_cell? _ _ hx174_0; first | rwa [add_block] at this | exact this) GW173.out); replace hx174_0 := (HB.out.cell (World.block_lt_of_cell? w _ hx174_0)).trans hx174_0; replace hx174_0 := (cell_far (p := ⟨gb173, 0, none⟩) (by first | (rw [add_block]; exact hn174_0) | (show (Addr.add _ _).block ≠ _; rw [add_block]; exact hn174_0) | exact hn174_0) (.int .i64 (rd params_Check.tb0_0 x11_1))).trans hx174_0; replace hx174_0 := (cell_far (p := ⟨gb173, 1, none⟩) (by first | (rw [add_block]; exact hn174_1) | (show (Addr.add _ _).block ≠ _; rw [add_block]; exact hn174_1) | exact hn174_1) (.int .i64 (rd params_Check.tb0_1 x11_1))).trans hx174_0; replace hx174_0 := (cell_far (p := ⟨gb173, 2, none⟩) (by first | (rw [add_block]; exact hn174_2) | (show (Addr.add _ _).block ≠ _; rw [add_block]; exact hn174_2) | exact hn174_2) (.int .i64 (rd params_Check.tb0_2 x11_1))).trans hx174_0; (try have hy174_0 := fun (n_ : Nat) => (show (((((w14.drewN n_).setCell ⟨gb173, 0, none⟩ (.int .i64 (rd params_Check.tb0_0 x11_1))).setCell ⟨gb173, 1, none⟩ (.int .i64 (rd params_Check.tb0_1 x11_1))).setCell ⟨gb173, 2, none⟩ (.int .i64 (rd params_Check.tb0_2 x11_1)))).cell? _ = some _ from hx174_0)); clear hn174_0; clear hn174_1; clear hn174_2; replace p174 := eq_true p174; replace q174 := eq_true q174; have p175 : 0 ≤ (x11_1 : Int) := of_decide_eq_true (by first | (with_reducible assumption) | assumption); have q175 : x11_1 < (l0.length : Int) := of_decide_eq_true (by first | (with_reducible assumption) | assumption); obtain ⟨ad175, e175, hx175_0⟩ := Kd.at_int HR0.out x11_1 p175 q175; obtain rfl : ad174 = ad175 := (by injection e175); have hn175_0 : ad174.block ≠ gb173 := Nat.ne_of_lt (Nat.lt_of_lt_of_le (by have := World.block_lt_of_cell? _ _ hx175_0; first | rwa [add_block] at this | exact this) GW173.out); have hn175_1 : ad174.block ≠ gb173 := Nat.ne_of_lt (Nat.lt_of_lt_of_le (by have := World.block_lt_of_cell? _ _ hx175_0; first | rwa [add_block] at this | exact this) GW173.out); have hn175_2 : ad174.block ≠ gb173 := Nat.ne_of_lt (Nat.lt_of_lt_of_le (by have := World.block_lt_of_cell? _ _ hx175_0; first | rwa [add_block] at this | exact this) GW173.out); replace hx175_0 := (HB.out.cell (World.block_lt_of_cell? w _ hx175_0)).trans hx175_0; replace hx175_0 := (cell_far (p := ⟨gb173, 0, none⟩) (by first | (rw [add_block]; exact hn175_0) | (show (Addr.add _ _).block ≠ _; rw [add_block]; exact hn175_0) | exact hn175_0) (.int .i64 (rd params_Check.tb0_0 x11_1))).trans hx175_0; replace hx175_0 := (cell_far (p := ⟨gb173, 1, none⟩) (by first | (rw [add_block]; exact hn175_1) | (show (Addr.add _ _).block ≠ _; rw [add_block]; exact hn175_1) | exact hn175_1) (.int .i64 (rd params_Check.tb0_1 x11_1))).trans hx175_0; replace hx175_0 := (cell_far (p := ⟨gb173, 2, none⟩) (by first | (rw [add_block]; exact hn175_2) | (show (Addr.add _ _).block ≠ _; rw [add_block]; exact hn175_2) | exact hn175_2) (.int .i64 (rd params_Check.tb0_2 x11_1))).trans hx175_0; (try have hy175_0 := fun (n_ : Nat) => (show (((((w14.drewN n_).setCell ⟨gb173, 0, none⟩ (.int .i64 (rd params_Check.tb0_0 x11_1))).setCell ⟨gb173, 1, none⟩ (.int .i64 (rd params_Check.tb0_1 x11_1))).setCell ⟨gb173, 2, none⟩ (.int .i64 (rd params_Check.tb0_2 x11_1)))).cell? _ = some _ from hx175_0)); clear hn175_0; clear hn175_1; clear hn175_2; replace p175 := eq_true p175; replace q175 := eq_true q175)); try go_wp2_with (first | ((with_reducible refine gate_dst (N := 4) rfl ?_); refine box_event ?hg (N := 4) ?hd (cs := #[.int .i64 0, .int .i64 0, .int .i64 0]) (t := 54) ?hr ?_; (case hd => rfl); (case hg => rfl); (case hr => first | (go_simp; done) | (go_simp; rfl)); intro gb173 hg w14 hbox hb; have n0_ := Aside0.mk (below_step (by repeat (first | (with_reducible first | exact HB.out | apply below_alloc | apply pw_below_drewN | apply below_drew1) | exact HB.out)) hb); have n1_ := Aside0.mk (hbox); have n2_ := Aside0.mk ((by rw [hg]; exact (below_size (by repeat (first | (with_reducible first | exact HB.out | apply below_alloc | apply pw_below_drewN | apply below_drew1) | exact HB.out))) : w.heap.size ≤ gb173)); have n3_ := Aside0.mk ((by rw [hg]; exact (below_size (by repeat (first | (with_reducible first | exact HB.out | apply below_alloc | apply pw_below_drewN | apply below_drew1) | exact HB.out))) : w.heap.size ≤ gb173)); clear HB; have HB := n0_; have BK173 := n1_; have GW173 := n2_; have GE173 := n3_; clear n0_ n1_ n2_ n3_; clear hb hbox hg; have hcz15_0 := blk_cells3 (w := w14) (g := gb173) BK173.out; have hfz15_0 := blk_frozen BK173.out; have p174 : 0 ≤ (x11_1 : Int) := of_decide_eq_true (by first | (with_reducible assumption) | assumption); have q174 : x11_1 < (l0.length : Int) := of_decide_eq_true (by first | (with_reducible assumption) | assumption); obtain ⟨ad174, e174, hx174_0⟩ := Kd.at_int HR0.out x11_1 p174 q174; cases e174; have hn174_0 : ad174.block ≠ gb173 := Nat.ne_of_lt (Nat.lt_of_lt_of_le (by have := World.block_lt_of_cell? _ _ hx174_0; first | rwa [add_block] at this | exact this) GW173.out); have hn174_1 : ad174.block ≠ gb173 := Nat.ne_of_lt (Nat.lt_of_lt_of_le (by have := World.block_lt_of_cell? _ _ hx174_0; first | rwa [add_block] at this | exact this) GW173.out); have hn174_2 : ad174.block ≠ gb173 := Nat.ne_of_lt (Nat.lt_of_lt_of_le (by have := World.block_lt_of_cell? _ _ hx174_0; first | rwa [add_block] at this | exact this) GW173.out); replace hx174_0 := (HB.out.cell (World.block_lt_of_cell? w _ hx174_0)).trans hx174_0; replace hx174_0 := (cell_far (p := ⟨gb173, 0, none⟩) (by first | (rw [add_block]; exact hn174_0) | (show (Addr.add _ _).block ≠ _; rw [add_block]; exact hn174_0) | exact hn174_0) (.int .i64 (rd params_Check.tb0_0 x11_1))).trans hx174_0; replace hx174_0 := (cell_far (p := ⟨gb173, 1, none⟩) (by first | (rw [add_block]; exact hn174_1) | (show (Addr.add _ _).block ≠ _; rw [add_block]; exact hn174_1) | exact hn174_1) (.int .i64 (rd params_Check.tb0_1 x11_1))).trans hx174_0; replace hx174_0 := (cell_far (p := ⟨gb173, 2, none⟩) (by first | (rw [add_block]; exact hn174_2) | (show (Addr.add _ _).block ≠ _; rw [add_block]; exact hn174_2) | exact hn174_2) (.int .i64 (rd params_Check.tb0_2 x11_1))).trans hx174_0; (try have hy174_0 := fun (n_ : Nat) => (show (((((w14.drewN n_).setCell ⟨gb173, 0, none⟩ (.int .i64 (rd params_Check.tb0_0 x11_1))).setCell ⟨gb173, 1, none⟩ (.int .i64 (rd params_Check.tb0_1 x11_1))).setCell ⟨gb173, 2, none⟩ (.int .i64 (rd params_Check.tb0_2 x11_1)))).cell? _ = some _ from hx174_0)); clear hn174_0; clear hn174_1; clear hn174_2; replace p174 := eq_true p174; replace q174 := eq_true q174; have p175 : 0 ≤ (x11_1 : Int) := of_decide_eq_true (by first | (with_reducible assumption) | assumption); have q175 : x11_1 < (l0.length : Int) := of_decide_eq_true (by first | (with_reducible assumption) | assumption); obtain ⟨ad175, e175, hx175_0⟩ := Kd.at_int HR0.out x11_1 p175 q175; obtain rfl : ad174 = ad175 := (by injection e175); have hn175_0 : ad174.block ≠ gb173 := Nat.ne_of_lt (Nat.lt_of_lt_of_le (by have := World.block_lt_of_cell? _ _ hx175_0; first | rwa [add_block] at this | exact this) GW173.out); have hn175_1 : ad174.block ≠ gb173 := Nat.ne_of_lt (Nat.lt_of_lt_of_le (by have := World.block_lt_of_cell? _ _ hx175_0; first | rwa [add_block] at this | exact this) GW173.out); have hn175_2 : ad174.block ≠ gb173 := Nat.ne_of_lt (Nat.lt_of_lt_of_le (by have := World.block_lt_of_cell? _ _ hx175_0; first | rwa [add_block] at this | exact this) GW173.out); replace hx175_0 := (HB.out.cell (World.block_lt_of_cell? w _ hx175_0)).trans hx175_0; replace hx175_0 := (cell_far (p := ⟨gb173, 0, none⟩) (by first | (rw [add_block]; exact hn175_0) | (show (Addr.add _ _).block ≠ _; rw [add_block]; exact hn175_0) | exact hn175_0) (.int .i64 (rd params_Check.tb0_0 x11_1))).trans hx175_0; replace hx175_0 := (cell_far (p := ⟨gb173, 1, none⟩) (by first | (rw [add_block]; exact hn175_1) | (show (Addr.add _ _).block ≠ _; rw [add_block]; exact hn175_1) | exact hn175_1) (.int .i64 (rd params_Check.tb0_1 x11_1))).trans hx175_0; replace hx175_0 := (cell_far (p := ⟨gb173, 2, none⟩) (by first | (rw [add_block]; exact hn175_2) | (show (Addr.add _ _).block ≠ _; rw [add_block]; exact hn175_2) | exact hn175_2) (.int .i64 (rd params_Check.tb0_2 x11_1))).trans hx175_0; (try have hy175_0 := fun (n_ : Nat) => (show (((((w14.drewN n_).setCell ⟨gb173, 0, none⟩ (.int .i64 (rd params_Check.tb0_0 x11_1))).setCell ⟨gb173, 1, none⟩ (.int .i64 (rd params_Check.tb0_1 x11_1))).setCell ⟨gb173, 2, none⟩ (.int .i64 (rd params_Check.tb0_2 x11_1)))).cell? _ = some _ from hx175_0)); clear hn175_0; clear hn175_1; clear hn175_2; replace p175 := eq_true p175; replace q175 := eq_true q175)))
                  go_ret
                  exact ⟨by first | rfl | (simp [errW_none, errW_some] <;> rfl) | (simp [*, errW_none, errW_some] <;> rfl), by repeat (first | (with_reducible first | exact HB.out | apply below_alloc | apply pw_below_drewN | apply below_drew1 | refine below_set ?_ GE173.out) | exact HB.out)⟩
                · rw [if_neg c13] at H
                  have c13b0 : decide ((rd params_Check.tb0_1 x11_1) < (rd l0 x11_1)) = false := decide_eq_false c13
                  clear c13
                  have H' := Aside0.mk H
                  clear H
                  go_wp2_with (first | ((with_reducible refine gate_dst (N := 4) rfl ?_); refine box_event ?hg (N := 4) ?hd (cs := #[.int .i64 0, .int .i64 0, .int .i64 0]) (t := 54) ?hr ?_; (case hd => rfl); (case hg => rfl); (case hr => first | (go_simp; done) | (go_simp; rfl)); intro gb173 hg w16 hbox hb; have n0_ := Aside0.mk (below_step (by repeat (first | (with_reducible first | exact HB.out | apply below_alloc | apply pw_below_drewN | apply below_drew1) | exact HB.out)) hb); have n1_ := Aside0.mk (hbox); have n2_ := Aside0.mk ((by rw [hg]; exact (below_size (by repeat (first | (with_reducible first | exact HB.out | apply below_alloc | apply pw_below_drewN | apply below_drew1) | exact HB.out))) : w.heap.size ≤ gb173)); have n3_ := Aside0.mk ((by rw [hg]; exact (below_size (by repeat (first | (with_reducible first | exact HB.out | apply below_alloc | apply pw_below_drewN | apply below_drew1) | exact HB.out))) : w.heap.size ≤ gb173)); clear HB; have HB := n0_; have BK173 := n1_; have GW173 := n2_; have GE173 := n3_; clear n0_ n1_ n2_ n3_; clear hb hbox hg; have hcz17_0 := blk_cells3 (w := w16) (g := gb173) BK173.out; have hfz17_0 := blk_frozen BK173.out; have p174 : 0 ≤ (x11_1 : Int) := of_decide_eq_true (by first | (with_reducible assumption) | assumption); have q174 : x11_1 < (l0.length : Int) := of_decide_eq_true (by first | (with_reducible assumption) | assumption); obtain ⟨ad174, e174, hx174_0⟩ := Kd.at_int HR0.out x11_1 p174 q174; cases e174; have hn174_0 : ad174.block ≠ gb173 := Nat.ne_of_lt (Nat.lt_of_lt_of_le (by have := World.block_lt_of_cell? _ _ hx174_0; first | rwa [add_block] at this | exact this) GW173.out); have hn174_1 : ad174.block ≠ gb173 := Nat.ne_of_lt (Nat.lt_of_lt_of_le (by have := World.block_lt_of_cell? _ _ hx174_0; first | rwa [add_block] at this | exact this) GW173.out); have hn174_2 : ad174.block ≠ gb173 := Nat.ne_of_lt (Nat.lt_of_lt_of_le (by have := World.block_lt_of_cell? _ _ hx174_0; first | rwa [add_block] at this | exact this) GW173.out); replace hx174_0 := (HB.out.cell (World.block_lt_of_cell? w _ hx174_0)).trans hx174_0; replace hx174_0 := (cell_far (p := ⟨gb173, 0, none⟩) (by first | (rw [add_block]; exact hn174_0) | (show (Addr.add _ _).block ≠ _; rw [add_block]; exact hn174_0) | exact hn174_0) (.int .i64 (rd params_Check.tb0_0 x11_1))).trans hx174_0; replace hx174_0 := (cell_far (p := ⟨gb173, 1, none⟩) (by first | (rw [add_block]; exact hn174_1) | (show (Addr.add _ _).block ≠ _; rw [add_block]; exact hn174_1) | exact hn174_1) (.int .i64 (rd params_Check.tb0_1 x11_1))).trans hx174_0; replace hx174_0 := (cell_far (p := ⟨gb173, 2, none⟩) (by first | (rw [add_block]; exact hn174_2) | (show (Addr.add _ _).block ≠ _; rw [add_block]; exact hn174_2) | exact hn174_2) (.int .i64 (rd params_Check.tb0_2 x11_1))).trans hx174_0; (try have hy174_0 := fun (n_ : Nat) => (show (((((w16.drewN n_).setCell ⟨gb173, 0, none⟩ (.int .i64 (rd params_Check.tb0_0 x11_1))).setCell ⟨gb173, 1, none⟩ (.int .i64 (rd params_Check.tb0_1 x11_1))).setCell ⟨gb173, 2, none⟩ (.int .i64 (rd params_Check.tb0_2 x11_1)))).cell? _ = some _ from hx174_0)); clear hn174_0; clear hn174_1; clear hn174_2; replace p174 := eq_true p174; replace q174 := eq_true q174; have p175 : 0 ≤ (x11_1 : Int) := of_decide_eq_true (by first | (with_reducible assumption) | assumption); have q175 : x11_1 < (l0.length : Int) := of_decide_eq_true (by first | (with_reducible assumption) | assumption); obtain ⟨ad175, e175, hx175_0⟩ := Kd.at_int HR0.out x11_1 p175 q175; obtain rfl : ad174 = ad175 := (by injection e175); have hn175_0 : ad174.block ≠ gb173 := Nat.ne_of_lt (Nat.lt_of_lt_of_le (by have := World.block_lt_of_cell? _ _ hx175_0; first | rwa [add_block] at this | exact this) GW173.out); have hn175_1 : ad174.block ≠ gb173 := Nat.ne_of_lt (Nat.lt_of_lt_of_le (by have := World.block_lt_of_cell? _ _ hx175_0; first | rwa [add_block] at this | exact this) GW173.out); have hn175_2 : ad174.block ≠ gb173 := Nat.ne_of_lt (Nat.lt_of_lt_of_le (by have := World.block_lt_of_cell? _ _ hx175_0; first | rwa [add_block] at this | exact this) GW173.out); replace hx175_0 := (HB.out.cell (World.block_lt_of_cell? w _ hx175_0)).trans hx175_0; replace hx175_0 := (cell_far (p := ⟨gb173, 0, none⟩) (by first | (rw [add_block]; exact hn175_0) | (show (Addr.add _ _).block ≠ _; rw [add_block]; exact hn175_0) | exact hn175_0) (.int .i64 (rd params_Check.tb0_0 x11_1))).trans hx175_0; replace hx175_0 := (cell_far (p := ⟨gb173, 1, none⟩) (by first | (rw [add_block]; exact hn175_1) | (show (Addr.add _ _).block ≠ _; rw [add_block]; exact hn175_1) | exact hn175_1) (.int .i64 (rd params_Check.tb0_1 x11_1))).trans hx175_0; replace hx175_0 := (cell_far (p := ⟨gb173, 2, none⟩) (by first | (rw [add_block]; exact hn175_2) | (show (Addr.add _ _).block ≠ _; rw [add_block]; exact hn175_2) | exact hn175_2) (.int .i64 (rd params_Check.tb0_2 x11_1))).trans hx175_0; (try have hy175_0 := fun (n_ : Nat) => (show (((((w16.drewN n_).setCell ⟨gb173, 0, none⟩ (.int .i64 (rd params_Check.tb0_0 x11_1))).setCell ⟨gb173, 1, none⟩ (.int .i64 (rd params_Check.tb0_1 x11_1))).setCell ⟨gb173, 2, none⟩ (.int .i64 (rd params_Check.tb0_2 x11_1)))).cell? _ = some _ from hx175_0)); clear hn175_0; clear hn175_1; clear hn175_2; replace p175 := eq_true p175; replace q175 := eq_true q175))
                  repeat (go_quiet (first | ((with_reducible refine gate_dst (N := 4) rfl ?_); refine box_event ?hg (N := 4) ?hd (cs := #[.int .i64 0, .int .i64 0, .int .i64 0]) (t := 54) ?hr ?_; (case hd => rfl); (case hg => rfl); (case hr => first | (go_simp; done) | (go_simp; rfl)); intro gb173 hg w16 hbox hb; have n0_ := Aside0.mk (below_step (by repeat (first | (with_reducible first | exact HB.out | apply below_alloc | apply pw_below_drewN | apply below_drew1) | exact HB.out)) hb); have n1_ := Aside0.mk (hbox); have n2_ := Aside0.mk ((by rw [hg]; exact (below_size (by repeat (first | (with_reducible first | exact HB.out | apply below_alloc | apply pw_below_drewN | apply below_drew1) | exact HB.out))) : w.heap.size ≤ gb173)); have n3_ := Aside0.mk ((by rw [hg]; exact (below_size (by repeat (first | (with_reducible first | exact HB.out | apply below_alloc | apply pw_below_drewN | apply below_drew1) | exact HB.out))) : w.heap.size ≤ gb173)); clear HB; have HB := n0_; have BK173 := n1_; have GW173 := n2_; have GE173 := n3_; clear n0_ n1_ n2_ n3_; clear hb hbox hg; have hcz17_0 := blk_cells3 (w := w16) (g := gb173) BK173.out; have hfz17_0 := blk_frozen BK173.out; have p174 : 0 ≤ (x11_1 : Int) := of_decide_eq_true (by first | (with_reducible assumption) | assumption); have q174 : x11_1 < (l0.length : Int) := of_decide_eq_true (by first | (with_reducible assumption) | assumption); obtain ⟨ad174, e174, hx174_0⟩ := Kd.at_int HR0.out x11_1 p174 q174; cases e174; have hn174_0 : ad174.block ≠ gb173 := Nat.ne_of_lt (Nat.lt_of_lt_of_le (by have := World.block_lt_of_cell? _ _ hx174_0; first | rwa [add_block] at this | exact this) GW173.out); have hn174_1 : ad174.block ≠ gb173 := Nat.ne_of_lt (Nat.lt_of_lt_of_le (by have := World.block_lt_of_cell? _ _ hx174_0; first | rwa [add_block] at this | exact this) GW173.out); have hn174_2 : ad174.block ≠ gb173 := Nat.ne_of_lt (Nat.lt_of_lt_of_le (by have := World.block_lt_of_cell? _ _ hx174_0; first | rwa [add_block] at this | exact this) GW173.out); replace hx174_0 := (HB.out.cell (World.block_lt_of_cell? w _ hx174_0)).trans hx174_0; replace hx174_0 := (cell_far (p := ⟨gb173, 0, none⟩) (by first | (rw [add_block]; exact hn174_0) | (show (Addr.add _ _).block ≠ _; rw [add_block]; exact hn174_0) | exact hn174_0) (.int .i64 (rd params_Check.tb0_0 x11_1))).trans hx174_0; replace hx174_0 := (cell_far (p := ⟨gb173, 1, none⟩) (by first | (rw [add_block]; exact hn174_1) | (show (Addr.add _ _).block ≠ _; rw [add_block]; exact hn174_1) | exact hn174_1) (.int .i64 (rd params_Check.tb0_1 x11_1))).trans hx174_0; replace hx174_0 := (cell_far (p := ⟨gb173, 2, none⟩) (by first | (rw [add_block]; exact hn174_2) | (show (Addr.add _ _).block ≠ _; rw [add_block]; exact hn174_2) | exact hn174_2) (.int .i64 (rd params_Check.tb0_2 x11_1))).trans hx174_0; (try have hy174_0 := fun (n_ : Nat) => (show (((((w16.drewN n_).setCell ⟨gb173, 0, none⟩ (.int .i64 (rd params_Check.tb0_0 x11_1))).setCell ⟨gb173, 1, none⟩ (.int .i64 (rd params_Check.tb0_1 x11_1))).setCell ⟨gb173, 2, none⟩ (.int .i64 (rd params_Check.tb0_2 x11_1)))).cell? _ = some _ from hx174_0)); clear hn174_0; clear hn174_1; clear hn174_2; replace p174 := eq_true p174; replace q174 := eq_true q174; have p175 : 0 ≤ (x11_1 : Int) := of_decide_eq_true (by first | (with_reducible assumption) | assumption); have q175 : x11_1 < (l0.length : Int) := of_decide_eq_true (by first | (with_reducible assumption) | assumption); obtain ⟨ad175, e175, hx175_0⟩ := Kd.at_int HR0.out x11_1 p175 q175; obtain rfl : ad174 = ad175 := (by injection e175); have hn175_0 : ad174.block ≠ gb173 := Nat.ne_of_lt (Nat.lt_of_lt_of_le (by have := World.block_lt_of_cell? _ _ hx175_0; first | rwa [add_block] at this | exact this) GW173.out); have hn175_1 : ad174.block ≠ gb173 := Nat.ne_of_lt (Nat.lt_of_lt_of_le (by have := World.block_lt_of_cell? _ _ hx175_0; first | rwa [add_block] at this | exact this) GW173.out); have hn175_2 : ad174.block ≠ gb173 := Nat.ne_of_lt (Nat.lt_of_lt_of_le (by have := World.block_lt_of_cell? _ _ hx175_0; first | rwa [add_block] at this | exact this) GW173.out); replace hx175_0 := (HB.out.cell (World.block_lt_of_cell? w _ hx175_0)).trans hx175_0; replace hx175_0 := (cell_far (p := ⟨gb173, 0, none⟩) (by first | (rw [add_block]; exact hn175_0) | (show (Addr.add _ _).block ≠ _; rw [add_block]; exact hn175_0) | exact hn175_0) (.int .i64 (rd params_Check.tb0_0 x11_1))).trans hx175_0; replace hx175_0 := (cell_far (p := ⟨gb173, 1, none⟩) (by first | (rw [add_block]; exact hn175_1) | (show (Addr.add _ _).block ≠ _; rw [add_block]; exact hn175_1) | exact hn175_1) (.int .i64 (rd params_Check.tb0_1 x11_1))).trans hx175_0; replace hx175_0 := (cell_far (p := ⟨gb173, 2, none⟩) (by first | (rw [add_block]; exact hn175_2) | (show (Addr.add _ _).block ≠ _; rw [add_block]; exact hn175_2) | exact hn175_2) (.int .i64 (rd params_Check.tb0_2 x11_1))).trans hx175_0; (try have hy175_0 := fun (n_ : Nat) => (show (((((w16.drewN n_).setCell ⟨gb173, 0, none⟩ (.int .i64 (rd params_Check.tb0_0 x11_1))).setCell ⟨gb173, 1, none⟩ (.int .i64 (rd params_Check.tb0_1 x11_1))).setCell ⟨gb173, 2, none⟩ (.int .i64 (rd params_Check.tb0_2 x11_1)))).cell? _ = some _ from hx175_0)); clear hn175_0; clear hn175_1; clear hn175_2; replace p175 := eq_true p175; replace q175 := eq_true q175)); try go_wp2_with (first | ((with_reducible refine gate_dst (N := 4) rfl ?_); refine box_event ?hg (N := 4) ?hd (cs := #[.int .i64 0, .int .i64 0, .int .i64 0]) (t := 54) ?hr ?_; (case hd => rfl); (case hg => rfl); (case hr => first | (go_simp; done) | (go_simp; rfl)); intro gb173 hg w16 hbox hb; have n0_ := Aside0.mk (below_step (by repeat (first | (with_reducible first | exact HB.out | apply below_alloc | apply pw_below_drewN | apply below_drew1) | exact HB.out)) hb); have n1_ := Aside0.mk (hbox); have n2_ := Aside0.mk ((by rw [hg]; exact (below_size (by repeat (first | (with_reducible first | exact HB.out | apply below_alloc | apply pw_below_drewN | apply below_drew1) | exact HB.out))) : w.heap.size ≤ gb173)); have n3_ := Aside0.mk ((by rw [hg]; exact (below_size (by repeat (first | (with_reducible first | exact HB.out | apply below_alloc | apply pw_below_drewN | apply below_drew1) | exact HB.out))) : w.heap.size ≤ gb173)); clear HB; have HB := n0_; have BK173 := n1_; have GW173 := n2_; have GE173 := n3_; clear n0_ n1_ n2_ n3_; clear hb hbox hg; have hcz17_0 := blk_cells3 (w := w16) (g := gb173) BK173.out; have hfz17_0 := blk_frozen BK173.out; have p174 : 0 ≤ (x11_1 : Int) := of_decide_eq_true (by first | (with_reducible assumption) | assumption); have q174 : x11_1 < (l0.length : Int) := of_decide_eq_true (by first | (with_reducible assumption) | assumption); obtain ⟨ad174, e174, hx174_0⟩ := Kd.at_int HR0.out x11_1 p174 q174; cases e174; have hn174_0 : ad174.block ≠ gb173 := Nat.ne_of_lt (Nat.lt_of_lt_of_le (by have := World.block_lt_of_cell? _ _ hx174_0; first | rwa [add_block] at this | exact this) GW173.out); have hn174_1 : ad174.block ≠ gb173 := Nat.ne_of_lt (Nat.lt_of_lt_of_le (by have := World.block_lt_of_cell? _ _ hx174_0; first | rwa [add_block] at this | exact this) GW173.out); have hn174_2 : ad174.block ≠ gb173 := Nat.ne_of_lt (Nat.lt_of_lt_of_le (by have := World.block_lt_of_cell? _ _ hx174_0; first | rwa [add_block] at this | exact this) GW173.out); replace hx174_0 := (HB.out.cell (World.block_lt_of_cell? w _ hx174_0)).trans hx174_0; replace hx174_0 := (cell_far (p := ⟨gb173, 0, none⟩) (by first | (rw [add_block]; exact hn174_0) | (show (Addr.add _ _).block ≠ _; rw [add_block]; exact hn174_0) | exact hn174_0) (.int .i64 (rd params_Check.tb0_0 x11_1))).trans hx174_0; replace hx174_0 := (cell_far (p := ⟨gb173, 1, none⟩) (by first | (rw [add_block]; exact hn174_1) | (show (Addr.add _ _).block ≠ _; rw [add_block]; exact hn174_1) | exact hn174_1) (.int .i64 (rd params_Check.tb0_1 x11_1))).trans hx174_0; replace hx174_0 := (cell_far (p := ⟨gb173, 2, none⟩) (by first | (rw [add_block]; exact hn174_2) | (show (Addr.add _ _).block ≠ _; rw [add_block]; exact hn174_2) | exact hn174_2) (.int .i64 (rd params_Check.tb0_2 x11_1))).trans hx174_0; (try have hy174_0 := fun (n_ : Nat) => (show (((((w16.drewN n_).setCell ⟨gb173, 0, none⟩ (.int .i64 (rd params_Check.tb0_0 x11_1))).setCell ⟨gb173, 1, none⟩ (.int .i64 (rd params_Check.tb0_1 x11_1))).setCell ⟨gb173, 2, none⟩ (.int .i64 (rd params_Check.tb0_2 x11_1)))).cell? _ = some _ from hx174_0)); clear hn174_0; clear hn174_1; clear hn174_2; replace p174 := eq_true p174; replace q174 := eq_true q174; have p175 : 0 ≤ (x11_1 : Int) := of_decide_eq_true (by first | (with_reducible assumption) | assumption); have q175 : x11_1 < (l0.length : Int) := of_decide_eq_true (by first | (with_reducible assumption) | assumption); obtain ⟨ad175, e175, hx175_0⟩ := Kd.at_int HR0.out x11_1 p175 q175; obtain rfl : ad174 = ad175 := (by injection e175); have hn175_0 : ad174.block ≠ gb173 := Nat.ne_of_lt (Nat.lt_of_lt_of_le (by have := World.block_lt_of_cell? _ _ hx175_0; first | rwa [add_block] at this | exact this) GW173.out); have hn175_1 : ad174.block ≠ gb173 := Nat.ne_of_lt (Nat.lt_of_lt_of_le (by have := World.block_lt_of_cell? _ _ hx175_0; first | rwa [add_block] at this | exact this) GW173.out); have hn175_2 : ad174.block ≠ gb173 := Nat.ne_of_lt (Nat.lt_of_lt_of_le (by have := World.block_lt_of_cell? _ _ hx175_0; first | rwa [add_block] at this | exact this) GW173.out); replace hx175_0 := (HB.out.cell (World.block_lt_of_cell? w _ hx175_0)).trans hx175_0; replace hx175_0 := (cell_far (p := ⟨gb173, 0, none⟩) (by first | (rw [add_block]; exact hn175_0) | (show (Addr.add _ _).block ≠ _; rw [add_block]; exact hn175_0) | exact hn175_0) (.int .i64 (rd params_Check.tb0_0 x11_1))).trans hx175_0; replace hx175_0 := (cell_far (p := ⟨gb173, 1, none⟩) (by first | (rw [add_block]; exact hn175_1) | (show (Addr.add _ _).block ≠ _; rw [add_block]; exact hn175_1) | exact hn175_1) (.int .i64 (rd params_Check.tb0_1 x11_1))).trans hx175_0; replace hx175_0 := (cell_far (p := ⟨gb173, 2, none⟩) (by first | (rw [add_block]; exact hn175_2) | (show (Addr.add _ _).block ≠ _; rw [add_block]; exact hn175_2) | exact hn175_2) (.int .i64 (rd params_Check.tb0_2 x11_1))).trans hx175_0; (try have hy175_0 := fun (n_ : Nat) => (show (((((w16.drewN n_).setCell ⟨gb173, 0, none⟩ (.int .i64 (rd params_Check.tb0_0 x11_1))).setCell ⟨gb173, 1, none⟩ (.int .i64 (rd params_Check.tb0_1 x11_1))).setCell ⟨gb173, 2, none⟩ (.int .i64 (rd params_Check.tb0_2 x11_1)))).cell? _ = some _ from hx175_0)); clear hn175_0; clear hn175_1; clear hn175_2; replace p175 := eq_true p175; replace q175 := eq_true q175)))
                  go_roundg k1
                  case measure => have := HK1.out; omega
                  case rel => exact ⟨(wrap64 (x11_1 + 1)), (by first | rfl | (simp; done) | (simp [*]; done)), H', ⟨by have := HK1.out; omega⟩, ⟨by repeat (first | (with_reducible first | exact HB.out | apply below_alloc | apply pw_below_drewN | apply below_drew1 | refine below_set ?_ GE173.out) | exact HB.out)⟩⟩
            · rw [if_neg c9] at H
              exact absurd H (by simp)
          · rw [if_neg c6] at H
            exact absurd H (by simp)
        · rw [if_neg c5] at H
          have c5b0 : decide (x11_1 < 24) = false := decide_eq_false c5
          clear c5
          by_cases c18 : 2 < (l0.length : Int)
          · rw [if_pos c18] at H
            have c18b0 : decide (2 < (l0.length : Int)) = true := decide_eq_true c18
            have c18b1 : decide (2 < l0.length) = true := decide_eq_true (by omega)
            clear c18
            by_cases c19 : 4 < (l0.length : Int)
            · rw [if_pos c19] at H
              have c19b0 : decide (4 < (l0.length : Int)) = true := decide_eq_true c19
              have c19b1 : decide (4 < l0.length) = true := decide_eq_true (by omega)
              clear c19
              obtain ⟨ji20, hji20⟩ : ∃ j_ : Int, (mx (rd l0 2) (rd l0 4)) = j_ := ⟨_, rfl⟩
              replace H : (if 1 < (l0.length : Int) then (if 3 < (l0.length : Int) then (if 0 < (l0.length : Int) then (if 6 < (l0.length : Int) then (if (wrap64 ((wrap64 ((wrap64 ((rd l0 0) + (rd l0 6))) + (wrap64 (2 * (ji20))))) + 4)) > 64 then (some 80) else (if 12 < (l0.length : Int) then (if (rd l0 12) < (wrap64 ((wrap64 (8 * (mx (rd l0 1) (rd l0 3)))) + 100)) then (some 80) else (if 11 < (l0.length : Int) then (if 10 < (l0.length : Int) then (if (rd l0 11) > (rd l0 10) then (some 80) else (some 0)) else (none)) else (none))) else (none))) else (none)) else (none)) else (none)) else (none)) = some r := by first | (rw [hji20] at H; exact H) | (simp only [hji20] at H ⊢; exact H)
              have hji20_ : (if (rd l0 2) < (rd l0 4) then (rd l0 4) else (rd l0 2)) = ji20 := hji20
              by_cases c21 : 1 < (l0.length : Int)
              · rw [if_pos c21] at H
                have c21b0 : decide (1 < (l0.length : Int)) = true := decide_eq_true c21
                have c21b1 : decide (1 < l0.length) = true := decide_eq_true (by omega)
                clear c21
                by_cases c22 : 3 < (l0.length : Int)
                · rw [if_pos c22] at H
                  have c22b0 : decide (3 < (l0.length : Int)) = true := decide_eq_true c22
                  have c22b1 : decide (3 < l0.length) = true := decide_eq_true (by omega)
                  clear c22
                  obtain ⟨ji23, hji23⟩ : ∃ j_ : Int, (mx (rd l0 1) (rd l0 3)) = j_ := ⟨_, rfl⟩
                  replace H : (if 0 < (l0.length : Int) then (if 6 < (l0.length : Int) then (if (wrap64 ((wrap64 ((wrap64 ((rd l0 0) + (rd l0 6))) + (wrap64 (2 * (ji20))))) + 4)) > 64 then (some 80) else (if 12 < (l0.length : Int) then (if (rd l0 12) < (wrap64 ((wrap64 (8 * (ji23))) + 100)) then (some 80) else (if 11 < (l0.length : Int) then (if 10 < (l0.length : Int) then (if (rd l0 11) > (rd l0 10) then (some 80) else (some 0)) else (none)) else (none))) else (none))) else (none)) else (none)) = some r := by first | (rw [hji23] at H; exact H) | (simp only [hji23] at H ⊢; exact H)
                  have hji23_ : (if (rd l0 1) < (rd l0 3) then (rd l0 3) else (rd l0 1)) = ji23 := hji23
                  by_cases c24 : 0 < (l0.length : Int)
                  · rw [if_pos c24] at H
                    have c24b0 : decide (0 < (l0.length : Int)) = true := decide_eq_true c24
                    have c24b1 : decide (0 < l0.length) = true := decide_eq_true (by omega)
                    clear c24
                    by_cases c25 : 6 < (l0.length : Int)
                    · rw [if_pos c25] at H
                      have c25b0 : decide (6 < (l0.length : Int)) = true := decide_eq_true c25
                      have c25b1 : decide (6 < l0.length) = true := decide_eq_true (by omega)
                      clear c25
                      by_cases c26 : (wrap64 ((wrap64 ((wrap64 ((rd l0 0) + (rd l0 6))) + (wrap64 (2 * (ji20))))) + 4)) > 64
                      · rw [if_pos c26] at H
                        have c26b0 : decide (64 < (wrap64 ((wrap64 ((wrap64 ((rd l0 0) + (rd l0 6))) + (wrap64 (2 * (ji20))))) + 4))) = true := decide_eq_true c26
                        clear c26
                        obtain rfl := Option.some.inj H
                        have p176 : 0 ≤ (2 : Int) := (by omega)
                        have q176 : 2 < (l0.length : Int) := of_decide_eq_true (by first | (with_reducible assumption) | assumption)
                        obtain ⟨ad176, e176, hx176_0⟩ := Kd.at_int HR0.out 2 p176 q176
                        cases e176
                        (try simp only [show (2 : Int).toNat = 2 from rfl, Nat.reduceMul, Nat.reduceEqDiff, Go.Addr.add, ↓reduceIte] at hx176_0)
                        have qi176 : (2 < l0.length) = True := eq_true (by omega)
                        (try rw [show ((2 : Int)).toNat = 2 from rfl] at hx176_0)
                        replace hx176_0 := (HB.out.cell (World.block_lt_of_cell? w _ hx176_0)).trans hx176_0
                        replace p176 := eq_true p176
                        replace q176 := eq_true q176
                        have p177 : 0 ≤ (4 : Int) := (by omega)
                        have q177 : 4 < (l0.length : Int) := of_decide_eq_true (by first | (with_reducible assumption) | assumption)
                        obtain ⟨ad177, e177, hx177_0⟩ := Kd.at_int HR0.out 4 p177 q177
                        obtain rfl : ad176 = ad177 := (by injection e177)
                        (try simp only [show (4 : Int).toNat = 4 from rfl, Nat.reduceMul, Nat.reduceEqDiff, Go.Addr.add, ↓reduceIte] at hx177_0)
                        have qi177 : (4 < l0.length) = True := eq_true (by omega)
                        (try rw [show ((4 : Int)).toNat = 4 from rfl] at hx177_0)
                        replace hx177_0 := (HB.out.cell (World.block_lt_of_cell? w _ hx177_0)).trans hx177_0
                        replace p177 := eq_true p177
                        replace q177 := eq_true q177
                        have p178 : 0 ≤ (1 : Int) := (by omega)
                        have q178 : 1 < (l0.length : Int) := of_decide_eq_true (by first | (with_reducible assumption) | assumption)
                        obtain ⟨ad178, e178, hx178_0⟩ := Kd.at_int HR0.out 1 p178 q178
                        obtain rfl : ad176 = ad178 := (by injection e178)
                        (try simp only [show (1 : Int).toNat = 1 from rfl, Nat.reduceMul, Nat.reduceEqDiff, Go.Addr.add, ↓reduceIte] at hx178_0)
                        have qi178 : (1 < l0.length) = True := eq_true (by omega)
                        (try rw [show ((1 : Int)).toNat = 1 from rfl] at hx178_0)
                        replace hx178_0 := (HB.out.cell (World.block_lt_of_cell? w _ hx178_0)).trans hx178_0
                        replace p178 := eq_true p178
                        replace q178 := eq_true q178
                        have p179 : 0 ≤ (3 : Int) := (by omega)
                        have q179 : 3 < (l0.length : Int) := of_decide_eq_true (by first | (with_reducible assumption) | assumption)
                        obtain ⟨ad179, e179, hx179_0⟩ := Kd.at_int HR0.out 3 p179 q179
                        obtain rfl : ad176 = ad179 := (by injection e179)
                        (try simp only [show (3 : Int).toNat = 3 from rfl, Nat.reduceMul, Nat.reduceEqDiff, Go.Addr.add, ↓reduceIte] at hx179_0)
                        have qi179 : (3 < l0.length) = True := eq_true (by omega)
                        (try rw [show ((3 : Int)).toNat = 3 from rfl] at hx179_0)
                        replace hx179_0 := (HB.out.cell (World.block_lt_of_cell? w _ hx179_0)).trans hx179_0
                        replace p179 := eq_true p179
                        replace q179 := eq_true q179
                        have p180 : 0 ≤ (0 : Int) := (by omega)
                        have q180 : 0 < (l0.length : Int) := of_decide_eq_true (by first | (with_reducible assumption) | assumption)
                        obtain ⟨ad180, e180, hx180_0⟩ := Kd.at_int HR0.out 0 p180 q180
                        obtain rfl : ad176 = ad180 := (by injection e180)
                        have qi180 : (0 < l0.length) = True := eq_true (by omega)
                        (try rw [show ((0 : Int)).toNat = 0 from rfl] at hx180_0)
                        (try rw [Addr.add_zero'] at hx180_0)
                        replace hx180_0 := (HB.out.cell (World.block_lt_of_cell? w _ hx180_0)).trans hx180_0
                        replace p180 := eq_true p180
                        replace q180 := eq_true q180
                        have p181 : 0 ≤ (6 : Int) := (by omega)
                        have q181 : 6 < (l0.length : Int) := of_decide_eq_true (by first | (with_reducible assumption) | assumption)
                        obtain ⟨ad181, e181, hx181_0⟩ := Kd.at_int HR0.out 6 p181 q181
                        obtain rfl : ad176 = ad181 := (by injection e181)
                        (try simp only [show (6 : Int).toNat = 6 from rfl, Nat.reduceMul, Nat.reduceEqDiff, Go.Addr.add, ↓reduceIte] at hx181_0)
                        have qi181 : (6 < l0.length) = True := eq_true (by omega)
                        (try rw [show ((6 : Int)).toNat = 6 from rfl] at hx181_0)
                        replace hx181_0 := (HB.out.cell (World.block_lt_of_cell? w _ hx181_0)).trans hx181_0
                        replace p181 := eq_true p181
                        replace q181 := eq_true q181
                        go_wp2
                        repeat (go_quiet (fail); try go_wp2)
                        go_ret
                        exact ⟨by first | rfl | (simp [errW_none, errW_some] <;> rfl) | (simp only [← hji20, ← hji23]; first | rfl | (simp [errW_none, errW_some] <;> rfl)) | (simp [*, errW_none, errW_some] <;> rfl), by repeat (first | (with_reducible first | exact HB.out | apply below_alloc | apply pw_below_drewN | apply below_drew1) | exact HB.out)⟩
                      · rw [if_neg c26] at H
                        have c26b0 : decide (64 < (wrap64 ((wrap64 ((wrap64 ((rd l0 0) + (rd l0 6))) + (wrap64 (2 * (ji20))))) + 4))) = false := decide_eq_false c26
                        clear c26
                        by_cases c27 : 12 < (l0.length : Int)
                        · rw [if_pos c27] at H
                          have c27b0 : decide (12 < (l0.length : Int)) = true := decide_eq_true c27
                          have c27b1 : decide (12 < l0.length) = true := decide_eq_true (by omega)
                          clear c27
                          by_cases c28 : (rd l0 12) < (wrap64 ((wrap64 (8 * (ji23))) + 100))
                          · rw [if_pos c28] at H
                            have c28b0 : decide ((rd l0 12) < (wrap64 ((wrap64 (8 * (ji23))) + 100))) = true := decide_eq_true c28
                            clear c28
                            obtain rfl := Option.some.inj H
                            have p176 : 0 ≤ (2 : Int) := (by omega)
                            have q176 : 2 < (l0.length : Int) := of_decide_eq_true (by first | (with_reducible assumption) | assumption)
                            obtain ⟨ad176, e176, hx176_0⟩ := Kd.at_int HR0.out 2 p176 q176
                            cases e176
                            (try simp only [show (2 : Int).toNat = 2 from rfl, Nat.reduceMul, Nat.reduceEqDiff, Go.Addr.add, ↓reduceIte] at hx176_0)
                            have qi176 : (2 < l0.length) = True := eq_true (by omega)
                            (try rw [show ((2 : Int)).toNat = 2 from rfl] at hx176_0)
                            replace hx176_0 := (HB.out.cell (World.block_lt_of_cell? w _ hx176_0)).trans hx176_0
                            replace p176 := eq_true p176
                            replace q176 := eq_true q176
                            have p177 : 0 ≤ (4 : Int) := (by omega)
                            have q177 : 4 < (l0.length : Int) := of_decide_eq_true (by first | (with_reducible assumption) | assumption)
                            obtain ⟨ad177, e177, hx177_0⟩ := Kd.at_int HR0.out 4 p177 q177
                            obtain rfl : ad176 = ad177 := (by injection e177)
                            (try simp only [show (4 : Int).toNat = 4 from rfl, Nat.reduceMul, Nat.reduceEqDiff, Go.Addr.add, ↓reduceIte] at hx177_0)
                            have qi177 : (4 < l0.length) = True := eq_true (by omega)
                            (try rw [show ((4 : Int)).toNat = 4 from rfl] at hx177_0)
                            replace hx177_0 := (HB.out.cell (World.block_lt_of_cell? w _ hx177_0)).trans hx177_0
                            replace p177 := eq_true p177
                            replace q177 := eq_true q177
                            have p178 : 0 ≤ (1 : Int) := (by omega)
                            have q178 : 1 < (l0.length : Int) := of_decide_eq_true (by first | (with_reducible assumption) | assumption)
                            obtain ⟨ad178, e178, hx178_0⟩ := Kd.at_int HR0.out 1 p178 q178
                            obtain rfl : ad176 = ad178 := (by injection e178)
                            (try simp only [show (1 : Int).toNat = 1 from rfl, Nat.reduceMul, Nat.reduceEqDiff, Go.Addr.add, ↓reduceIte] at hx178_0)
                            have qi178 : (1 < l0.length) = True := eq_true (by omega)
                            (try rw [show ((1 : Int)).toNat = 1 from rfl] at hx178_0)
                            replace hx178_0 := (HB.out.cell (World.block_lt_of_cell? w _ hx178_0)).trans hx178_0
                            replace p178 := eq_true p178
                            replace q178 := eq_true q178
                            have p179 : 0 ≤ (3 : Int) := (by omega)
                            have q179 : 3 < (l0.length : Int) := of_decide_eq_true (by first | (with_reducible assumption) | assumption)
                            obtain ⟨ad179, e179, hx179_0⟩ := Kd.at_int HR0.out 3 p179 q179
                            obtain rfl : ad176 = ad179 := (by injection e179)
                            (try simp only [show (3 : Int).toNat = 3 from rfl, Nat.reduceMul, Nat.reduceEqDiff, Go.Addr.add, ↓reduceIte] at hx179_0)
                            have qi179 : (3 < l0.length) = True := eq_true (by omega)
                            (try rw [show ((3 : Int)).toNat = 3 from rfl] at hx179_0)
                            replace hx179_0 := (HB.out.cell (World.block_lt_of_cell? w _ hx179_0)).trans hx179_0
                            replace p179 := eq_true p179
                            replace q179 := eq_true q179
                            have p180 : 0 ≤ (0 : Int) := (by omega)
                            have q180 : 0 < (l0.length : Int) := of_decide_eq_true (by first | (with_reducible assumption) | assumption)
                            obtain ⟨ad180, e180, hx180_0⟩ := Kd.at_int HR0.out 0 p180 q180
                            obtain rfl : ad176 = ad180 := (by injection e180)
                            have qi180 : (0 < l0.length) = True := eq_true (by omega)
                            (try rw [show ((0 : Int)).toNat = 0 from rfl] at hx180_0)
                            (try rw [Addr.add_zero'] at hx180_0)
                            replace hx180_0 := (HB.out.cell (World.block_lt_of_cell? w _ hx180_0)).trans hx180_0
                            replace p180 := eq_true p180
                            replace q180 := eq_true q180
                            have p181 : 0 ≤ (6 : Int) := (by omega)
                            have q181 : 6 < (l0.length : Int) := of_decide_eq_true (by first | (with_reducible assumption) | assumption)
                            obtain ⟨ad181, e181, hx181_0⟩ := Kd.at_int HR0.out 6 p181 q181
                            obtain rfl : ad176 = ad181 := (by injection e181)
                            (try simp only [show (6 : Int).toNat = 6 from rfl, Nat.reduceMul, Nat.reduceEqDiff, Go.Addr.add, ↓reduceIte] at hx181_0)
                            have qi181 : (6 < l0.length) = True := eq_true (by omega)
                            (try rw [show ((6 : Int)).toNat = 6 from rfl] at hx181_0)
                            replace hx181_0 := (HB.out.cell (World.block_lt_of_cell? w _ hx181_0)).trans hx181_0
                            replace p181 := eq_true p181
                            replace q181 := eq_true q181
                            have p182 : 0 ≤ (12 : Int) := (by omega)
                            have q182 : 12 < (l0.length : Int) := of_decide_eq_true (by first | (with_reducible assumption) | assumption)
                            obtain ⟨ad182, e182, hx182_0⟩ := Kd.at_int HR0.out 12 p182 q182
                            obtain rfl : ad176 = ad182 := (by injection e182)
                            (try simp only [show (12 : Int).toNat = 12 from rfl, Nat.reduceMul, Nat.reduceEqDiff, Go.Addr.add, ↓reduceIte] at hx182_0)
                            have qi182 : (12 < l0.length) = True := eq_true (by omega)
                            (try rw [show ((12 : Int)).toNat = 12 from rfl] at hx182_0)
                            replace hx182_0 := (HB.out.cell (World.block_lt_of_cell? w _ hx182_0)).trans hx182_0
                            replace p182 := eq_true p182
                            replace q182 := eq_true q182
                            go_wp2
                            repeat (go_quiet (fail); try go_wp2)
                            go_ret
                            exact ⟨by first | rfl | (simp [errW_none, errW_some] <;> rfl) | (simp only [← hji20, ← hji23]; first | rfl | (simp [errW_none, errW_some] <;> rfl)) | (simp [*, errW_none, errW_some] <;> rfl), by repeat (first | (with_reducible first | exact HB.out | apply below_alloc | apply pw_below_drewN | apply below_drew1) | exact HB.out)⟩
                          · rw [if_neg c28] at H
                            have c28b0 : decide ((rd l0 12) < (wrap64 ((wrap64 (8 * (ji23))) + 100))) = false := decide_eq_false c28
                            clear c28
                            by_cases c29 : 11 < (l0.length : Int)
                            · rw [if_pos c29] at H
                              have c29b0 : decide (11 < (l0.length : Int)) = true := decide_eq_true c29
                              have c29b1 : decide (11 < l0.length) = true := decide_eq_true (by omega)
                              clear c29
                              by_cases c30 : 10 < (l0.length : Int)
                              · rw [if_pos c30] at H
                                have c30b0 : decide (10 < (l0.length : Int)) = true := decide_eq_true c30
                                have c30b1 : decide (10 < l0.length) = true := decide_eq_true (by omega)
                                clear c30
                                by_cases c31 : (rd l0 11) > (rd l0 10)
                                · rw [if_pos c31] at H
                                  have c31b0 : decide ((rd l0 10) < (rd l0 11)) = true := decide_eq_true c31
                                  clear c31
                                  obtain rfl := Option.some.inj H
                                  have p176 : 0 ≤ (2 : Int) := (by omega)
                                  have q176 : 2 < (l0.length : Int) := of_decide_eq_true (by first | (with_reducible assumption) | assumption)
                                  obtain ⟨ad176, e176, hx176_0⟩ := Kd.at_int HR0.out 2 p176 q176
                                  cases e176
                                  (try simp only [show (2 : Int).toNat = 2 from rfl, Nat.reduceMul, Nat.reduceEqDiff, Go.Addr.add, ↓reduceIte] at hx176_0)
                                  have qi176 : (2 < l0.length) = True := eq_true (by omega)
                                  (try rw [show ((2 : Int)).toNat = 2 from rfl] at hx176_0)
                                  replace hx176_0 := (HB.out.cell (World.block_lt_of_cell? w _ hx176_0)).trans hx176_0
                                  replace p176 := eq_true p176
                                  replace q176 := eq_true q176
                                  have p177 : 0 ≤ (4 : Int) := (by omega)
                                  have q177 : 4 < (l0.length : Int) := of_decide_eq_true (by first | (with_reducible assumption) | assumption)
                                  obtain ⟨ad177, e177, hx177_0⟩ := Kd.at_int HR0.out 4 p177 q177
                                  obtain rfl : ad176 = ad177 := (by injection e177)
                                  (try simp only [show (4 : Int).toNat = 4 from rfl, Nat.reduceMul, Nat.reduceEqDiff, Go.Addr.add, ↓reduceIte] at hx177_0)
                                  have qi177 : (4 < l0.length) = True := eq_true (by omega)
                                  (try rw [show ((4 : Int)).toNat = 4 from rfl] at hx177_0)
                                  replace hx177_0 := (HB.out.cell (World.block_lt_of_cell? w _ hx177_0)).trans hx177_0
                                  replace p177 := eq_true p177
                                  replace q177 := eq_true q177
                                  have p178 : 0 ≤ (1 : Int) := (by omega)
                                  have q178 : 1 < (l0.length : Int) := of_decide_eq_true (by first | (with_reducible assumption) | assumption)
                                  obtain ⟨ad178, e178, hx178_0⟩ := Kd.at_int HR0.out 1 p178 q178
                                  obtain rfl : ad176 = ad178 := (by injection e178)
                                  (try simp only [show (1 : Int).toNat = 1 from rfl, Nat.reduceMul, Nat.reduceEqDiff, Go.Addr.add, ↓reduceIte] at hx178_0)
                                  have qi178 : (1 < l0.length) = True := eq_true (by omega)
                                  (try rw [show ((1 : Int)).toNat = 1 from rfl] at hx178_0)
                                  replace hx178_0 := (HB.out.cell (World.block_lt_of_cell? w _ hx178_0)).trans hx178_0
                                  replace p178 := eq_true p178
                                  replace q178 := eq_true q178
                                  have p179 : 0 ≤ (3 : Int) := (by omega)
                                  have q179 : 3 < (l0.length : Int) := of_decide_eq_true (by first | (with_reducible assumption) | assumption)
                                  obtain ⟨ad179, e179, hx179_0⟩ := Kd.at_int HR0.out 3 p179 q179
                                  obtain rfl : ad176 = ad179 := (by injection e179)
                                  (try simp only [show (3 : Int).toNat = 3 from rfl, Nat.reduceMul, Nat.reduceEqDiff, Go.Addr.add, ↓reduceIte] at hx179_0)
                                  have qi179 : (3 < l0.length) = True := eq_true (by omega)
                                  (try rw [show ((3 : Int)).toNat = 3 from rfl] at hx179_0)
                                  replace hx179_0 := (HB.out.cell (World.block_lt_of_cell? w _ hx179_0)).trans hx179_0
                                  replace p179 := eq_true p179
                                  replace q179 := eq_true q179
                                  have p180 : 0 ≤ (0 : Int) := (by omega)
                                  have q180 : 0 < (l0.length : Int) := of_decide_eq_true (by first | (with_reducible assumption) | assumption)
                                  obtain ⟨ad180, e180, hx180_0⟩ := Kd.at_int HR0.out 0 p180 q180
                                  obtain rfl : ad176 = ad180 := (by injection e180)
                                  have qi180 : (0 < l0.length) = True := eq_true (by omega)
                                  (try rw [show ((0 : Int)).toNat = 0 from rfl] at hx180_0)
                                  (try rw [Addr.add_zero'] at hx180_0)
                                  replace hx180_0 := (HB.out.cell (World.block_lt_of_cell? w _ hx180_0)).trans hx180_0
                                  replace p180 := eq_true p180
                                  replace q180 := eq_true q180
                                  have p181 : 0 ≤ (6 : Int) := (by omega)
                                  have q181 : 6 < (l0.length : Int) := of_decide_eq_true (by first | (with_reducible assumption) | assumption)
                                  obtain ⟨ad181, e181, hx181_0⟩ := Kd.at_int HR0.out 6 p181 q181
                                  obtain rfl : ad176 = ad181 := (by injection e181)
                                  (try simp only [show (6 : Int).toNat = 6 from rfl, Nat.reduceMul, Nat.reduceEqDiff, Go.Addr.add, ↓reduceIte] at hx181_0)
                                  have qi181 : (6 < l0.length) = True := eq_true (by omega)
                                  (try rw [show ((6 : Int)).toNat = 6 from rfl] at hx181_0)
                                  replace hx181_0 := (HB.out.cell (World.block_lt_of_cell? w _ hx181_0)).trans hx181_0
                                  replace p181 := eq_true p181
                                  replace q181 := eq_true q181
                                  have p182 : 0 ≤ (12 : Int) := (by omega)
                                  have q182 : 12 < (l0.length : Int) := of_decide_eq_true (by first | (with_reducible assumption) | assumption)
                                  obtain ⟨ad182, e182, hx182_0⟩ := Kd.at_int HR0.out 12 p182 q182
                                  obtain rfl : ad176 = ad182 := (by injection e182)
                                  (try simp only [show (12 : Int).toNat = 12 from rfl, Nat.reduceMul, Nat.reduceEqDiff, Go.Addr.add, ↓reduceIte] at hx182_0)
                                  have qi182 : (12 < l0.length) = True := eq_true (by omega)
                                  (try rw [show ((12 : Int)).toNat = 12 from rfl] at hx182_0)
                                  replace hx182_0 := (HB.out.cell (World.block_lt_of_cell? w _ hx182_0)).trans hx182_0
                                  replace p182 := eq_true p182
                                  replace q182 := eq_true q182
                                  have p183 : 0 ≤ (11 : Int) := (by omega)
                                  have q183 : 11 < (l0.length : Int) := of_decide_eq_true (by first | (with_reducible assumption) | assumption)
                                  obtain ⟨ad183, e183, hx183_0⟩ := Kd.at_int HR0.out 11 p183 q183
                                  obtain rfl : ad176 = ad183 := (by injection e183)
                                  (try simp only [show (11 : Int).toNat = 11 from rfl, Nat.reduceMul, Nat.reduceEqDiff, Go.Addr.add, ↓reduceIte] at hx183_0)
                                  have qi183 : (11 < l0.length) = True := eq_true (by omega)
                                  (try rw [show ((11 : Int)).toNat = 11 from rfl] at hx183_0)
                                  replace hx183_0 := (HB.out.cell (World.block_lt_of_cell? w _ hx183_0)).trans hx183_0
                                  replace p183 := eq_true p183
                                  replace q183 := eq_true q183
                                  have p184 : 0 ≤ (10 : Int) := (by omega)
                                  have q184 : 10 < (l0.length : Int) := of_decide_eq_true (by first | (with_reducible assumption) | assumption)
                                  obtain ⟨ad184, e184, hx184_0⟩ := Kd.at_int HR0.out 10 p184 q184
                                  obtain rfl : ad176 = ad184 := (by injection e184)
                                  (try simp only [show (10 : Int).toNat = 10 from rfl, Nat.reduceMul, Nat.reduceEqDiff, Go.Addr.add, ↓reduceIte] at hx184_0)
                                  have qi184 : (10 < l0.length) = True := eq_true (by omega)
                                  (try rw [show ((10 : Int)).toNat = 10 from rfl] at hx184_0)
                                  replace hx184_0 := (HB.out.cell (World.block_lt_of_cell? w _ hx184_0)).trans hx184_0
                                  replace p184 := eq_true p184
                                  replace q184 := eq_true q184
                                  go_wp2
                                  repeat (go_quiet (fail); try go_wp2)
                                  go_ret
                                  exact ⟨by first | rfl | (simp [errW_none, errW_some] <;> rfl) | (simp only [← hji20, ← hji23]; first | rfl | (simp [errW_none, errW_some] <;> rfl)) | (simp [*, errW_none, errW_some] <;> rfl), by repeat (first | (with_reducible first | exact HB.out | apply below_alloc | apply pw_below_drewN | apply below_drew1) | exact HB.out)⟩
                                · rw [if_neg c31] at H
                                  have c31b0 : decide ((rd l0 10) < (rd l0 11)) = false := decide_eq_false c31
                                  clear c31
                                  obtain rfl := Option.some.inj H
                                  have p176 : 0 ≤ (2 : Int) := (by omega)
                                  have q176 : 2 < (l0.length : Int) := of_decide_eq_true (by first | (with_reducible assumption) | assumption)
                                  obtain ⟨ad176, e176, hx176_0⟩ := Kd.at_int HR0.out 2 p176 q176
                                  cases e176
                                  (try simp only [show (2 : Int).toNat = 2 from rfl, Nat.reduceMul, Nat.reduceEqDiff, Go.Addr.add, ↓reduceIte] at hx176_0)
                                  have qi176 : (2 < l0.length) = True := eq_true (by omega)
                                  (try rw [show ((2 : Int)).toNat = 2 from rfl] at hx176_0)
                                  replace hx176_0 := (HB.out.cell (World.block_lt_of_cell? w _ hx176_0)).trans hx176_0
                                  replace p176 := eq_true p176
                                  replace q176 := eq_true q176
                                  have p177 : 0 ≤ (4 : Int) := (by omega)
                                  have q177 : 4 < (l0.length : Int) := of_decide_eq_true (by first | (with_reducible assumption) | assumption)
                                  obtain ⟨ad177, e177, hx177_0⟩ := Kd.at_int HR0.out 4 p177 q177
                                  obtain rfl : ad176 = ad177 := (by injection e177)
                                  (try simp only [show (4 : Int).toNat = 4 from rfl, Nat.reduceMul, Nat.reduceEqDiff, Go.Addr.add, ↓reduceIte] at hx177_0)
                                  have qi177 : (4 < l0.length) = True := eq_true (by omega)
                                  (try rw [show ((4 : Int)).toNat = 4 from rfl] at hx177_0)
                                  replace hx177_0 := (HB.out.cell (World.block_lt_of_cell? w _ hx177_0)).trans hx177_0
                                  replace p177 := eq_true p177
                                  replace q177 := eq_true q177
                                  have p178 : 0 ≤ (1 : Int) := (by omega)
                                  have q178 : 1 < (l0.length : Int) := of_decide_eq_true (by first | (with_reducible assumption) | assumption)
                                  obtain ⟨ad178, e178, hx178_0⟩ := Kd.at_int HR0.out 1 p178 q178
                                  obtain rfl : ad176 = ad178 := (by injection e178)
                                  (try simp only [show (1 : Int).toNat = 1 from rfl, Nat.reduceMul, Nat.reduceEqDiff, Go.Addr.add, ↓reduceIte] at hx178_0)
                                  have qi178 : (1 < l0.length) = True := eq_true (by omega)
                                  (try rw [show ((1 : Int)).toNat = 1 from rfl] at hx178_0)
                                  replace hx178_0 := (HB.out.cell (World.block_lt_of_cell? w _ hx178_0)).trans hx178_0
                                  replace p178 := eq_true p178
                                  replace q178 := eq_true q178
                                  have p179 : 0 ≤ (3 : Int) := (by omega)
                                  have q179 : 3 < (l0.length : Int) := of_decide_eq_true (by first | (with_reducible assumption) | assumption)
                                  obtain ⟨ad179, e179, hx179_0⟩ := Kd.at_int HR0.out 3 p179 q179
                                  obtain rfl : ad176 = ad179 := (by injection e179)
                                  (try simp only [show (3 : Int).toNat = 3 from rfl, Nat.reduceMul, Nat.reduceEqDiff, Go.Addr.add, ↓reduceIte] at hx179_0)
                                  have qi179 : (3 < l0.length) = True := eq_true (by omega)
                                  (try rw [show ((3 : Int)).toNat = 3 from rfl] at hx179_0)
                                  replace hx179_0 := (HB.out.cell (World.block_lt_of_cell? w _ hx179_0)).trans hx179_0
                                  replace p179 := eq_true p179
                                  replace q179 := eq_true q179
                                  have p180 : 0 ≤ (0 : Int) := (by omega)
                                  have q180 : 0 < (l0.length : Int) := of_decide_eq_true (by first | (with_reducible assumption) | assumption)
                                  obtain ⟨ad180, e180, hx180_0⟩ := Kd.at_int HR0.out 0 p180 q180
                                  obtain rfl : ad176 = ad180 := (by injection e180)
                                  have qi180 : (0 < l0.length) = True := eq_true (by omega)
                                  (try rw [show ((0 : Int)).toNat = 0 from rfl] at hx180_0)
                                  (try rw [Addr.add_zero'] at hx180_0)
                                  replace hx180_0 := (HB.out.cell (World.block_lt_of_cell? w _ hx180_0)).trans hx180_0
                                  replace p180 := eq_true p180
                                  replace q180 := eq_true q180
                                  have p181 : 0 ≤ (6 : Int) := (by omega)
                                  have q181 : 6 < (l0.length : Int) := of_decide_eq_true (by first | (with_reducible assumption) | assumption)
                                  obtain ⟨ad181, e181, hx181_0⟩ := Kd.at_int HR0.out 6 p181 q181
                                  obtain rfl : ad176 = ad181 := (by injection e181)
                                  (try simp only [show (6 : Int).toNat = 6 from rfl, Nat.reduceMul, Nat.reduceEqDiff, Go.Addr.add, ↓reduceIte] at hx181_0)
                                  have qi181 : (6 < l0.length) = True := eq_true (by omega)
                                  (try rw [show ((6 : Int)).toNat = 6 from rfl] at hx181_0)
                                  replace hx181_0 := (HB.out.cell (World.block_lt_of_cell? w _ hx181_0)).trans hx181_0
                                  replace p181 := eq_true p181
                                  replace q181 := eq_true q181
                                  have p182 : 0 ≤ (12 : Int) := (by omega)
                                  have q182 : 12 < (l0.length : Int) := of_decide_eq_true (by first | (with_reducible assumption) | assumption)
                                  obtain ⟨ad182, e182, hx182_0⟩ := Kd.at_int HR0.out 12 p182 q182
                                  obtain rfl : ad176 = ad182 := (by injection e182)
                                  (try simp only [show (12 : Int).toNat = 12 from rfl, Nat.reduceMul, Nat.reduceEqDiff, Go.Addr.add, ↓reduceIte] at hx182_0)
                                  have qi182 : (12 < l0.length) = True := eq_true (by omega)
                                  (try rw [show ((12 : Int)).toNat = 12 from rfl] at hx182_0)
                                  replace hx182_0 := (HB.out.cell (World.block_lt_of_cell? w _ hx182_0)).trans hx182_0
                                  replace p182 := eq_true p182
                                  replace q182 := eq_true q182
                                  have p183 : 0 ≤ (11 : Int) := (by omega)
                                  have q183 : 11 < (l0.length : Int) := of_decide_eq_true (by first | (with_reducible assumption) | assumption)
                                  obtain ⟨ad183, e183, hx183_0⟩ := Kd.at_int HR0.out 11 p183 q183
                                  obtain rfl : ad176 = ad183 := (by injection e183)
                                  (try simp only [show (11 : Int).toNat = 11 from rfl, Nat.reduceMul, Nat.reduceEqDiff, Go.Addr.add, ↓reduceIte] at hx183_0)
                                  have qi183 : (11 < l0.length) = True := eq_true (by omega)
                                  (try rw [show ((11 : Int)).toNat = 11 from rfl] at hx183_0)
                                  replace hx183_0 := (HB.out.cell (World.block_lt_of_cell? w _ hx183_0)).trans hx183_0
                                  replace p183 := eq_true p183
                                  replace q183 := eq_true q183
                                  have p184 : 0 ≤ (10 : Int) := (by omega)
                                  have q184 : 10 < (l0.length : Int) := of_decide_eq_true (by first | (with_reducible assumption) | assumption)
                                  obtain ⟨ad184, e184, hx184_0⟩ := Kd.at_int HR0.out 10 p184 q184
                                  obtain rfl : ad176 = ad184 := (by injection e184)
                                  (try simp only [show (10 : Int).toNat = 10 from rfl, Nat.reduceMul, Nat.reduceEqDiff, Go.Addr.add, ↓reduceIte] at hx184_0)
                                  have qi184 : (10 < l0.length) = True := eq_true (by omega)
                                  (try rw [show ((10 : Int)).toNat = 10 from rfl] at hx184_0)
                                  replace hx184_0 := (HB.out.cell (World.block_lt_of_cell? w _ hx184_0)).trans hx184_0
                                  replace p184 := eq_true p184
                                  replace q184 := eq_true q184
                                  go_wp2
                                  repeat (go_quiet (fail); try go_wp2)
                                  go_ret
                                  exact ⟨by first | rfl | (simp [errW_none, errW_some] <;> rfl) | (simp only [← hji20, ← hji23]; first | rfl | (simp [errW_none, errW_some] <;> rfl)) | (simp [*, errW_none, errW_some] <;> rfl), by repeat (first | (with_reducible first | exact HB.out | apply below_alloc | apply pw_below_drewN | apply below_drew1) | exact HB.out)⟩
                              · rw [if_neg c30] at H
                                exact absurd H (by simp)
                            · rw [if_neg c29] at H
                              exact absurd H (by simp)
                        · rw [if_neg c27] at H
                          exact absurd H (by simp)
                    · rw [if_neg c25] at H
                      exact absurd H (by simp)
                  · rw [if_neg c24] at H
                    exact absurd H (by simp)
                · rw [if_neg c22] at H
                  exact absurd H (by simp)
              · rw [if_neg c21] at H
                exact absurd H (by simp)
            · rw [if_neg c19] at H
              exact absurd H (by simp)
          · rw [if_neg c18] at H
            exact absurd H (by simp)
  · rw [if_neg c2] at H
    have c2b0 : ((l0.length : Int) == 24) = false := beq_eq_false_iff_ne.mpr c2
    have c2b1 : ((l0.length : Int) != 24) = true := bne_iff_ne.mpr c2
    obtain rfl := Option.some.inj H
    go_enter Try.func12, Try.ntmps12
    go_wp2
    go_ret
    exact ⟨by first | rfl | (simp [errW_none, errW_some] <;> rfl) | (simp [*, errW_none, errW_some] <;> rfl), by repeat (first | (with_reducible first | exact HB.out | apply below_alloc | apply pw_below_drewN | apply below_drew1) | exact HB.out)⟩

/-! ### fix_Up: function 50 -/
def fix_Up.f (a0 : Int) (a1 : Int) : Option (Int × Int) := if a1 < 1 then (some (0, 1)) else (if a1 = 0 then (none) else (if (Int.tmod a0 a1) > 0 then (some (wrap64 ((wrap64 (Int.tdiv a0 a1)) + 1), 0)) else (some (wrap64 (Int.tdiv a0 a1), 0))))
set_option maxHeartbeats 8000000 in
set_option maxRecDepth 100000 in
theorem fix_Up.calls (a0 : Int) (a1 : Int) (r1 : Int) (r2 : Int) (w : World) (h : fix_Up.f a0 a1 = some (r1, r2)) :
    Calls Try.prog 50 #[.int .i64 a0, .int .i64 a1] w fun e w' => e = .returned (.tuple #[.int .i64 r1, .int .i64 r2]) ∧ Drawn0 w w' := by
  have H : (if a1 < 1 then (some (0, 1)) else (if a1 = 0 then (none) else (if (Int.tmod a0 a1) > 0 then (some (wrap64 ((wrap64 (Int.tdiv a0 a1)) + 1), 0)) else (some (wrap64 (Int.tdiv a0 a1), 0))))) = some (r1, r2) := h
  clear h
  by_cases c3 : a1 < 1
  · rw [if_pos c3] at H
    have c3b0 : decide (a1 < 1) = true := decide_eq_true c3
    clear c3
    simp only [Option.some.injEq, Prod.mk.injEq] at H
    obtain ⟨rfl, rfl⟩ := H
    go_enter Try.func50, Try.ntmps50
    go_wp2
    go_ret2
    exact ⟨by first | rfl | (simp; done) | (simp [*]; done), by repeat (first | exact Drawn0.refl _ | apply Drawn0.step)⟩
  · rw [if_neg c3] at H
    have c3b0 : decide (a1 < 1) = false := decide_eq_false c3
    clear c3
    by_cases c4 : a1 = 0
    · rw [if_pos c4] at H
      exact absurd H (by simp)
    · rw [if_neg c4] at H
      have c4b0 : (a1 == 0) = false := beq_eq_false_iff_ne.mpr c4
      have c4b1 : (a1 != 0) = true := bne_iff_ne.mpr c4
      by_cases c5 : (Int.tmod a0 a1) > 0
      · rw [if_pos c5] at H
        have c5b0 : decide (0 < (Int.tmod a0 a1)) = true := decide_eq_true c5
        clear c5
        simp only [Option.some.injEq, Prod.mk.injEq] at H
        obtain ⟨rfl, rfl⟩ := H
        go_enter Try.func50, Try.ntmps50
        go_wp2
        go_ret2
        exact ⟨by first | rfl | (simp; done) | (simp [*]; done), by repeat (first | exact Drawn0.refl _ | apply Drawn0.step)⟩
      · rw [if_neg c5] at H
        have c5b0 : decide (0 < (Int.tmod a0 a1)) = false := decide_eq_false c5
        clear c5
        simp only [Option.some.injEq, Prod.mk.injEq] at H
        obtain ⟨rfl, rfl⟩ := H
        go_enter Try.func50, Try.ntmps50
        go_wp2
        go_ret2
        exact ⟨by first | rfl | (simp; done) | (simp [*]; done), by repeat (first | exact Drawn0.refl _ | apply Drawn0.step)⟩

/-! ### params_up: function 39 -/
def params_up.f (a0 : Int) (a1 : Int) : Option (Int) := (fix_Up.f a0 a1).bind fun bt185 => (some bt185.1)
set_option maxHeartbeats 8000000 in
set_option maxRecDepth 100000 in
theorem params_up.calls (a0 : Int) (a1 : Int) (r : Int) (w : World) (h : params_up.f a0 a1 = some r) :
    Calls Try.prog 39 #[.int .i64 a0, .int .i64 a1] w fun e w' => e = .returned (.int .i64 r) ∧ Drawn0 w w' := by
  have H : ((fix_Up.f a0 a1).bind fun bt185 => (some bt185.1)) = some r := h
  clear h
  replace H := Option.bind_eq_some_iff.mp H
  obtain ⟨⟨t185, t186⟩, A30, H⟩ := H
  replace H : (some t185) = some r := H
  have A3 := Aside0.mk A30
  clear A30
  obtain rfl := Option.some.inj H
  go_enter Try.func39, Try.ntmps39
  go_wp2_with (first | ((with_reducible refine gate_callee (f := 50) rfl ?_); refine goesL_ (some 10) rfl rfl Try.func50 (by kernel_rfl) rfl #[.int .i64 a0, .int .i64 a1] rfl (by (try simp only [List.map_toArray, List.map_cons, List.map_nil]); first | done | rfl | (simp only [List.length_drop, List.length_take]; rfl)) ?_; (with_reducible refine (fix_Up.calls a0 a1 t185 t186 _ A3.out).mono ?_); rintro e w' ⟨rfl, ⟨nd, rfl⟩⟩; refine ⟨_, rfl, ?_⟩))
  go_ret
  exact ⟨by first | rfl | (simp; done) | (simp [*]; done), by repeat (first | exact Drawn0.refl _ | apply Drawn0.step)⟩

/-! ### params_way: function 40 -/
def params_way.f (a0 : Int) (a1 : Int) : Option (Int) := if a1 = 0 then (none) else (some (wrap64 ((wrap64 ((wrap64 (Int.tdiv a0 a1)) * a0)) - (wrap64 (a1 * (wrap64 (Int.tdiv (wrap64 ((wrap64 (Int.tdiv a0 a1)) * (wrap64 ((wrap64 (Int.tdiv a0 a1)) + 1)))) 2)))))))
set_option maxHeartbeats 8000000 in
set_option maxRecDepth 100000 in
theorem params_way.calls (a0 : Int) (a1 : Int) (r : Int) (w : World) (h : params_way.f a0 a1 = some r) :
    Calls Try.prog 40 #[.int .i64 a0, .int .i64 a1] w fun e w' => e = .returned (.int .i64 r) ∧ Drawn0 w w' := by
  have H : (if a1 = 0 then (none) else (some (wrap64 ((wrap64 ((wrap64 (Int.tdiv a0 a1)) * a0)) - (wrap64 (a1 * (wrap64 (Int.tdiv (wrap64 ((wrap64 (Int.tdiv a0 a1)) * (wrap64 ((wrap64 (Int.tdiv a0 a1)) + 1)))) 2)))))))) = some r := h
  clear h
  by_cases c3 : a1 = 0
  · rw [if_pos c3] at H
    exact absurd H (by simp)
  · rw [if_neg c3] at H
    have c3b0 : (a1 == 0) = false := beq_eq_false_iff_ne.mpr c3
    have c3b1 : (a1 != 0) = true := bne_iff_ne.mpr c3
    obtain rfl := Option.some.inj H
    go_enter Try.func40, Try.ntmps40
    go_wp2
    go_ret
    exact ⟨by first | rfl | (simp; done) | (simp [*]; done), by repeat (first | exact Drawn0.refl _ | apply Drawn0.step)⟩

end Go.Proofs.Ytaabdnamofmfcaa.PParamsRanges
