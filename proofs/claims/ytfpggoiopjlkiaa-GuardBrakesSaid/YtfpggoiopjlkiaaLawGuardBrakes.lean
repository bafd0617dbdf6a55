-- WRITTEN BY wip/tools/aprint.py of this claim's repository over the kit's words: not typed by hand
import Derived.Test.YtfpggoiopjlkiaaRows
import Derived.Test.YtfpggoiopjlkiaaPGuardBrakesx7
import Derived.Test.YtfpggoiopjlkiaaPureGuardBrakes
import Derived.WalkKit
import Derived.ProofKit
import Derived.OpenShut
import Derived.ShutString
import Derived.ChangeOld
import Derived.Below
import Derived.SizedLaws
import Derived.Test.YtfpggoiopjlkiaaWSized
namespace Go.Proofs.Ytfpggoiopjlkiaa.guardBrakes
open Go.ChangeShapes Go.WideShapes Go.ChangeAt Go.RowKit
open Go.Proofs.YtfpggoiopjlkiaaW.PrintWords Go.Proofs.Ytfpggoiopjlkiaa.PGuardBrakes
open Go.ChangeMaps (open_string shut_string)
set_option linter.unusedVariables false
theorem own : ownKnob Try.prog.godebug = none := by kernel_rfl
theorem laidOut : laidOutB Try.prog = true := by kernel_rfl
theorem list_len2 {α : Type} {cs : List α} (h : cs.length = 2) : ∃ c0 c1, cs = [c0, c1] := by
  match cs, h with
  | [c0, c1], _ => exact ⟨c0, c1, rfl⟩
theorem cells_T26 {H : Type} {enc : TypeId × Value → H} {w : World} {base : Nat} {spare : Nat → Bool} {held : Bool} {fuel : Nat} {cs : List Value} {x : DataW H × List MemPlace} (h : DataW.trod enc Try.prog w base spare held fuel 26 cs = some x) : ∃ (a0 : Int) (a1 : Int), cs = [.int .i64 a0, .int .i64 a1] ∧ ((Lit.int .i64 a0).wf = true) ∧ ((Lit.int .i64 a1).wf = true) ∧ True := by
  obtain ⟨xs, n, _, _, hl, hxl, hf⟩ := DataW.trod_struct Try.underlying26 h
  have hl' : cs.length = 2 := hl.trans (by kernel_rfl)
  clear hl h
  have hxl' : xs.length = 2 := hxl
  obtain ⟨z0, z1, rfl⟩ := list_len2 hl'
  have h0 : DataW.trod enc Try.prog w base spare held n 3 (([z0, z1].drop (0)).take (Try.prog.cellsOf 3)) = xs[0]? := hf 0 _ rfl
  rw [show Try.prog.cellsOf 3 = 1 from by kernel_rfl, List.getElem?_eq_getElem (by omega)] at h0
  obtain ⟨a0, e0, _, g0⟩ := DataW.trod_int Try.underlying3 h0
  have q0 : z0 = .int .i64 a0 := by simpa using e0
  clear e0 h0
  have h1 : DataW.trod enc Try.prog w base spare held n 3 (([z0, z1].drop (1)).take (Try.prog.cellsOf 3)) = xs[1]? := hf 1 _ rfl
  rw [show Try.prog.cellsOf 3 = 1 from by kernel_rfl, List.getElem?_eq_getElem (by omega)] at h1
  obtain ⟨a1, e1, _, g1⟩ := DataW.trod_int Try.underlying3 h1
  have q1 : z1 = .int .i64 a1 := by simpa using e1
  clear e1 h1
  obtain rfl := q0
  obtain rfl := q1
  exact ⟨a0, a1, rfl, g0, g1, trivial⟩
theorem open_S27 {H : Type} {enc : TypeId × Value → H} {w : World} {base : Nat} {spare : Nat → Bool} {held : Bool} {fuel : Nat} {cs : List Value} {x : DataW H × List MemPlace} (h : DataW.trod enc Try.prog w base spare held fuel 27 cs = some x) : ∃ (A : Option Addr) (c : Nat) (l : List Int), cs = [.slice A l.length c] ∧ (l.length ≤ c) ∧ (c ≤ maxLen) ∧ (Kd.C (Kd.int .i64) w A l.length l) ∧ (∀ p_ ∈ l, (Lit.int .i64 p_).wf = true) := by
  refine Go.Proofs.YtfpggoiopjlkiaaW.PrintWords.open_rows (Kd.int .i64) 0 (fun p_ => (Lit.int .i64 p_).wf = true) Try.underlying27 (by kernel_rfl) (fun n_ cs_ y_ h_ => ?_) h
  obtain ⟨b_, e_, _, g_⟩ := DataW.trod_int Try.underlying3 h_
  exact ⟨b_, e_, g_⟩
theorem list_len13 {α : Type} {cs : List α} (h : cs.length = 13) : ∃ c0 c1 c2 c3 c4 c5 c6 c7 c8 c9 c10 c11 c12, cs = [c0, c1, c2, c3, c4, c5, c6, c7, c8, c9, c10, c11, c12] := by
  match cs, h with
  | [c0, c1, c2, c3, c4, c5, c6, c7, c8, c9, c10, c11, c12], _ => exact ⟨c0, c1, c2, c3, c4, c5, c6, c7, c8, c9, c10, c11, c12, rfl⟩
theorem cells_T29 {H : Type} {enc : TypeId × Value → H} {w : World} {base : Nat} {spare : Nat → Bool} {held : Bool} {fuel : Nat} {cs : List Value} {x : DataW H × List MemPlace} (h : DataW.trod enc Try.prog w base spare held fuel 29 cs = some x) : ∃ (a0 : Int) (a1 : Int) (a2 : Int) (a3 : Int) (a4 : Int) (a5 : Int) (a6 : Int) (a7 : Int) (a8 : Int) (A9 : Option Addr) (c9 : Nat) (l9 : List Int) (a10 : Int) (a11 : Int) (a12 : Int), cs = [.int .i64 a0, .int .i64 a1, .int .i64 a2, .int .i64 a3, .int .i64 a4, .int .i64 a5, .int .i64 a6, .int .i64 a7, .int .i64 a8, .slice A9 l9.length c9, .int .i64 a10, .int .i64 a11, .int .i64 a12] ∧ ((Lit.int .i64 a0).wf = true) ∧ ((Lit.int .i64 a1).wf = true) ∧ ((Lit.int .i64 a2).wf = true) ∧ ((Lit.int .i64 a3).wf = true) ∧ ((Lit.int .i64 a4).wf = true) ∧ ((Lit.int .i64 a5).wf = true) ∧ ((Lit.int .i64 a6).wf = true) ∧ ((Lit.int .i64 a7).wf = true) ∧ ((Lit.int .i64 a8).wf = true) ∧ (l9.length ≤ c9) ∧ (c9 ≤ maxLen) ∧ (Kd.C (Kd.int .i64) w A9 l9.length l9) ∧ (∀ p_ ∈ l9, (Lit.int .i64 p_).wf = true) ∧ ((Lit.int .i64 a10).wf = true) ∧ ((Lit.int .i64 a11).wf = true) ∧ ((Lit.int .i64 a12).wf = true) ∧ True := by
  obtain ⟨xs, n, _, _, hl, hxl, hf⟩ := DataW.trod_struct Try.underlying29 h
  have hl' : cs.length = 13 := hl.trans (by kernel_rfl)
  clear hl h
  have hxl' : xs.length = 11 := hxl
  obtain ⟨z0, z1, z2, z3, z4, z5, z6, z7, z8, z9, z10, z11, z12, rfl⟩ := list_len13 hl'
  have h0 : DataW.trod enc Try.prog w base spare held n 26 (([z0, z1, z2, z3, z4, z5, z6, z7, z8, z9, z10, z11, z12].drop (0)).take (Try.prog.cellsOf 26)) = xs[0]? := hf 0 _ rfl
  rw [show Try.prog.cellsOf 26 = 2 from by kernel_rfl, List.getElem?_eq_getElem (by omega)] at h0
  obtain ⟨a0, a1, e0, g0, g1, _⟩ := cells_T26 h0
  have q0 : z0 = .int .i64 a0 ∧ z1 = .int .i64 a1 := by simpa using e0
  clear e0 h0
  have h1 : DataW.trod enc Try.prog w base spare held n 26 (([z0, z1, z2, z3, z4, z5, z6, z7, z8, z9, z10, z11, z12].drop (2)).take (Try.prog.cellsOf 26)) = xs[1]? := hf 1 _ rfl
  rw [show Try.prog.cellsOf 26 = 2 from by kernel_rfl, List.getElem?_eq_getElem (by omega)] at h1
  obtain ⟨a2, a3, e1, g2, g3, _⟩ := cells_T26 h1
  have q1 : z2 = .int .i64 a2 ∧ z3 = .int .i64 a3 := by simpa using e1
  clear e1 h1
  have h2 : DataW.trod enc Try.prog w base spare held n 3 (([z0, z1, z2, z3, z4, z5, z6, z7, z8, z9, z10, z11, z12].drop (4)).take (Try.prog.cellsOf 3)) = xs[2]? := hf 2 _ rfl
  rw [show Try.prog.cellsOf 3 = 1 from by kernel_rfl, List.getElem?_eq_getElem (by omega)] at h2
  obtain ⟨a4, e2, _, g4⟩ := DataW.trod_int Try.underlying3 h2
  have q2 : z4 = .int .i64 a4 := by simpa using e2
  clear e2 h2
  have h3 : DataW.trod enc Try.prog w base spare held n 3 (([z0, z1, z2, z3, z4, z5, z6, z7, z8, z9, z10, z11, z12].drop (5)).take (Try.prog.cellsOf 3)) = xs[3]? := hf 3 _ rfl
  rw [show Try.prog.cellsOf 3 = 1 from by kernel_rfl, List.getElem?_eq_getElem (by omega)] at h3
  obtain ⟨a5, e3, _, g5⟩ := DataW.trod_int Try.underlying3 h3
  have q3 : z5 = .int .i64 a5 := by simpa using e3
  clear e3 h3
  have h4 : DataW.trod enc Try.prog w base spare held n 3 (([z0, z1, z2, z3, z4, z5, z6, z7, z8, z9, z10, z11, z12].drop (6)).take (Try.prog.cellsOf 3)) = xs[4]? := hf 4 _ rfl
  rw [show Try.prog.cellsOf 3 = 1 from by kernel_rfl, List.getElem?_eq_getElem (by omega)] at h4
  obtain ⟨a6, e4, _, g6⟩ := DataW.trod_int Try.underlying3 h4
  have q4 : z6 = .int .i64 a6 := by simpa using e4
  clear e4 h4
  have h5 : DataW.trod enc Try.prog w base spare held n 3 (([z0, z1, z2, z3, z4, z5, z6, z7, z8, z9, z10, z11, z12].drop (7)).take (Try.prog.cellsOf 3)) = xs[5]? := hf 5 _ rfl
  rw [show Try.prog.cellsOf 3 = 1 from by kernel_rfl, List.getElem?_eq_getElem (by omega)] at h5
  obtain ⟨a7, e5, _, g7⟩ := DataW.trod_int Try.underlying3 h5
  have q5 : z7 = .int .i64 a7 := by simpa using e5
  clear e5 h5
  have h6 : DataW.trod enc Try.prog w base spare held n 3 (([z0, z1, z2, z3, z4, z5, z6, z7, z8, z9, z10, z11, z12].drop (8)).take (Try.prog.cellsOf 3)) = xs[6]? := hf 6 _ rfl
  rw [show Try.prog.cellsOf 3 = 1 from by kernel_rfl, List.getElem?_eq_getElem (by omega)] at h6
  obtain ⟨a8, e6, _, g8⟩ := DataW.trod_int Try.underlying3 h6
  have q6 : z8 = .int .i64 a8 := by simpa using e6
  clear e6 h6
  have h7 : DataW.trod enc Try.prog w base spare held n 27 (([z0, z1, z2, z3, z4, z5, z6, z7, z8, z9, z10, z11, z12].drop (9)).take (Try.prog.cellsOf 27)) = xs[7]? := hf 7 _ rfl
  rw [show Try.prog.cellsOf 27 = 1 from by kernel_rfl, List.getElem?_eq_getElem (by omega)] at h7
  obtain ⟨A9, c9, l9, e7, hl9, hm9, hr9, hw9⟩ := open_S27 h7
  have q7 : z9 = .slice A9 l9.length c9 := by simpa using e7
  clear e7 h7
  have h8 : DataW.trod enc Try.prog w base spare held n 3 (([z0, z1, z2, z3, z4, z5, z6, z7, z8, z9, z10, z11, z12].drop (10)).take (Try.prog.cellsOf 3)) = xs[8]? := hf 8 _ rfl
  rw [show Try.prog.cellsOf 3 = 1 from by kernel_rfl, List.getElem?_eq_getElem (by omega)] at h8
  obtain ⟨a10, e8, _, g10⟩ := DataW.trod_int Try.underlying3 h8
  have q8 : z10 = .int .i64 a10 := by simpa using e8
  clear e8 h8
  have h9 : DataW.trod enc Try.prog w base spare held n 3 (([z0, z1, z2, z3, z4, z5, z6, z7, z8, z9, z10, z11, z12].drop (11)).take (Try.prog.cellsOf 3)) = xs[9]? := hf 9 _ rfl
  rw [show Try.prog.cellsOf 3 = 1 from by kernel_rfl, List.getElem?_eq_getElem (by omega)] at h9
  obtain ⟨a11, e9, _, g11⟩ := DataW.trod_int Try.underlying3 h9
  have q9 : z11 = .int .i64 a11 := by simpa using e9
  clear e9 h9
  have h10 : DataW.trod enc Try.prog w base spare held n 3 (([z0, z1, z2, z3, z4, z5, z6, z7, z8, z9, z10, z11, z12].drop (12)).take (Try.prog.cellsOf 3)) = xs[10]? := hf 10 _ rfl
  rw [show Try.prog.cellsOf 3 = 1 from by kernel_rfl, List.getElem?_eq_getElem (by omega)] at h10
  obtain ⟨a12, e10, _, g12⟩ := DataW.trod_int Try.underlying3 h10
  have q10 : z12 = .int .i64 a12 := by simpa using e10
  clear e10 h10
  obtain ⟨rfl, rfl⟩ := q0
  obtain ⟨rfl, rfl⟩ := q1
  obtain rfl := q2
  obtain rfl := q3
  obtain rfl := q4
  obtain rfl := q5
  obtain rfl := q6
  obtain rfl := q7
  obtain rfl := q8
  obtain rfl := q9
  obtain rfl := q10
  exact ⟨a0, a1, a2, a3, a4, a5, a6, a7, a8, A9, c9, l9, a10, a11, a12, rfl, g0, g1, g2, g3, g4, g5, g6, g7, g8, hl9, hm9, hr9, hw9, g10, g11, g12, trivial⟩
theorem open_A29 {H : Type} {enc : TypeId × Value → H} {w : World} {r : Reach} {b0 : Nat} {base : Nat} {spare : Nat → Bool} {held : Bool} {v : Value} {d : DataW H} {p : List MemPlace} (hv : Value.okWide Try.prog w r b0 29 v) (h : DataW.Trod enc Try.prog w base spare held 29 v d p) : ∃ (a0 : Int) (a1 : Int) (a2 : Int) (a3 : Int) (a4 : Int) (a5 : Int) (a6 : Int) (a7 : Int) (a8 : Int) (A9 : Option Addr) (c9 : Nat) (l9 : List Int) (a10 : Int) (a11 : Int) (a12 : Int), v = .agg #[.int .i64 a0, .int .i64 a1, .int .i64 a2, .int .i64 a3, .int .i64 a4, .int .i64 a5, .int .i64 a6, .int .i64 a7, .int .i64 a8, .slice A9 l9.length c9, .int .i64 a10, .int .i64 a11, .int .i64 a12] ∧ ((Lit.int .i64 a0).wf = true) ∧ ((Lit.int .i64 a1).wf = true) ∧ ((Lit.int .i64 a2).wf = true) ∧ ((Lit.int .i64 a3).wf = true) ∧ ((Lit.int .i64 a4).wf = true) ∧ ((Lit.int .i64 a5).wf = true) ∧ ((Lit.int .i64 a6).wf = true) ∧ ((Lit.int .i64 a7).wf = true) ∧ ((Lit.int .i64 a8).wf = true) ∧ (l9.length ≤ c9) ∧ (c9 ≤ maxLen) ∧ (Kd.C (Kd.int .i64) w A9 l9.length l9) ∧ (∀ p_ ∈ l9, (Lit.int .i64 p_).wf = true) ∧ ((Lit.int .i64 a10).wf = true) ∧ ((Lit.int .i64 a11).wf = true) ∧ ((Lit.int .i64 a12).wf = true) ∧ True := by
  obtain ⟨cs, rfl, _⟩ : ∃ cs, v = .agg cs ∧ cs.size = Try.prog.cellsOf 29 := by
    simp only [Value.okWide, Try.underlying29] at hv
    obtain ⟨cs, h1, h2, _⟩ := hv
    exact ⟨cs, h1, h2⟩
  obtain ⟨fuel, hf⟩ := h
  obtain ⟨a0, a1, a2, a3, a4, a5, a6, a7, a8, A9, c9, l9, a10, a11, a12, e, hh⟩ := cells_T29 hf
  obtain ⟨l_⟩ := cs
  have e' : l_ = [.int .i64 a0, .int .i64 a1, .int .i64 a2, .int .i64 a3, .int .i64 a4, .int .i64 a5, .int .i64 a6, .int .i64 a7, .int .i64 a8, .slice A9 l9.length c9, .int .i64 a10, .int .i64 a11, .int .i64 a12] := by simpa [Value.cells] using e
  subst e'
  exact ⟨a0, a1, a2, a3, a4, a5, a6, a7, a8, A9, c9, l9, a10, a11, a12, rfl, hh⟩
set_option maxRecDepth 100000 in
theorem lifted (os : Os) (started : os.Started) (H : Type) (enc : TypeId × Value → H) :
    ReturnsInHanded {} Try.checked os 5 .any (Rows.guardBrakesSpec.pre6 enc Try.prog Try.f5 Rows.guardBrakesRow.domain false) (Rows.guardBrakesSpec.post enc Try.prog Try.f5 false true false false) := by
  refine returnsInHanded_of_change_sized (C := Try.checked) own started (by kernel_rfl) Try.func5
    (ChangeSpec.witness6 (enc := enc) (C := Try.checked) false ⟨#[], #[.agg #[.int .i64 0, .int .i64 0, .int .i64 0, .int .i64 0, .int .i64 0, .int .i64 0, .int .i64 0, .int .i64 0, .int .i64 0, .slice none 0 0, .int .i64 0, .int .i64 0, .int .i64 0]], []⟩ 8 (by kernel_rfl) (by kernel_rfl) (by kernel_rfl) (by kernel_rfl)) ?_
  intro W base args ds gs before hval0 hW hcnd hsz0 _
  have hsz : (DataW.weightsEach Try.prog (Try.f5.params.toList ++ Rows.guardBrakesSpec.plain.varTypes Try.prog) (ds ++ gs)).all (· ≤ reachBytes) = true := hsz0
  have hval : ∀ (j : Nat) t v, Try.f5.params[j]? = some t → args[j]? = some v → Value.okWide Try.prog W .any base t v := hval0
  have hW' := hW
  obtain ⟨p, q, hA0, hV, rfl, hfz, hnd⟩ := hW
  have hA : DataW.TrodAll enc Try.prog W 0 (fun _ => true) true Try.f5.params.toList args.toList ds p := hA0
  rw [Try.params5] at hA hval hsz
  obtain ⟨v0, vs0, d0, ds0, p0, q0, hargs, rfl, rfl, h0, r0⟩ := trodAll_cons hA
  obtain ⟨rfl, rfl, rfl⟩ := trodAll_nil r0
  obtain rfl : args = #[v0] := by cases args; simp_all
  obtain ⟨rfl, rfl⟩ := trodVars_none hV
  have k0 := h0
  have lt0 : ∀ x ∈ p0, x.block < W.heap.size := by obtain ⟨m, hm⟩ := k0; exact DataW.trod_lt m _ _ _ hm
  obtain ⟨a0_0, a0_1, a0_2, a0_3, a0_4, a0_5, a0_6, a0_7, a0_8, A0_9, c0_9, l0_9, a0_10, a0_11, a0_12, rfl, g0_0, g0_1, g0_2, g0_3, g0_4, g0_5, g0_6, g0_7, g0_8, hl0_9, hm0_9, hr0_9, hw0_9, g0_10, g0_11, g0_12, _⟩ := open_A29 (hval 0 29 v0 rfl rfl) k0
  clear hA0 hval0 hsz0 hsz
  refine (PGuardBrakes.windhoverlaw18_GuardBrakes.walk Pure.GuardBrakes a0_0 a0_1 a0_2 a0_3 a0_4 a0_5 a0_6 a0_7 a0_8 A0_9 c0_9 l0_9 a0_10 a0_11 a0_12 W g0_0 g0_1 g0_2 g0_3 g0_4 g0_5 g0_6 g0_7 g0_8 (Nat.le_trans hl0_9 hm0_9) hw0_9 g0_10 g0_11 g0_12 hr0_9 hl0_9).mono fun e W' ⟨he, bel⟩ => ?_
  subst he
  exact ⟨_, rfl, _, _, _, [], _, [], hW', trodAll_mk1 (shut_bool Try.underlying4 _), (trodAll_cons_mk (Below.trod laidOut (by kernel_rfl) (of_decide_eq_true (by kernel_rfl)) k0 bel lt0) trodAll_mk0), rfl, bel.frame _, fun h => by cases h⟩
theorem over : Rows.guardBrakesRow.holds Try.pinned (OpenSpec.ofChange Rows.guardBrakesSpec) :=
  OpenClaim.holds_of_wide 5 Try.f5 rfl rfl rfl rfl rfl rfl rfl ⟨rfl, rfl, rfl, rfl, rfl⟩ rfl rfl rfl rfl rfl (by kernel_rfl) Try.func5 (by kernel_rfl)
    (of_decide_eq_true (by kernel_rfl)) (by unfold Func.isWrapper; first | (rw [if_pos (by decide +kernel)]; kernel_rfl) | (rw [if_neg (by decide +kernel)]; exact ⟨rfl, rfl⟩))
    (fun os started H enc _ => lifted os started H enc)
theorem proved : Rows.GuardBrakesSaid := over
#print axioms proved
end Go.Proofs.Ytfpggoiopjlkiaa.guardBrakes
namespace Go.Proofs.Ytfpggoiopjlkiaa
/-- The row, under a short name, for the claim. -/
theorem guardBrakes_holds : Rows.GuardBrakesSaid := guardBrakes.proved
end Go.Proofs.Ytfpggoiopjlkiaa
