-- WRITTEN BY wip/tools/aprint.py of this claim's repository over the kit's words: not typed by hand
import Derived.Test.YtpfnonfehkiemaaRows
import Derived.Test.YtpfnonfehkiemaaPEstHoldsx7
import Derived.Test.YtpfnonfehkiemaaPureEstHolds
import Derived.WalkKit
import Derived.ProofKit
import Derived.OpenShut
import Derived.ShutString
import Derived.ChangeOld
import Derived.Below
import Derived.SizedLaws
import Derived.Test.YtpfnonfehkiemaaWSized
namespace Go.Proofs.Ytpfnonfehkiemaa.estHolds
open Go.ChangeShapes Go.WideShapes Go.ChangeAt Go.RowKit
open Go.Proofs.YtpfnonfehkiemaaW.PrintWords Go.Proofs.Ytpfnonfehkiemaa.PEstHolds
open Go.ChangeMaps (open_string shut_string)
set_option linter.unusedVariables false
theorem own : ownKnob Try.prog.godebug = none := by kernel_rfl
theorem laidOut : laidOutB Try.prog = true := by kernel_rfl
theorem list_len7 {α : Type} {cs : List α} (h : cs.length = 7) : ∃ c0 c1 c2 c3 c4 c5 c6, cs = [c0, c1, c2, c3, c4, c5, c6] := by
  match cs, h with
  | [c0, c1, c2, c3, c4, c5, c6], _ => exact ⟨c0, c1, c2, c3, c4, c5, c6, rfl⟩
theorem cells_T35 {H : Type} {enc : TypeId × Value → H} {w : World} {base : Nat} {spare : Nat → Bool} {held : Bool} {fuel : Nat} {cs : List Value} {x : DataW H × List MemPlace} (h : DataW.trod enc Try.prog w base spare held fuel 35 cs = some x) : ∃ (a0 : Int) (a1 : Int) (a2 : Bool) (a3 : Int) (a4 : Int) (a5 : Bool) (a6 : Bool), cs = [.int .i64 a0, .int .i64 a1, .bool a2, .int .i64 a3, .int .i64 a4, .bool a5, .bool a6] ∧ ((Lit.int .i64 a0).wf = true) ∧ ((Lit.int .i64 a1).wf = true) ∧ ((Lit.int .i64 a3).wf = true) ∧ ((Lit.int .i64 a4).wf = true) ∧ True := by
  obtain ⟨xs, n, _, _, hl, hxl, hf⟩ := DataW.trod_struct Try.underlying35 h
  have hl' : cs.length = 7 := hl.trans (by kernel_rfl)
  clear hl h
  have hxl' : xs.length = 7 := hxl
  obtain ⟨z0, z1, z2, z3, z4, z5, z6, rfl⟩ := list_len7 hl'
  have h0 : DataW.trod enc Try.prog w base spare held n 3 (([z0, z1, z2, z3, z4, z5, z6].drop (0)).take (Try.prog.cellsOf 3)) = xs[0]? := hf 0 _ rfl
  rw [show Try.prog.cellsOf 3 = 1 from by kernel_rfl, List.getElem?_eq_getElem (by omega)] at h0
  obtain ⟨a0, e0, _, g0⟩ := DataW.trod_int Try.underlying3 h0
  have q0 : z0 = .int .i64 a0 := by simpa using e0
  clear e0 h0
  have h1 : DataW.trod enc Try.prog w base spare held n 3 (([z0, z1, z2, z3, z4, z5, z6].drop (1)).take (Try.prog.cellsOf 3)) = xs[1]? := hf 1 _ rfl
  rw [show Try.prog.cellsOf 3 = 1 from by kernel_rfl, List.getElem?_eq_getElem (by omega)] at h1
  obtain ⟨a1, e1, _, g1⟩ := DataW.trod_int Try.underlying3 h1
  have q1 : z1 = .int .i64 a1 := by simpa using e1
  clear e1 h1
  have h2 : DataW.trod enc Try.prog w base spare held n 4 (([z0, z1, z2, z3, z4, z5, z6].drop (2)).take (Try.prog.cellsOf 4)) = xs[2]? := hf 2 _ rfl
  rw [show Try.prog.cellsOf 4 = 1 from by kernel_rfl, List.getElem?_eq_getElem (by omega)] at h2
  obtain ⟨a2, e2, _⟩ := DataW.trod_bool Try.underlying4 h2
  have q2 : z2 = .bool a2 := by simpa using e2
  clear e2 h2
  have h3 : DataW.trod enc Try.prog w base spare held n 3 (([z0, z1, z2, z3, z4, z5, z6].drop (3)).take (Try.prog.cellsOf 3)) = xs[3]? := hf 3 _ rfl
  rw [show Try.prog.cellsOf 3 = 1 from by kernel_rfl, List.getElem?_eq_getElem (by omega)] at h3
  obtain ⟨a3, e3, _, g3⟩ := DataW.trod_int Try.underlying3 h3
  have q3 : z3 = .int .i64 a3 := by simpa using e3
  clear e3 h3
  have h4 : DataW.trod enc Try.prog w base spare held n 3 (([z0, z1, z2, z3, z4, z5, z6].drop (4)).take (Try.prog.cellsOf 3)) = xs[4]? := hf 4 _ rfl
  rw [show Try.prog.cellsOf 3 = 1 from by kernel_rfl, List.getElem?_eq_getElem (by omega)] at h4
  obtain ⟨a4, e4, _, g4⟩ := DataW.trod_int Try.underlying3 h4
  have q4 : z4 = .int .i64 a4 := by simpa using e4
  clear e4 h4
  have h5 : DataW.trod enc Try.prog w base spare held n 4 (([z0, z1, z2, z3, z4, z5, z6].drop (5)).take (Try.prog.cellsOf 4)) = xs[5]? := hf 5 _ rfl
  rw [show Try.prog.cellsOf 4 = 1 from by kernel_rfl, List.getElem?_eq_getElem (by omega)] at h5
  obtain ⟨a5, e5, _⟩ := DataW.trod_bool Try.underlying4 h5
  have q5 : z5 = .bool a5 := by simpa using e5
  clear e5 h5
  have h6 : DataW.trod enc Try.prog w base spare held n 4 (([z0, z1, z2, z3, z4, z5, z6].drop (6)).take (Try.prog.cellsOf 4)) = xs[6]? := hf 6 _ rfl
  rw [show Try.prog.cellsOf 4 = 1 from by kernel_rfl, List.getElem?_eq_getElem (by omega)] at h6
  obtain ⟨a6, e6, _⟩ := DataW.trod_bool Try.underlying4 h6
  have q6 : z6 = .bool a6 := by simpa using e6
  clear e6 h6
  obtain rfl := q0
  obtain rfl := q1
  obtain rfl := q2
  obtain rfl := q3
  obtain rfl := q4
  obtain rfl := q5
  obtain rfl := q6
  exact ⟨a0, a1, a2, a3, a4, a5, a6, rfl, g0, g1, g3, g4, trivial⟩
theorem open_S22 {H : Type} {enc : TypeId × Value → H} {w : World} {base : Nat} {spare : Nat → Bool} {held : Bool} {fuel : Nat} {cs : List Value} {x : DataW H × List MemPlace} (h : DataW.trod enc Try.prog w base spare held fuel 22 cs = some x) : ∃ (A : Option Addr) (c : Nat) (l : List (S35)), cs = [.slice A l.length c] ∧ (l.length ≤ c) ∧ (c ≤ maxLen) ∧ (Kd.C k35 w A l.length l) ∧ (∀ p_ ∈ l, (Lit.int .i64 p_.f0).wf = true ∧ (Lit.int .i64 p_.f1).wf = true ∧ (Lit.int .i64 p_.f3).wf = true ∧ (Lit.int .i64 p_.f4).wf = true) := by
  refine Go.Proofs.YtpfnonfehkiemaaW.PrintWords.open_rows k35 z35 (fun p_ => (Lit.int .i64 p_.f0).wf = true ∧ (Lit.int .i64 p_.f1).wf = true ∧ (Lit.int .i64 p_.f3).wf = true ∧ (Lit.int .i64 p_.f4).wf = true) Try.underlying22 (by kernel_rfl) (fun n_ cs_ y_ h_ => ?_) h
  obtain ⟨a0, a1, a2, a3, a4, a5, a6, e_, g0, g1, g3, g4, _⟩ := cells_T35 h_
  subst e_
  exact ⟨(⟨a0, a1, a2, a3, a4, a5, a6⟩ : S35), k35_mk w (⟨a0, a1, a2, a3, a4, a5, a6⟩ : S35), ⟨g0, g1, g3, g4⟩⟩
theorem list_len6 {α : Type} {cs : List α} (h : cs.length = 6) : ∃ c0 c1 c2 c3 c4 c5, cs = [c0, c1, c2, c3, c4, c5] := by
  match cs, h with
  | [c0, c1, c2, c3, c4, c5], _ => exact ⟨c0, c1, c2, c3, c4, c5, rfl⟩
theorem cells_T24 {H : Type} {enc : TypeId × Value → H} {w : World} {base : Nat} {spare : Nat → Bool} {held : Bool} {fuel : Nat} {cs : List Value} {x : DataW H × List MemPlace} (h : DataW.trod enc Try.prog w base spare held fuel 24 cs = some x) : ∃ (a0 : Int) (a1 : Int) (a2 : Int) (a3 : Int) (a4 : Int) (A5 : Option Addr) (c5 : Nat) (l5 : List (S35)), cs = [.int .i64 a0, .int .i64 a1, .int .i64 a2, .int .i64 a3, .int .i64 a4, .slice A5 l5.length c5] ∧ ((Lit.int .i64 a0).wf = true) ∧ ((Lit.int .i64 a1).wf = true) ∧ ((Lit.int .i64 a2).wf = true) ∧ ((Lit.int .i64 a3).wf = true) ∧ ((Lit.int .i64 a4).wf = true) ∧ (l5.length ≤ c5) ∧ (c5 ≤ maxLen) ∧ (Kd.C k35 w A5 l5.length l5) ∧ (∀ p_ ∈ l5, (Lit.int .i64 p_.f0).wf = true ∧ (Lit.int .i64 p_.f1).wf = true ∧ (Lit.int .i64 p_.f3).wf = true ∧ (Lit.int .i64 p_.f4).wf = true) ∧ True := by
  obtain ⟨xs, n, _, _, hl, hxl, hf⟩ := DataW.trod_struct Try.underlying24 h
  have hl' : cs.length = 6 := hl.trans (by kernel_rfl)
  clear hl h
  have hxl' : xs.length = 6 := hxl
  obtain ⟨z0, z1, z2, z3, z4, z5, rfl⟩ := list_len6 hl'
  have h0 : DataW.trod enc Try.prog w base spare held n 3 (([z0, z1, z2, z3, z4, z5].drop (0)).take (Try.prog.cellsOf 3)) = xs[0]? := hf 0 _ rfl
  rw [show Try.prog.cellsOf 3 = 1 from by kernel_rfl, List.getElem?_eq_getElem (by omega)] at h0
  obtain ⟨a0, e0, _, g0⟩ := DataW.trod_int Try.underlying3 h0
  have q0 : z0 = .int .i64 a0 := by simpa using e0
  clear e0 h0
  have h1 : DataW.trod enc Try.prog w base spare held n 3 (([z0, z1, z2, z3, z4, z5].drop (1)).take (Try.prog.cellsOf 3)) = xs[1]? := hf 1 _ rfl
  rw [show Try.prog.cellsOf 3 = 1 from by kernel_rfl, List.getElem?_eq_getElem (by omega)] at h1
  obtain ⟨a1, e1, _, g1⟩ := DataW.trod_int Try.underlying3 h1
  have q1 : z1 = .int .i64 a1 := by simpa using e1
  clear e1 h1
  have h2 : DataW.trod enc Try.prog w base spare held n 3 (([z0, z1, z2, z3, z4, z5].drop (2)).take (Try.prog.cellsOf 3)) = xs[2]? := hf 2 _ rfl
  rw [show Try.prog.cellsOf 3 = 1 from by kernel_rfl, List.getElem?_eq_getElem (by omega)] at h2
  obtain ⟨a2, e2, _, g2⟩ := DataW.trod_int Try.underlying3 h2
  have q2 : z2 = .int .i64 a2 := by simpa using e2
  clear e2 h2
  have h3 : DataW.trod enc Try.prog w base spare held n 3 (([z0, z1, z2, z3, z4, z5].drop (3)).take (Try.prog.cellsOf 3)) = xs[3]? := hf 3 _ rfl
  rw [show Try.prog.cellsOf 3 = 1 from by kernel_rfl, List.getElem?_eq_getElem (by omega)] at h3
  obtain ⟨a3, e3, _, g3⟩ := DataW.trod_int Try.underlying3 h3
  have q3 : z3 = .int .i64 a3 := by simpa using e3
  clear e3 h3
  have h4 : DataW.trod enc Try.prog w base spare held n 3 (([z0, z1, z2, z3, z4, z5].drop (4)).take (Try.prog.cellsOf 3)) = xs[4]? := hf 4 _ rfl
  rw [show Try.prog.cellsOf 3 = 1 from by kernel_rfl, List.getElem?_eq_getElem (by omega)] at h4
  obtain ⟨a4, e4, _, g4⟩ := DataW.trod_int Try.underlying3 h4
  have q4 : z4 = .int .i64 a4 := by simpa using e4
  clear e4 h4
  have h5 : DataW.trod enc Try.prog w base spare held n 22 (([z0, z1, z2, z3, z4, z5].drop (5)).take (Try.prog.cellsOf 22)) = xs[5]? := hf 5 _ rfl
  rw [show Try.prog.cellsOf 22 = 1 from by kernel_rfl, List.getElem?_eq_getElem (by omega)] at h5
  obtain ⟨A5, c5, l5, e5, hl5, hm5, hr5, hw5⟩ := open_S22 h5
  have q5 : z5 = .slice A5 l5.length c5 := by simpa using e5
  clear e5 h5
  obtain rfl := q0
  obtain rfl := q1
  obtain rfl := q2
  obtain rfl := q3
  obtain rfl := q4
  obtain rfl := q5
  exact ⟨a0, a1, a2, a3, a4, A5, c5, l5, rfl, g0, g1, g2, g3, g4, hl5, hm5, hr5, hw5, trivial⟩
theorem open_A24 {H : Type} {enc : TypeId × Value → H} {w : World} {r : Reach} {b0 : Nat} {base : Nat} {spare : Nat → Bool} {held : Bool} {v : Value} {d : DataW H} {p : List MemPlace} (hv : Value.okWide Try.prog w r b0 24 v) (h : DataW.Trod enc Try.prog w base spare held 24 v d p) : ∃ (a0 : Int) (a1 : Int) (a2 : Int) (a3 : Int) (a4 : Int) (A5 : Option Addr) (c5 : Nat) (l5 : List (S35)), v = .agg #[.int .i64 a0, .int .i64 a1, .int .i64 a2, .int .i64 a3, .int .i64 a4, .slice A5 l5.length c5] ∧ ((Lit.int .i64 a0).wf = true) ∧ ((Lit.int .i64 a1).wf = true) ∧ ((Lit.int .i64 a2).wf = true) ∧ ((Lit.int .i64 a3).wf = true) ∧ ((Lit.int .i64 a4).wf = true) ∧ (l5.length ≤ c5) ∧ (c5 ≤ maxLen) ∧ (Kd.C k35 w A5 l5.length l5) ∧ (∀ p_ ∈ l5, (Lit.int .i64 p_.f0).wf = true ∧ (Lit.int .i64 p_.f1).wf = true ∧ (Lit.int .i64 p_.f3).wf = true ∧ (Lit.int .i64 p_.f4).wf = true) ∧ True := by
  obtain ⟨cs, rfl, _⟩ : ∃ cs, v = .agg cs ∧ cs.size = Try.prog.cellsOf 24 := by
    simp only [Value.okWide, Try.underlying24] at hv
    obtain ⟨cs, h1, h2, _⟩ := hv
    exact ⟨cs, h1, h2⟩
  obtain ⟨fuel, hf⟩ := h
  obtain ⟨a0, a1, a2, a3, a4, A5, c5, l5, e, hh⟩ := cells_T24 hf
  obtain ⟨l_⟩ := cs
  have e' : l_ = [.int .i64 a0, .int .i64 a1, .int .i64 a2, .int .i64 a3, .int .i64 a4, .slice A5 l5.length c5] := by simpa [Value.cells] using e
  subst e'
  exact ⟨a0, a1, a2, a3, a4, A5, c5, l5, rfl, hh⟩
set_option maxRecDepth 100000 in
theorem lifted (os : Os) (started : os.Started) (H : Type) (enc : TypeId × Value → H) :
    ReturnsInHanded {} Try.checked os 3 .any (Rows.estHoldsSpec.pre6 enc Try.prog Try.f3 Rows.estHoldsRow.domain false) (Rows.estHoldsSpec.post enc Try.prog Try.f3 false true false false) := by
  refine returnsInHanded_of_change_sized (C := Try.checked) own started (by kernel_rfl) Try.func3
    (ChangeSpec.witness6 (enc := enc) (C := Try.checked) false ⟨#[], #[.agg #[.int .i64 0, .int .i64 0, .int .i64 0, .int .i64 0, .int .i64 0, .slice none 0 0]], []⟩ 8 (by kernel_rfl) (by kernel_rfl) (by kernel_rfl) (by kernel_rfl)) ?_
  intro W base args ds gs before hval0 hW hcnd hsz0 _
  have hsz : (DataW.weightsEach Try.prog (Try.f3.params.toList ++ Rows.estHoldsSpec.plain.varTypes Try.prog) (ds ++ gs)).all (· ≤ reachBytes) = true := hsz0
  have hval : ∀ (j : Nat) t v, Try.f3.params[j]? = some t → args[j]? = some v → Value.okWide Try.prog W .any base t v := hval0
  have hW' := hW
  obtain ⟨p, q, hA0, hV, rfl, hfz, hnd⟩ := hW
  have hA : DataW.TrodAll enc Try.prog W 0 (fun _ => true) true Try.f3.params.toList args.toList ds p := hA0
  rw [Try.params3] at hA hval hsz
  obtain ⟨v0, vs0, d0, ds0, p0, q0, hargs, rfl, rfl, h0, r0⟩ := trodAll_cons hA
  obtain ⟨rfl, rfl, rfl⟩ := trodAll_nil r0
  obtain rfl : args = #[v0] := by cases args; simp_all
  obtain ⟨rfl, rfl⟩ := trodVars_none hV
  have k0 := h0
  have lt0 : ∀ x ∈ p0, x.block < W.heap.size := by obtain ⟨m, hm⟩ := k0; exact DataW.trod_lt m _ _ _ hm
  obtain ⟨a0_0, a0_1, a0_2, a0_3, a0_4, A0_5, c0_5, l0_5, rfl, g0_0, g0_1, g0_2, g0_3, g0_4, hl0_5, hm0_5, hr0_5, hw0_5, _⟩ := open_A24 (hval 0 24 v0 rfl rfl) k0
  clear hA0 hval0 hsz0 hsz
  refine (PEstHolds.windhoverlaw13_EstHolds.walk Pure.EstHolds a0_0 a0_1 a0_2 a0_3 a0_4 A0_5 c0_5 l0_5 W g0_0 g0_1 g0_2 g0_3 g0_4 (Nat.le_trans hl0_5 hm0_5) hw0_5 hr0_5 hl0_5).mono fun e W' ⟨he, bel⟩ => ?_
  subst he
  exact ⟨_, rfl, _, _, _, [], _, [], hW', trodAll_mk1 (shut_bool Try.underlying4 _), (trodAll_cons_mk (Below.trod laidOut (by kernel_rfl) (of_decide_eq_true (by kernel_rfl)) k0 bel lt0) trodAll_mk0), rfl, bel.frame _, fun h => by cases h⟩
theorem over : Rows.estHoldsRow.holds Try.pinned (OpenSpec.ofChange Rows.estHoldsSpec) :=
  OpenClaim.holds_of_wide 3 Try.f3 rfl rfl rfl rfl rfl rfl rfl ⟨rfl, rfl, rfl, rfl, rfl⟩ rfl rfl rfl rfl rfl (by kernel_rfl) Try.func3 (by kernel_rfl)
    (of_decide_eq_true (by kernel_rfl)) (by unfold Func.isWrapper; first | (rw [if_pos (by decide +kernel)]; kernel_rfl) | (rw [if_neg (by decide +kernel)]; exact ⟨rfl, rfl⟩))
    (fun os started H enc _ => lifted os started H enc)
theorem proved : Rows.EstHoldsSaid := over
#print axioms proved
end Go.Proofs.Ytpfnonfehkiemaa.estHolds
namespace Go.Proofs.Ytpfnonfehkiemaa
/-- The row, under a short name, for the claim. -/
theorem estHolds_holds : Rows.EstHoldsSaid := estHolds.proved
end Go.Proofs.Ytpfnonfehkiemaa
