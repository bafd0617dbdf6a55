-- WRITTEN BY wip/tools/aprint.py of this claim's repository over the kit's words: not typed by hand
import Derived.Test.YtfpggoiopjlkiaaRows
import Derived.Test.YtfpggoiopjlkiaaPGuardCalmsx7
import Derived.Test.YtfpggoiopjlkiaaPureGuardCalms
import Derived.WalkKit
import Derived.ProofKit
import Derived.OpenShut
import Derived.ShutString
import Derived.ChangeOld
import Derived.Below
import Derived.SizedLaws
import Derived.Test.YtfpggoiopjlkiaaWSized
namespace Go.Proofs.Ytfpggoiopjlkiaa.guardCalms
open Go.ChangeShapes Go.WideShapes Go.ChangeAt Go.RowKit
open Go.Proofs.YtfpggoiopjlkiaaW.PrintWords Go.Proofs.Ytfpggoiopjlkiaa.PGuardCalms
open Go.ChangeMaps (open_string shut_string)
set_option linter.unusedVariables false
theorem own : ownKnob Try.prog.godebug = none := by kernel_rfl
theorem laidOut : laidOutB Try.prog = true := by kernel_rfl
theorem open_S27 {H : Type} {enc : TypeId × Value → H} {w : World} {base : Nat} {spare : Nat → Bool} {held : Bool} {fuel : Nat} {cs : List Value} {x : DataW H × List MemPlace} (h : DataW.trod enc Try.prog w base spare held fuel 27 cs = some x) : ∃ (A : Option Addr) (c : Nat) (l : List Int), cs = [.slice A l.length c] ∧ (l.length ≤ c) ∧ (c ≤ maxLen) ∧ (Kd.C (Kd.int .i64) w A l.length l) ∧ (∀ p_ ∈ l, (Lit.int .i64 p_).wf = true) := by
  refine Go.Proofs.YtfpggoiopjlkiaaW.PrintWords.open_rows (Kd.int .i64) 0 (fun p_ => (Lit.int .i64 p_).wf = true) Try.underlying27 (by kernel_rfl) (fun n_ cs_ y_ h_ => ?_) h
  obtain ⟨b_, e_, _, g_⟩ := DataW.trod_int Try.underlying3 h_
  exact ⟨b_, e_, g_⟩
theorem list_len4 {α : Type} {cs : List α} (h : cs.length = 4) : ∃ c0 c1 c2 c3, cs = [c0, c1, c2, c3] := by
  match cs, h with
  | [c0, c1, c2, c3], _ => exact ⟨c0, c1, c2, c3, rfl⟩
theorem cells_T41 {H : Type} {enc : TypeId × Value → H} {w : World} {base : Nat} {spare : Nat → Bool} {held : Bool} {fuel : Nat} {cs : List Value} {x : DataW H × List MemPlace} (h : DataW.trod enc Try.prog w base spare held fuel 41 cs = some x) : ∃ (a0 : Int) (a1 : Int) (a2 : Int) (A3 : Option Addr) (c3 : Nat) (l3 : List Int), cs = [.int .i64 a0, .int .i64 a1, .int .i64 a2, .slice A3 l3.length c3] ∧ ((Lit.int .i64 a0).wf = true) ∧ ((Lit.int .i64 a1).wf = true) ∧ ((Lit.int .i64 a2).wf = true) ∧ (l3.length ≤ c3) ∧ (c3 ≤ maxLen) ∧ (Kd.C (Kd.int .i64) w A3 l3.length l3) ∧ (∀ p_ ∈ l3, (Lit.int .i64 p_).wf = true) ∧ True := by
  obtain ⟨xs, n, _, _, hl, hxl, hf⟩ := DataW.trod_struct Try.underlying41 h
  have hl' : cs.length = 4 := hl.trans (by kernel_rfl)
  clear hl h
  have hxl' : xs.length = 4 := hxl
  obtain ⟨z0, z1, z2, z3, rfl⟩ := list_len4 hl'
  have h0 : DataW.trod enc Try.prog w base spare held n 3 (([z0, z1, z2, z3].drop (0)).take (Try.prog.cellsOf 3)) = xs[0]? := hf 0 _ rfl
  rw [show Try.prog.cellsOf 3 = 1 from by kernel_rfl, List.getElem?_eq_getElem (by omega)] at h0
  obtain ⟨a0, e0, _, g0⟩ := DataW.trod_int Try.underlying3 h0
  have q0 : z0 = .int .i64 a0 := by simpa using e0
  clear e0 h0
  have h1 : DataW.trod enc Try.prog w base spare held n 3 (([z0, z1, z2, z3].drop (1)).take (Try.prog.cellsOf 3)) = xs[1]? := hf 1 _ rfl
  rw [show Try.prog.cellsOf 3 = 1 from by kernel_rfl, List.getElem?_eq_getElem (by omega)] at h1
  obtain ⟨a1, e1, _, g1⟩ := DataW.trod_int Try.underlying3 h1
  have q1 : z1 = .int .i64 a1 := by simpa using e1
  clear e1 h1
  have h2 : DataW.trod enc Try.prog w base spare held n 3 (([z0, z1, z2, z3].drop (2)).take (Try.prog.cellsOf 3)) = xs[2]? := hf 2 _ rfl
  rw [show Try.prog.cellsOf 3 = 1 from by kernel_rfl, List.getElem?_eq_getElem (by omega)] at h2
  obtain ⟨a2, e2, _, g2⟩ := DataW.trod_int Try.underlying3 h2
  have q2 : z2 = .int .i64 a2 := by simpa using e2
  clear e2 h2
  have h3 : DataW.trod enc Try.prog w base spare held n 27 (([z0, z1, z2, z3].drop (3)).take (Try.prog.cellsOf 27)) = xs[3]? := hf 3 _ rfl
  rw [show Try.prog.cellsOf 27 = 1 from by kernel_rfl, List.getElem?_eq_getElem (by omega)] at h3
  obtain ⟨A3, c3, l3, e3, hl3, hm3, hr3, hw3⟩ := open_S27 h3
  have q3 : z3 = .slice A3 l3.length c3 := by simpa using e3
  clear e3 h3
  obtain rfl := q0
  obtain rfl := q1
  obtain rfl := q2
  obtain rfl := q3
  exact ⟨a0, a1, a2, A3, c3, l3, rfl, g0, g1, g2, hl3, hm3, hr3, hw3, trivial⟩
theorem open_A41 {H : Type} {enc : TypeId × Value → H} {w : World} {r : Reach} {b0 : Nat} {base : Nat} {spare : Nat → Bool} {held : Bool} {v : Value} {d : DataW H} {p : List MemPlace} (hv : Value.okWide Try.prog w r b0 41 v) (h : DataW.Trod enc Try.prog w base spare held 41 v d p) : ∃ (a0 : Int) (a1 : Int) (a2 : Int) (A3 : Option Addr) (c3 : Nat) (l3 : List Int), v = .agg #[.int .i64 a0, .int .i64 a1, .int .i64 a2, .slice A3 l3.length c3] ∧ ((Lit.int .i64 a0).wf = true) ∧ ((Lit.int .i64 a1).wf = true) ∧ ((Lit.int .i64 a2).wf = true) ∧ (l3.length ≤ c3) ∧ (c3 ≤ maxLen) ∧ (Kd.C (Kd.int .i64) w A3 l3.length l3) ∧ (∀ p_ ∈ l3, (Lit.int .i64 p_).wf = true) ∧ True := by
  obtain ⟨cs, rfl, _⟩ : ∃ cs, v = .agg cs ∧ cs.size = Try.prog.cellsOf 41 := by
    simp only [Value.okWide, Try.underlying41] at hv
    obtain ⟨cs, h1, h2, _⟩ := hv
    exact ⟨cs, h1, h2⟩
  obtain ⟨fuel, hf⟩ := h
  obtain ⟨a0, a1, a2, A3, c3, l3, e, hh⟩ := cells_T41 hf
  obtain ⟨l_⟩ := cs
  have e' : l_ = [.int .i64 a0, .int .i64 a1, .int .i64 a2, .slice A3 l3.length c3] := by simpa [Value.cells] using e
  subst e'
  exact ⟨a0, a1, a2, A3, c3, l3, rfl, hh⟩
set_option maxRecDepth 100000 in
theorem lifted (os : Os) (started : os.Started) (H : Type) (enc : TypeId × Value → H) :
    ReturnsInHanded {} Try.checked os 6 .any (Rows.guardCalmsSpec.pre6 enc Try.prog Try.f6 Rows.guardCalmsRow.domain false) (Rows.guardCalmsSpec.post enc Try.prog Try.f6 false true false false) := by
  refine returnsInHanded_of_change_sized (C := Try.checked) own started (by kernel_rfl) Try.func6
    (ChangeSpec.witness6 (enc := enc) (C := Try.checked) false ⟨#[], #[.agg #[.int .i64 0, .int .i64 0, .int .i64 0, .slice none 0 0]], []⟩ 8 (by kernel_rfl) (by kernel_rfl) (by kernel_rfl) (by kernel_rfl)) ?_
  intro W base args ds gs before hval0 hW hcnd hsz0 _
  have hsz : (DataW.weightsEach Try.prog (Try.f6.params.toList ++ Rows.guardCalmsSpec.plain.varTypes Try.prog) (ds ++ gs)).all (· ≤ reachBytes) = true := hsz0
  have hval : ∀ (j : Nat) t v, Try.f6.params[j]? = some t → args[j]? = some v → Value.okWide Try.prog W .any base t v := hval0
  have hW' := hW
  obtain ⟨p, q, hA0, hV, rfl, hfz, hnd⟩ := hW
  have hA : DataW.TrodAll enc Try.prog W 0 (fun _ => true) true Try.f6.params.toList args.toList ds p := hA0
  rw [Try.params6] at hA hval hsz
  obtain ⟨v0, vs0, d0, ds0, p0, q0, hargs, rfl, rfl, h0, r0⟩ := trodAll_cons hA
  obtain ⟨rfl, rfl, rfl⟩ := trodAll_nil r0
  obtain rfl : args = #[v0] := by cases args; simp_all
  obtain ⟨rfl, rfl⟩ := trodVars_none hV
  have k0 := h0
  have lt0 : ∀ x ∈ p0, x.block < W.heap.size := by obtain ⟨m, hm⟩ := k0; exact DataW.trod_lt m _ _ _ hm
  obtain ⟨a0_0, a0_1, a0_2, A0_3, c0_3, l0_3, rfl, g0_0, g0_1, g0_2, hl0_3, hm0_3, hr0_3, hw0_3, _⟩ := open_A41 (hval 0 41 v0 rfl rfl) k0
  clear hA0 hval0 hsz0 hsz
  refine (PGuardCalms.windhoverlaw18_GuardCalms.walk Pure.GuardCalms a0_0 a0_1 a0_2 A0_3 c0_3 l0_3 W g0_0 g0_1 g0_2 (Nat.le_trans hl0_3 hm0_3) hw0_3 hr0_3 hl0_3).mono fun e W' ⟨he, bel⟩ => ?_
  subst he
  exact ⟨_, rfl, _, _, _, [], _, [], hW', trodAll_mk1 (shut_bool Try.underlying4 _), (trodAll_cons_mk (Below.trod laidOut (by kernel_rfl) (of_decide_eq_true (by kernel_rfl)) k0 bel lt0) trodAll_mk0), rfl, bel.frame _, fun h => by cases h⟩
theorem over : Rows.guardCalmsRow.holds Try.pinned (OpenSpec.ofChange Rows.guardCalmsSpec) :=
  OpenClaim.holds_of_wide 6 Try.f6 rfl rfl rfl rfl rfl rfl rfl ⟨rfl, rfl, rfl, rfl, rfl⟩ rfl rfl rfl rfl rfl (by kernel_rfl) Try.func6 (by kernel_rfl)
    (of_decide_eq_true (by kernel_rfl)) (by unfold Func.isWrapper; first | (rw [if_pos (by decide +kernel)]; kernel_rfl) | (rw [if_neg (by decide +kernel)]; exact ⟨rfl, rfl⟩))
    (fun os started H enc _ => lifted os started H enc)
theorem proved : Rows.GuardCalmsSaid := over
#print axioms proved
end Go.Proofs.Ytfpggoiopjlkiaa.guardCalms
namespace Go.Proofs.Ytfpggoiopjlkiaa
/-- The row, under a short name, for the claim. -/
theorem guardCalms_holds : Rows.GuardCalmsSaid := guardCalms.proved
end Go.Proofs.Ytfpggoiopjlkiaa
