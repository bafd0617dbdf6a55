-- WRITTEN BY wip/tools/aprint.py of this claim's repository over the kit's words: not typed by hand
import Derived.Test.YtfpggoiopjlkiaaRows
import Derived.Test.YtfpggoiopjlkiaaPGuardAsksx11
import Derived.Test.YtfpggoiopjlkiaaPureGuardAsks
import Derived.WalkKit
import Derived.ProofKit
import Derived.OpenShut
import Derived.ShutString
import Derived.ChangeOld
import Derived.Below
import Derived.SizedLaws
import Derived.Test.YtfpggoiopjlkiaaWSized
namespace Go.Proofs.Ytfpggoiopjlkiaa.guardAsks
open Go.ChangeShapes Go.WideShapes Go.ChangeAt Go.RowKit
open Go.Proofs.YtfpggoiopjlkiaaW.PrintWords Go.Proofs.Ytfpggoiopjlkiaa.PGuardAsks
open Go.ChangeMaps (open_string shut_string)
set_option linter.unusedVariables false
theorem own : ownKnob Try.prog.godebug = none := by kernel_rfl
theorem laidOut : laidOutB Try.prog = true := by kernel_rfl
theorem list_len3 {α : Type} {cs : List α} (h : cs.length = 3) : ∃ c0 c1 c2, cs = [c0, c1, c2] := by
  match cs, h with
  | [c0, c1, c2], _ => exact ⟨c0, c1, c2, rfl⟩
theorem cells_T39 {H : Type} {enc : TypeId × Value → H} {w : World} {base : Nat} {spare : Nat → Bool} {held : Bool} {fuel : Nat} {cs : List Value} {x : DataW H × List MemPlace} (h : DataW.trod enc Try.prog w base spare held fuel 39 cs = some x) : ∃ (a0 : Int) (a1 : Int) (a2 : Int), cs = [.int .i64 a0, .int .i64 a1, .int .i64 a2] ∧ ((Lit.int .i64 a0).wf = true) ∧ ((Lit.int .i64 a1).wf = true) ∧ ((Lit.int .i64 a2).wf = true) ∧ True := by
  obtain ⟨xs, n, _, _, hl, hxl, hf⟩ := DataW.trod_array Try.underlying39 h
  have hl' : cs.length = 3 := hl.trans (by kernel_rfl)
  clear hl h
  have hxl' : xs.length = 3 := hxl
  obtain ⟨z0, z1, z2, rfl⟩ := list_len3 hl'
  have h0 : DataW.trod enc Try.prog w base spare held n 3 (([z0, z1, z2].drop (0 * Try.prog.cellsOf 3)).take (Try.prog.cellsOf 3)) = xs[0]? := hf 0 (by decide)
  rw [show Try.prog.cellsOf 3 = 1 from by kernel_rfl, List.getElem?_eq_getElem (by omega)] at h0
  obtain ⟨a0, e0, _, g0⟩ := DataW.trod_int Try.underlying3 h0
  have q0 : z0 = .int .i64 a0 := by simpa using e0
  clear e0 h0
  have h1 : DataW.trod enc Try.prog w base spare held n 3 (([z0, z1, z2].drop (1 * Try.prog.cellsOf 3)).take (Try.prog.cellsOf 3)) = xs[1]? := hf 1 (by decide)
  rw [show Try.prog.cellsOf 3 = 1 from by kernel_rfl, List.getElem?_eq_getElem (by omega)] at h1
  obtain ⟨a1, e1, _, g1⟩ := DataW.trod_int Try.underlying3 h1
  have q1 : z1 = .int .i64 a1 := by simpa using e1
  clear e1 h1
  have h2 : DataW.trod enc Try.prog w base spare held n 3 (([z0, z1, z2].drop (2 * Try.prog.cellsOf 3)).take (Try.prog.cellsOf 3)) = xs[2]? := hf 2 (by decide)
  rw [show Try.prog.cellsOf 3 = 1 from by kernel_rfl, List.getElem?_eq_getElem (by omega)] at h2
  obtain ⟨a2, e2, _, g2⟩ := DataW.trod_int Try.underlying3 h2
  have q2 : z2 = .int .i64 a2 := by simpa using e2
  clear e2 h2
  obtain rfl := q0
  obtain rfl := q1
  obtain rfl := q2
  exact ⟨a0, a1, a2, rfl, g0, g1, g2, trivial⟩
theorem list_len5 {α : Type} {cs : List α} (h : cs.length = 5) : ∃ c0 c1 c2 c3 c4, cs = [c0, c1, c2, c3, c4] := by
  match cs, h with
  | [c0, c1, c2, c3, c4], _ => exact ⟨c0, c1, c2, c3, c4, rfl⟩
theorem cells_T49 {H : Type} {enc : TypeId × Value → H} {w : World} {base : Nat} {spare : Nat → Bool} {held : Bool} {fuel : Nat} {cs : List Value} {x : DataW H × List MemPlace} (h : DataW.trod enc Try.prog w base spare held fuel 49 cs = some x) : ∃ (a0 : Bool) (a1 : Int) (a2 : Int) (a3 : Int) (a4 : Int), cs = [.bool a0, .int .i64 a1, .int .i64 a2, .int .i64 a3, .int .i64 a4] ∧ ((Lit.int .i64 a1).wf = true) ∧ ((Lit.int .i64 a2).wf = true) ∧ ((Lit.int .i64 a3).wf = true) ∧ ((Lit.int .i64 a4).wf = true) ∧ True := by
  obtain ⟨xs, n, _, _, hl, hxl, hf⟩ := DataW.trod_struct Try.underlying49 h
  have hl' : cs.length = 5 := hl.trans (by kernel_rfl)
  clear hl h
  have hxl' : xs.length = 3 := hxl
  obtain ⟨z0, z1, z2, z3, z4, rfl⟩ := list_len5 hl'
  have h0 : DataW.trod enc Try.prog w base spare held n 4 (([z0, z1, z2, z3, z4].drop (0)).take (Try.prog.cellsOf 4)) = xs[0]? := hf 0 _ rfl
  rw [show Try.prog.cellsOf 4 = 1 from by kernel_rfl, List.getElem?_eq_getElem (by omega)] at h0
  obtain ⟨a0, e0, _⟩ := DataW.trod_bool Try.underlying4 h0
  have q0 : z0 = .bool a0 := by simpa using e0
  clear e0 h0
  have h1 : DataW.trod enc Try.prog w base spare held n 39 (([z0, z1, z2, z3, z4].drop (1)).take (Try.prog.cellsOf 39)) = xs[1]? := hf 1 _ rfl
  rw [show Try.prog.cellsOf 39 = 3 from by kernel_rfl, List.getElem?_eq_getElem (by omega)] at h1
  obtain ⟨a1, a2, a3, e1, g1, g2, g3, _⟩ := cells_T39 h1
  have q1 : z1 = .int .i64 a1 ∧ z2 = .int .i64 a2 ∧ z3 = .int .i64 a3 := by simpa using e1
  clear e1 h1
  have h2 : DataW.trod enc Try.prog w base spare held n 3 (([z0, z1, z2, z3, z4].drop (4)).take (Try.prog.cellsOf 3)) = xs[2]? := hf 2 _ rfl
  rw [show Try.prog.cellsOf 3 = 1 from by kernel_rfl, List.getElem?_eq_getElem (by omega)] at h2
  obtain ⟨a4, e2, _, g4⟩ := DataW.trod_int Try.underlying3 h2
  have q2 : z4 = .int .i64 a4 := by simpa using e2
  clear e2 h2
  obtain rfl := q0
  obtain ⟨rfl, rfl, rfl⟩ := q1
  obtain rfl := q2
  exact ⟨a0, a1, a2, a3, a4, rfl, g1, g2, g3, g4, trivial⟩
theorem open_S47 {H : Type} {enc : TypeId × Value → H} {w : World} {base : Nat} {spare : Nat → Bool} {held : Bool} {fuel : Nat} {cs : List Value} {x : DataW H × List MemPlace} (h : DataW.trod enc Try.prog w base spare held fuel 47 cs = some x) : ∃ (A : Option Addr) (c : Nat) (l : List (S49)), cs = [.slice A l.length c] ∧ (l.length ≤ c) ∧ (c ≤ maxLen) ∧ (Kd.C k49 w A l.length l) ∧ (∀ p_ ∈ l, (Lit.int .i64 p_.f1.f0).wf = true ∧ (Lit.int .i64 p_.f1.f1).wf = true ∧ (Lit.int .i64 p_.f1.f2).wf = true ∧ (Lit.int .i64 p_.f2).wf = true) := by
  refine Go.Proofs.YtfpggoiopjlkiaaW.PrintWords.open_rows k49 z49 (fun p_ => (Lit.int .i64 p_.f1.f0).wf = true ∧ (Lit.int .i64 p_.f1.f1).wf = true ∧ (Lit.int .i64 p_.f1.f2).wf = true ∧ (Lit.int .i64 p_.f2).wf = true) Try.underlying47 (by kernel_rfl) (fun n_ cs_ y_ h_ => ?_) h
  obtain ⟨a0, a1, a2, a3, a4, e_, g1, g2, g3, g4, _⟩ := cells_T49 h_
  subst e_
  exact ⟨(⟨a0, (⟨a1, a2, a3⟩ : S39), a4⟩ : S49), k49_mk w (⟨a0, (⟨a1, a2, a3⟩ : S39), a4⟩ : S49), ⟨g1, g2, g3, g4⟩⟩
theorem open_A47 {H : Type} {enc : TypeId × Value → H} {w : World} {r : Reach} {b0 : Nat} {base : Nat} {spare : Nat → Bool} {held : Bool} {v : Value} {d : DataW H} {p : List MemPlace} (hv : Value.okWide Try.prog w r b0 47 v) (h : DataW.Trod enc Try.prog w base spare held 47 v d p) : ∃ (A : Option Addr) (c : Nat) (l : List (S49)), v = .slice A l.length c ∧ (l.length ≤ c) ∧ (c ≤ maxLen) ∧ (Kd.C k49 w A l.length l) ∧ (∀ p_ ∈ l, (Lit.int .i64 p_.f1.f0).wf = true ∧ (Lit.int .i64 p_.f1.f1).wf = true ∧ (Lit.int .i64 p_.f1.f2).wf = true ∧ (Lit.int .i64 p_.f2).wf = true) := by
  obtain ⟨a_, len_, cap_, rfl⟩ := okWide_slice Try.underlying47 hv
  obtain ⟨fuel, hf⟩ := h
  obtain ⟨A, c, l, e, hh⟩ := open_S47 hf
  have e' : [Value.slice a_ len_ cap_] = _ := e
  exact ⟨A, c, l, List.head_eq_of_cons_eq e', hh⟩
set_option maxRecDepth 100000 in
theorem lifted (os : Os) (started : os.Started) (H : Type) (enc : TypeId × Value → H) :
    ReturnsInHanded {} Try.checked os 7 .any (Rows.guardAsksSpec.pre6 enc Try.prog Try.f7 Rows.guardAsksRow.domain false) (Rows.guardAsksSpec.post enc Try.prog Try.f7 false true false false) := by
  refine returnsInHanded_of_change_sized (C := Try.checked) own started (by kernel_rfl) Try.func7
    (ChangeSpec.witness6 (enc := enc) (C := Try.checked) false ⟨#[], #[.slice none 0 0], []⟩ 8 (by kernel_rfl) (by kernel_rfl) (by kernel_rfl) (by kernel_rfl)) ?_
  intro W base args ds gs before hval0 hW hcnd hsz0 _
  have hsz : (DataW.weightsEach Try.prog (Try.f7.params.toList ++ Rows.guardAsksSpec.plain.varTypes Try.prog) (ds ++ gs)).all (· ≤ reachBytes) = true := hsz0
  have hval : ∀ (j : Nat) t v, Try.f7.params[j]? = some t → args[j]? = some v → Value.okWide Try.prog W .any base t v := hval0
  have hW' := hW
  obtain ⟨p, q, hA0, hV, rfl, hfz, hnd⟩ := hW
  have hA : DataW.TrodAll enc Try.prog W 0 (fun _ => true) true Try.f7.params.toList args.toList ds p := hA0
  rw [Try.params7] at hA hval hsz
  obtain ⟨v0, vs0, d0, ds0, p0, q0, hargs, rfl, rfl, h0, r0⟩ := trodAll_cons hA
  obtain ⟨rfl, rfl, rfl⟩ := trodAll_nil r0
  obtain rfl : args = #[v0] := by cases args; simp_all
  obtain ⟨rfl, rfl⟩ := trodVars_none hV
  have k0 := h0
  have lt0 : ∀ x ∈ p0, x.block < W.heap.size := by obtain ⟨m, hm⟩ := k0; exact DataW.trod_lt m _ _ _ hm
  obtain ⟨A0, c0, l0, rfl, hl0, hm0, hr0, hw0⟩ := open_A47 (hval 0 47 v0 rfl rfl) k0
  clear hA0 hval0 hsz0 hsz
  refine (PGuardAsks.windhoverlaw18_GuardAsks.walk Pure.GuardAsks A0 c0 l0 W (Nat.le_trans hl0 hm0) hw0 hr0 hl0).mono fun e W' ⟨he, bel⟩ => ?_
  subst he
  exact ⟨_, rfl, _, _, _, [], _, [], hW', trodAll_mk1 (shut_bool Try.underlying4 _), (trodAll_cons_mk (Below.trod laidOut (by kernel_rfl) (of_decide_eq_true (by kernel_rfl)) k0 bel lt0) trodAll_mk0), rfl, bel.frame _, fun h => by cases h⟩
theorem over : Rows.guardAsksRow.holds Try.pinned (OpenSpec.ofChange Rows.guardAsksSpec) :=
  OpenClaim.holds_of_wide 7 Try.f7 rfl rfl rfl rfl rfl rfl rfl ⟨rfl, rfl, rfl, rfl, rfl⟩ rfl rfl rfl rfl rfl (by kernel_rfl) Try.func7 (by kernel_rfl)
    (of_decide_eq_true (by kernel_rfl)) (by unfold Func.isWrapper; first | (rw [if_pos (by decide +kernel)]; kernel_rfl) | (rw [if_neg (by decide +kernel)]; exact ⟨rfl, rfl⟩))
    (fun os started H enc _ => lifted os started H enc)
theorem proved : Rows.GuardAsksSaid := over
#print axioms proved
end Go.Proofs.Ytfpggoiopjlkiaa.guardAsks
namespace Go.Proofs.Ytfpggoiopjlkiaa
/-- The row, under a short name, for the claim. -/
theorem guardAsks_holds : Rows.GuardAsksSaid := guardAsks.proved
end Go.Proofs.Ytfpggoiopjlkiaa
