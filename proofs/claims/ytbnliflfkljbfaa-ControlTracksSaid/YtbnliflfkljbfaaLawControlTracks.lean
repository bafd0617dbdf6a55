-- WRITTEN BY wip/tools/aprint.py of this claim's repository over the kit's words: not typed by hand
import Derived.Test.YtbnliflfkljbfaaRows
import Derived.Test.YtbnliflfkljbfaaPControlTracksx7
import Derived.Test.YtbnliflfkljbfaaPureControlTracks
import Derived.WalkKit
import Derived.ProofKit
import Derived.OpenShut
import Derived.ShutString
import Derived.ChangeOld
import Derived.Below
import Derived.SizedLaws
import Derived.Test.YtbnliflfkljbfaaWSized
namespace Go.Proofs.Ytbnliflfkljbfaa.controlTracks
open Go.ChangeShapes Go.WideShapes Go.ChangeAt Go.RowKit
open Go.Proofs.YtbnliflfkljbfaaW.PrintWords Go.Proofs.Ytbnliflfkljbfaa.PControlTracks
open Go.ChangeMaps (open_string shut_string)
set_option linter.unusedVariables false
theorem own : ownKnob Try.prog.godebug = none := by kernel_rfl
theorem laidOut : laidOutB Try.prog = true := by kernel_rfl
theorem open_S29 {H : Type} {enc : TypeId × Value → H} {w : World} {base : Nat} {spare : Nat → Bool} {held : Bool} {fuel : Nat} {cs : List Value} {x : DataW H × List MemPlace} (h : DataW.trod enc Try.prog w base spare held fuel 29 cs = some x) : ∃ (A : Option Addr) (c : Nat) (l : List Int), cs = [.slice A l.length c] ∧ (l.length ≤ c) ∧ (c ≤ maxLen) ∧ (Kd.C (Kd.int .i64) w A l.length l) ∧ (∀ p_ ∈ l, (Lit.int .i64 p_).wf = true) := by
  refine Go.Proofs.YtbnliflfkljbfaaW.PrintWords.open_rows (Kd.int .i64) 0 (fun p_ => (Lit.int .i64 p_).wf = true) Try.underlying29 (by kernel_rfl) (fun n_ cs_ y_ h_ => ?_) h
  obtain ⟨b_, e_, _, g_⟩ := DataW.trod_int Try.underlying3 h_
  exact ⟨b_, e_, g_⟩
theorem list_len5 {α : Type} {cs : List α} (h : cs.length = 5) : ∃ c0 c1 c2 c3 c4, cs = [c0, c1, c2, c3, c4] := by
  match cs, h with
  | [c0, c1, c2, c3, c4], _ => exact ⟨c0, c1, c2, c3, c4, rfl⟩
theorem cells_T31 {H : Type} {enc : TypeId × Value → H} {w : World} {base : Nat} {spare : Nat → Bool} {held : Bool} {fuel : Nat} {cs : List Value} {x : DataW H × List MemPlace} (h : DataW.trod enc Try.prog w base spare held fuel 31 cs = some x) : ∃ (A0 : Option Addr) (c0 : Nat) (l0 : List Int) (A1 : Option Addr) (c1 : Nat) (l1 : List Int) (A2 : Option Addr) (c2 : Nat) (l2 : List Int) (a3 : Int) (a4 : Int), cs = [.slice A0 l0.length c0, .slice A1 l1.length c1, .slice A2 l2.length c2, .int .i64 a3, .int .i64 a4] ∧ (l0.length ≤ c0) ∧ (c0 ≤ maxLen) ∧ (Kd.C (Kd.int .i64) w A0 l0.length l0) ∧ (∀ p_ ∈ l0, (Lit.int .i64 p_).wf = true) ∧ (l1.length ≤ c1) ∧ (c1 ≤ maxLen) ∧ (Kd.C (Kd.int .i64) w A1 l1.length l1) ∧ (∀ p_ ∈ l1, (Lit.int .i64 p_).wf = true) ∧ (l2.length ≤ c2) ∧ (c2 ≤ maxLen) ∧ (Kd.C (Kd.int .i64) w A2 l2.length l2) ∧ (∀ p_ ∈ l2, (Lit.int .i64 p_).wf = true) ∧ ((Lit.int .i64 a3).wf = true) ∧ ((Lit.int .i64 a4).wf = true) ∧ True := by
  obtain ⟨xs, n, _, _, hl, hxl, hf⟩ := DataW.trod_struct Try.underlying31 h
  have hl' : cs.length = 5 := hl.trans (by kernel_rfl)
  clear hl h
  have hxl' : xs.length = 5 := hxl
  obtain ⟨z0, z1, z2, z3, z4, rfl⟩ := list_len5 hl'
  have h0 : DataW.trod enc Try.prog w base spare held n 29 (([z0, z1, z2, z3, z4].drop (0)).take (Try.prog.cellsOf 29)) = xs[0]? := hf 0 _ rfl
  rw [show Try.prog.cellsOf 29 = 1 from by kernel_rfl, List.getElem?_eq_getElem (by omega)] at h0
  obtain ⟨A0, c0, l0, e0, hl0, hm0, hr0, hw0⟩ := open_S29 h0
  have q0 : z0 = .slice A0 l0.length c0 := by simpa using e0
  clear e0 h0
  have h1 : DataW.trod enc Try.prog w base spare held n 29 (([z0, z1, z2, z3, z4].drop (1)).take (Try.prog.cellsOf 29)) = xs[1]? := hf 1 _ rfl
  rw [show Try.prog.cellsOf 29 = 1 from by kernel_rfl, List.getElem?_eq_getElem (by omega)] at h1
  obtain ⟨A1, c1, l1, e1, hl1, hm1, hr1, hw1⟩ := open_S29 h1
  have q1 : z1 = .slice A1 l1.length c1 := by simpa using e1
  clear e1 h1
  have h2 : DataW.trod enc Try.prog w base spare held n 29 (([z0, z1, z2, z3, z4].drop (2)).take (Try.prog.cellsOf 29)) = xs[2]? := hf 2 _ rfl
  rw [show Try.prog.cellsOf 29 = 1 from by kernel_rfl, List.getElem?_eq_getElem (by omega)] at h2
  obtain ⟨A2, c2, l2, e2, hl2, hm2, hr2, hw2⟩ := open_S29 h2
  have q2 : z2 = .slice A2 l2.length c2 := by simpa using e2
  clear e2 h2
  have h3 : DataW.trod enc Try.prog w base spare held n 3 (([z0, z1, z2, z3, z4].drop (3)).take (Try.prog.cellsOf 3)) = xs[3]? := hf 3 _ rfl
  rw [show Try.prog.cellsOf 3 = 1 from by kernel_rfl, List.getElem?_eq_getElem (by omega)] at h3
  obtain ⟨a3, e3, _, g3⟩ := DataW.trod_int Try.underlying3 h3
  have q3 : z3 = .int .i64 a3 := by simpa using e3
  clear e3 h3
  have h4 : DataW.trod enc Try.prog w base spare held n 3 (([z0, z1, z2, z3, z4].drop (4)).take (Try.prog.cellsOf 3)) = xs[4]? := hf 4 _ rfl
  rw [show Try.prog.cellsOf 3 = 1 from by kernel_rfl, List.getElem?_eq_getElem (by omega)] at h4
  obtain ⟨a4, e4, _, g4⟩ := DataW.trod_int Try.underlying3 h4
  have q4 : z4 = .int .i64 a4 := by simpa using e4
  clear e4 h4
  obtain rfl := q0
  obtain rfl := q1
  obtain rfl := q2
  obtain rfl := q3
  obtain rfl := q4
  exact ⟨A0, c0, l0, A1, c1, l1, A2, c2, l2, a3, a4, rfl, hl0, hm0, hr0, hw0, hl1, hm1, hr1, hw1, hl2, hm2, hr2, hw2, g3, g4, trivial⟩
theorem open_A31 {H : Type} {enc : TypeId × Value → H} {w : World} {r : Reach} {b0 : Nat} {base : Nat} {spare : Nat → Bool} {held : Bool} {v : Value} {d : DataW H} {p : List MemPlace} (hv : Value.okWide Try.prog w r b0 31 v) (h : DataW.Trod enc Try.prog w base spare held 31 v d p) : ∃ (A0 : Option Addr) (c0 : Nat) (l0 : List Int) (A1 : Option Addr) (c1 : Nat) (l1 : List Int) (A2 : Option Addr) (c2 : Nat) (l2 : List Int) (a3 : Int) (a4 : Int), v = .agg #[.slice A0 l0.length c0, .slice A1 l1.length c1, .slice A2 l2.length c2, .int .i64 a3, .int .i64 a4] ∧ (l0.length ≤ c0) ∧ (c0 ≤ maxLen) ∧ (Kd.C (Kd.int .i64) w A0 l0.length l0) ∧ (∀ p_ ∈ l0, (Lit.int .i64 p_).wf = true) ∧ (l1.length ≤ c1) ∧ (c1 ≤ maxLen) ∧ (Kd.C (Kd.int .i64) w A1 l1.length l1) ∧ (∀ p_ ∈ l1, (Lit.int .i64 p_).wf = true) ∧ (l2.length ≤ c2) ∧ (c2 ≤ maxLen) ∧ (Kd.C (Kd.int .i64) w A2 l2.length l2) ∧ (∀ p_ ∈ l2, (Lit.int .i64 p_).wf = true) ∧ ((Lit.int .i64 a3).wf = true) ∧ ((Lit.int .i64 a4).wf = true) ∧ True := by
  obtain ⟨cs, rfl, _⟩ : ∃ cs, v = .agg cs ∧ cs.size = Try.prog.cellsOf 31 := by
    simp only [Value.okWide, Try.underlying31] at hv
    obtain ⟨cs, h1, h2, _⟩ := hv
    exact ⟨cs, h1, h2⟩
  obtain ⟨fuel, hf⟩ := h
  obtain ⟨A0, c0, l0, A1, c1, l1, A2, c2, l2, a3, a4, e, hh⟩ := cells_T31 hf
  obtain ⟨l_⟩ := cs
  have e' : l_ = [.slice A0 l0.length c0, .slice A1 l1.length c1, .slice A2 l2.length c2, .int .i64 a3, .int .i64 a4] := by simpa [Value.cells] using e
  subst e'
  exact ⟨A0, c0, l0, A1, c1, l1, A2, c2, l2, a3, a4, rfl, hh⟩
set_option maxRecDepth 100000 in
theorem lifted (os : Os) (started : os.Started) (H : Type) (enc : TypeId × Value → H) :
    ReturnsInHanded {} Try.checked os 5 .any (Rows.controlTracksSpec.pre6 enc Try.prog Try.f5 Rows.controlTracksRow.domain false) (Rows.controlTracksSpec.post enc Try.prog Try.f5 false true false false) := by
  refine returnsInHanded_of_change_sized (C := Try.checked) own started (by kernel_rfl) Try.func5
    (ChangeSpec.witness6 (enc := enc) (C := Try.checked) false ⟨#[], #[.agg #[.slice none 0 0, .slice none 0 0, .slice none 0 0, .int .i64 0, .int .i64 0]], []⟩ 8 (by kernel_rfl) (by kernel_rfl) (by kernel_rfl) (by kernel_rfl)) ?_
  intro W base args ds gs before hval0 hW hcnd hsz0 _
  have hsz : (DataW.weightsEach Try.prog (Try.f5.params.toList ++ Rows.controlTracksSpec.plain.varTypes Try.prog) (ds ++ gs)).all (· ≤ reachBytes) = true := hsz0
  have hval : ∀ (j : Nat) t v, Try.f5.params[j]? = some t → args[j]? = some v → Value.okWide Try.prog W .any base t v := hval0
  have hW' := hW
  obtain ⟨p, q, hA0, hV, rfl, hfz, hnd⟩ := hW
  have hA : DataW.TrodAll enc Try.prog W 0 (fun _ => true) true Try.f5.params.toList args.toList ds p := hA0
  rw [Try.params5] at hA hval hsz
  obtain ⟨v0, vs0, d0, ds0, p0, q0, hargs, rfl, rfl, h0, r0⟩ := trodAll_cons hA
  obtain ⟨rfl, rfl, rfl⟩ := trodAll_nil r0
  obtain rfl : args = #[v0] := by cases args; simp_all
  obtain ⟨rfl, rfl⟩ := trodVars_none hV
  have k0 := h0
  have lt0 : ∀ x ∈ p0, x.block < W.heap.size := by obtain ⟨m, hm⟩ := k0; exact DataW.trod_lt m _ _ _ hm
  obtain ⟨A0_0, c0_0, l0_0, A0_1, c0_1, l0_1, A0_2, c0_2, l0_2, a0_3, a0_4, rfl, hl0_0, hm0_0, hr0_0, hw0_0, hl0_1, hm0_1, hr0_1, hw0_1, hl0_2, hm0_2, hr0_2, hw0_2, g0_3, g0_4, _⟩ := open_A31 (hval 0 31 v0 rfl rfl) k0
  clear hA0 hval0 hsz0 hsz
  refine (PControlTracks.windhoverlaw17_ControlTracks.walk Pure.ControlTracks A0_0 c0_0 l0_0 A0_1 c0_1 l0_1 A0_2 c0_2 l0_2 a0_3 a0_4 W (Nat.le_trans hl0_0 hm0_0) hw0_0 (Nat.le_trans hl0_1 hm0_1) hw0_1 (Nat.le_trans hl0_2 hm0_2) hw0_2 g0_3 g0_4 hr0_0 hl0_0 hr0_1 hl0_1 hr0_2 hl0_2).mono fun e W' ⟨he, bel⟩ => ?_
  subst he
  exact ⟨_, rfl, _, _, _, [], _, [], hW', trodAll_mk1 (shut_bool Try.underlying4 _), (trodAll_cons_mk (Below.trod laidOut (by kernel_rfl) (of_decide_eq_true (by kernel_rfl)) k0 bel lt0) trodAll_mk0), rfl, bel.frame _, fun h => by cases h⟩
theorem over : Rows.controlTracksRow.holds Try.pinned (OpenSpec.ofChange Rows.controlTracksSpec) :=
  OpenClaim.holds_of_wide 5 Try.f5 rfl rfl rfl rfl rfl rfl rfl ⟨rfl, rfl, rfl, rfl, rfl⟩ rfl rfl rfl rfl rfl (by kernel_rfl) Try.func5 (by kernel_rfl)
    (of_decide_eq_true (by kernel_rfl)) (by unfold Func.isWrapper; first | (rw [if_pos (by decide +kernel)]; kernel_rfl) | (rw [if_neg (by decide +kernel)]; exact ⟨rfl, rfl⟩))
    (fun os started H enc _ => lifted os started H enc)
theorem proved : Rows.ControlTracksSaid := over
#print axioms proved
end Go.Proofs.Ytbnliflfkljbfaa.controlTracks
namespace Go.Proofs.Ytbnliflfkljbfaa
/-- The row, under a short name, for the claim. -/
theorem controlTracks_holds : Rows.ControlTracksSaid := controlTracks.proved
end Go.Proofs.Ytbnliflfkljbfaa
