-- WRITTEN BY wip/tools/aprint.py of this claim's repository over the kit's words: not typed by hand
import Derived.Test.YtmmlahckcgjofaaRows
import Derived.Test.YtmmlahckcgjofaaPPowerHoldsx6
import Derived.Test.YtmmlahckcgjofaaPurePowerHolds
import Derived.WalkKit
import Derived.ProofKit
import Derived.OpenShut
import Derived.ShutString
import Derived.ChangeOld
import Derived.Below
import Derived.SizedLaws
import Derived.Test.YtmmlahckcgjofaaWSized
namespace Go.Proofs.Ytmmlahckcgjofaa.powerHolds
open Go.ChangeShapes Go.WideShapes Go.ChangeAt Go.RowKit
open Go.Proofs.YtmmlahckcgjofaaW.PrintWords Go.Proofs.Ytmmlahckcgjofaa.PPowerHolds
open Go.ChangeMaps (open_string shut_string)
set_option linter.unusedVariables false
theorem own : ownKnob Try.prog.godebug = none := by kernel_rfl
theorem laidOut : laidOutB Try.prog = true := by kernel_rfl
theorem open_S22 {H : Type} {enc : TypeId × Value → H} {w : World} {base : Nat} {spare : Nat → Bool} {held : Bool} {fuel : Nat} {cs : List Value} {x : DataW H × List MemPlace} (h : DataW.trod enc Try.prog w base spare held fuel 22 cs = some x) : ∃ (A : Option Addr) (c : Nat) (l : List Int), cs = [.slice A l.length c] ∧ (l.length ≤ c) ∧ (c ≤ maxLen) ∧ (Kd.C (Kd.int .i64) w A l.length l) ∧ (∀ p_ ∈ l, (Lit.int .i64 p_).wf = true) := by
  refine Go.Proofs.YtmmlahckcgjofaaW.PrintWords.open_rows (Kd.int .i64) 0 (fun p_ => (Lit.int .i64 p_).wf = true) Try.underlying22 (by kernel_rfl) (fun n_ cs_ y_ h_ => ?_) h
  obtain ⟨b_, e_, _, g_⟩ := DataW.trod_int Try.underlying3 h_
  exact ⟨b_, e_, g_⟩
theorem open_A22 {H : Type} {enc : TypeId × Value → H} {w : World} {r : Reach} {b0 : Nat} {base : Nat} {spare : Nat → Bool} {held : Bool} {v : Value} {d : DataW H} {p : List MemPlace} (hv : Value.okWide Try.prog w r b0 22 v) (h : DataW.Trod enc Try.prog w base spare held 22 v d p) : ∃ (A : Option Addr) (c : Nat) (l : List Int), v = .slice A l.length c ∧ (l.length ≤ c) ∧ (c ≤ maxLen) ∧ (Kd.C (Kd.int .i64) w A l.length l) ∧ (∀ p_ ∈ l, (Lit.int .i64 p_).wf = true) := by
  obtain ⟨a_, len_, cap_, rfl⟩ := okWide_slice Try.underlying22 hv
  obtain ⟨fuel, hf⟩ := h
  obtain ⟨A, c, l, e, hh⟩ := open_S22 hf
  have e' : [Value.slice a_ len_ cap_] = _ := e
  exact ⟨A, c, l, List.head_eq_of_cons_eq e', hh⟩
theorem list_len3 {α : Type} {cs : List α} (h : cs.length = 3) : ∃ c0 c1 c2, cs = [c0, c1, c2] := by
  match cs, h with
  | [c0, c1, c2], _ => exact ⟨c0, c1, c2, rfl⟩
theorem cells_T58 {H : Type} {enc : TypeId × Value → H} {w : World} {base : Nat} {spare : Nat → Bool} {held : Bool} {fuel : Nat} {cs : List Value} {x : DataW H × List MemPlace} (h : DataW.trod enc Try.prog w base spare held fuel 58 cs = some x) : ∃ (a0 : Int) (a1 : Int) (a2 : Bool), cs = [.int .i64 a0, .int .i64 a1, .bool a2] ∧ ((Lit.int .i64 a0).wf = true) ∧ ((Lit.int .i64 a1).wf = true) ∧ True := by
  obtain ⟨xs, n, _, _, hl, hxl, hf⟩ := DataW.trod_struct Try.underlying58 h
  have hl' : cs.length = 3 := hl.trans (by kernel_rfl)
  clear hl h
  have hxl' : xs.length = 3 := hxl
  obtain ⟨z0, z1, z2, rfl⟩ := list_len3 hl'
  have h0 : DataW.trod enc Try.prog w base spare held n 3 (([z0, z1, z2].drop (0)).take (Try.prog.cellsOf 3)) = xs[0]? := hf 0 _ rfl
  rw [show Try.prog.cellsOf 3 = 1 from by kernel_rfl, List.getElem?_eq_getElem (by omega)] at h0
  obtain ⟨a0, e0, _, g0⟩ := DataW.trod_int Try.underlying3 h0
  have q0 : z0 = .int .i64 a0 := by simpa using e0
  clear e0 h0
  have h1 : DataW.trod enc Try.prog w base spare held n 3 (([z0, z1, z2].drop (1)).take (Try.prog.cellsOf 3)) = xs[1]? := hf 1 _ rfl
  rw [show Try.prog.cellsOf 3 = 1 from by kernel_rfl, List.getElem?_eq_getElem (by omega)] at h1
  obtain ⟨a1, e1, _, g1⟩ := DataW.trod_int Try.underlying3 h1
  have q1 : z1 = .int .i64 a1 := by simpa using e1
  clear e1 h1
  have h2 : DataW.trod enc Try.prog w base spare held n 4 (([z0, z1, z2].drop (2)).take (Try.prog.cellsOf 4)) = xs[2]? := hf 2 _ rfl
  rw [show Try.prog.cellsOf 4 = 1 from by kernel_rfl, List.getElem?_eq_getElem (by omega)] at h2
  obtain ⟨a2, e2, _⟩ := DataW.trod_bool Try.underlying4 h2
  have q2 : z2 = .bool a2 := by simpa using e2
  clear e2 h2
  obtain rfl := q0
  obtain rfl := q1
  obtain rfl := q2
  exact ⟨a0, a1, a2, rfl, g0, g1, trivial⟩
theorem open_S52 {H : Type} {enc : TypeId × Value → H} {w : World} {base : Nat} {spare : Nat → Bool} {held : Bool} {fuel : Nat} {cs : List Value} {x : DataW H × List MemPlace} (h : DataW.trod enc Try.prog w base spare held fuel 52 cs = some x) : ∃ (A : Option Addr) (c : Nat) (l : List (S58)), cs = [.slice A l.length c] ∧ (l.length ≤ c) ∧ (c ≤ maxLen) ∧ (Kd.C k58 w A l.length l) ∧ (∀ p_ ∈ l, (Lit.int .i64 p_.f0).wf = true ∧ (Lit.int .i64 p_.f1).wf = true) := by
  refine Go.Proofs.YtmmlahckcgjofaaW.PrintWords.open_rows k58 z58 (fun p_ => (Lit.int .i64 p_.f0).wf = true ∧ (Lit.int .i64 p_.f1).wf = true) Try.underlying52 (by kernel_rfl) (fun n_ cs_ y_ h_ => ?_) h
  obtain ⟨a0, a1, a2, e_, g0, g1, _⟩ := cells_T58 h_
  subst e_
  exact ⟨(⟨a0, a1, a2⟩ : S58), k58_mk w (⟨a0, a1, a2⟩ : S58), ⟨g0, g1⟩⟩
theorem open_A52 {H : Type} {enc : TypeId × Value → H} {w : World} {r : Reach} {b0 : Nat} {base : Nat} {spare : Nat → Bool} {held : Bool} {v : Value} {d : DataW H} {p : List MemPlace} (hv : Value.okWide Try.prog w r b0 52 v) (h : DataW.Trod enc Try.prog w base spare held 52 v d p) : ∃ (A : Option Addr) (c : Nat) (l : List (S58)), v = .slice A l.length c ∧ (l.length ≤ c) ∧ (c ≤ maxLen) ∧ (Kd.C k58 w A l.length l) ∧ (∀ p_ ∈ l, (Lit.int .i64 p_.f0).wf = true ∧ (Lit.int .i64 p_.f1).wf = true) := by
  obtain ⟨a_, len_, cap_, rfl⟩ := okWide_slice Try.underlying52 hv
  obtain ⟨fuel, hf⟩ := h
  obtain ⟨A, c, l, e, hh⟩ := open_S52 hf
  have e' : [Value.slice a_ len_ cap_] = _ := e
  exact ⟨A, c, l, List.head_eq_of_cons_eq e', hh⟩
set_option maxRecDepth 100000 in
theorem lifted (os : Os) (started : os.Started) (H : Type) (enc : TypeId × Value → H) :
    ReturnsInHanded {} Try.checked os 4 .any (Rows.powerHoldsSpec.pre6 enc Try.prog Try.f4 Rows.powerHoldsRow.domain false) (Rows.powerHoldsSpec.post enc Try.prog Try.f4 false true false false) := by
  refine returnsInHanded_of_change_sized (C := Try.checked) own started (by kernel_rfl) Try.func4
    (ChangeSpec.witness6 (enc := enc) (C := Try.checked) false ⟨#[], #[.slice none 0 0, .int .i64 0, .slice none 0 0], []⟩ 8 (by kernel_rfl) (by kernel_rfl) (by kernel_rfl) (by kernel_rfl)) ?_
  intro W base args ds gs before hval0 hW hcnd hsz0 _
  have hsz : (DataW.weightsEach Try.prog (Try.f4.params.toList ++ Rows.powerHoldsSpec.plain.varTypes Try.prog) (ds ++ gs)).all (· ≤ reachBytes) = true := hsz0
  have hval : ∀ (j : Nat) t v, Try.f4.params[j]? = some t → args[j]? = some v → Value.okWide Try.prog W .any base t v := hval0
  have hW' := hW
  obtain ⟨p, q, hA0, hV, rfl, hfz, hnd⟩ := hW
  have hA : DataW.TrodAll enc Try.prog W 0 (fun _ => true) true Try.f4.params.toList args.toList ds p := hA0
  rw [Try.params4] at hA hval hsz
  obtain ⟨v0, vs0, d0, ds0, p0, q0, hargs, rfl, rfl, h0, r0⟩ := trodAll_cons hA
  obtain ⟨v1, vs1, d1, ds1, p1, q1, rfl, rfl, rfl, h1, r1⟩ := trodAll_cons r0
  obtain ⟨v2, vs2, d2, ds2, p2, q2, rfl, rfl, rfl, h2, r2⟩ := trodAll_cons r1
  obtain ⟨rfl, rfl, rfl⟩ := trodAll_nil r2
  obtain rfl : args = #[v0, v1, v2] := by cases args; simp_all
  obtain ⟨rfl, rfl⟩ := trodVars_none hV
  have k0 := h0
  have lt0 : ∀ x ∈ p0, x.block < W.heap.size := by obtain ⟨m, hm⟩ := k0; exact DataW.trod_lt m _ _ _ hm
  obtain ⟨A0, c0, l0, rfl, hl0, hm0, hr0, hw0⟩ := open_A22 (hval 0 22 v0 rfl rfl) k0
  have y0 : l0.length * 8 ≤ 140737488351232 := Go.Proofs.YtmmlahckcgjofaaW.PrintWords.sized_ints hsz (j := 0) (t := 22) rfl rfl Try.underlying22 Try.underlying3 (by kernel_rfl) (by kernel_rfl) k0
  obtain ⟨a1, rfl, rfl, rfl, w1⟩ := open_int Try.underlying3 (hval 1 3 v1 rfl rfl) h1
  have k2 := h2
  have lt2 : ∀ x ∈ p2, x.block < W.heap.size := by obtain ⟨m, hm⟩ := k2; exact DataW.trod_lt m _ _ _ hm
  obtain ⟨A2, c2, l2, rfl, hl2, hm2, hr2, hw2⟩ := open_A52 (hval 2 52 v2 rfl rfl) k2
  clear hA0 hval0 hsz0 hsz
  refine (PPowerHolds.windhoverlaw14_PowerHolds.walk Pure.PowerHolds A0 c0 l0 a1 A2 c2 l2 W (Nat.le_trans hl0 hm0) hw0 y0 w1 (Nat.le_trans hl2 hm2) hw2 hr0 hl0 hr2 hl2).mono fun e W' ⟨he, bel⟩ => ?_
  subst he
  exact ⟨_, rfl, _, _, _, [], _, [], hW', trodAll_mk1 (shut_bool Try.underlying4 _), (trodAll_cons_mk (Below.trod laidOut (by kernel_rfl) (of_decide_eq_true (by kernel_rfl)) k0 bel lt0) (trodAll_cons_mk (shut_int Try.underlying3 w1) (trodAll_cons_mk (Below.trod laidOut (by kernel_rfl) (of_decide_eq_true (by kernel_rfl)) k2 bel lt2) trodAll_mk0))), rfl, bel.frame _, fun h => by cases h⟩
theorem over : Rows.powerHoldsRow.holds Try.pinned (OpenSpec.ofChange Rows.powerHoldsSpec) :=
  OpenClaim.holds_of_wide 4 Try.f4 rfl rfl rfl rfl rfl rfl rfl ⟨rfl, rfl, rfl, rfl, rfl⟩ rfl rfl rfl rfl rfl (by kernel_rfl) Try.func4 (by kernel_rfl)
    (of_decide_eq_true (by kernel_rfl)) (by unfold Func.isWrapper; first | (rw [if_pos (by decide +kernel)]; kernel_rfl) | (rw [if_neg (by decide +kernel)]; exact ⟨rfl, rfl⟩))
    (fun os started H enc _ => lifted os started H enc)
theorem proved : Rows.PowerHoldsSaid := over
#print axioms proved
end Go.Proofs.Ytmmlahckcgjofaa.powerHolds
namespace Go.Proofs.Ytmmlahckcgjofaa
/-- The row, under a short name, for the claim. -/
theorem powerHolds_holds : Rows.PowerHoldsSaid := powerHolds.proved
end Go.Proofs.Ytmmlahckcgjofaa
