-- WRITTEN BY wip/tools/aprint.py of this claim's repository over the kit's words: not typed by hand
import Derived.Test.YtmmlahckcgjofaaRows
import Derived.Test.YtmmlahckcgjofaaPPowerFollowsx19
import Derived.Test.YtmmlahckcgjofaaPurePowerFollows
import Derived.WalkKit
import Derived.ProofKit
import Derived.OpenShut
import Derived.ShutString
import Derived.ChangeOld
import Derived.Below
import Derived.SizedLaws
import Derived.Test.YtmmlahckcgjofaaWSized
namespace Go.Proofs.Ytmmlahckcgjofaa.powerFollows
open Go.ChangeShapes Go.WideShapes Go.ChangeAt Go.RowKit
open Go.Proofs.YtmmlahckcgjofaaW.PrintWords Go.Proofs.Ytmmlahckcgjofaa.PPowerFollows
open Go.ChangeMaps (open_string shut_string)
set_option linter.unusedVariables false
theorem own : ownKnob Try.prog.godebug = none := by kernel_rfl
theorem laidOut : laidOutB Try.prog = true := by kernel_rfl
theorem open_S22 {H : Type} {enc : TypeId × Value → H} {w : World} {base : Nat} {spare : Nat → Bool} {held : Bool} {fuel : Nat} {cs : List Value} {x : DataW H × List MemPlace} (h : DataW.trod enc Try.prog w base spare held fuel 22 cs = some x) : ∃ (A : Option Addr) (c : Nat) (l : List Int), cs = [.slice A l.length c] ∧ (l.length ≤ c) ∧ (c ≤ maxLen) ∧ (Kd.C (Kd.int .i64) w A l.length l) ∧ (∀ p_ ∈ l, (Lit.int .i64 p_).wf = true) := by
  refine Go.Proofs.YtmmlahckcgjofaaW.PrintWords.open_rows (Kd.int .i64) 0 (fun p_ => (Lit.int .i64 p_).wf = true) Try.underlying22 (by kernel_rfl) (fun n_ cs_ y_ h_ => ?_) h
  obtain ⟨b_, e_, _, g_⟩ := DataW.trod_int Try.underlying3 h_
  exact ⟨b_, e_, g_⟩
theorem open_A22 {H : Type} {enc : TypeId × Value → H} {w : World} {r : Reach} {b0 : Nat} {base : Nat} {spare : Nat → Bool} {held : Bool} {v : Value} {d : DataW H} {p : List MemPlace} (hv : Value.okWide Try.prog w r b0 22 v) (h : DataW.Trod enc Try.prog w base spare held 22 v d p) : ∃ (A : Option Addr) (c : Nat) (l : List Int), v = .slice A l.length c ∧ (l.length ≤ c) ∧ (c ≤ maxLen) ∧ (Kd.C (Kd.int .i64) w A l.length l) ∧ (∀ p_ ∈ l, (Lit.int .i64 p_).wf = true) := by
  obtain ⟨a_, len_, cap_, rfl⟩ := okWide_slice Try.underlying22 hv
  obtain ⟨fuel, hf⟩ := h
  obtain ⟨A, c, l, e, hh⟩ := open_S22 hf
  have e' : [Value.slice a_ len_ cap_] = _ := e
  exact ⟨A, c, l, List.head_eq_of_cons_eq e', hh⟩
theorem list_len2 {α : Type} {cs : List α} (h : cs.length = 2) : ∃ c0 c1, cs = [c0, c1] := by
  match cs, h with
  | [c0, c1], _ => exact ⟨c0, c1, rfl⟩
theorem cells_T42 {H : Type} {enc : TypeId × Value → H} {w : World} {base : Nat} {spare : Nat → Bool} {held : Bool} {fuel : Nat} {cs : List Value} {x : DataW H × List MemPlace} (h : DataW.trod enc Try.prog w base spare held fuel 42 cs = some x) : ∃ (a0 : Bool) (a1 : Int), cs = [.bool a0, .int .i64 a1] ∧ ((Lit.int .i64 a1).wf = true) ∧ True := by
  obtain ⟨xs, n, _, _, hl, hxl, hf⟩ := DataW.trod_struct Try.underlying42 h
  have hl' : cs.length = 2 := hl.trans (by kernel_rfl)
  clear hl h
  have hxl' : xs.length = 2 := hxl
  obtain ⟨z0, z1, rfl⟩ := list_len2 hl'
  have h0 : DataW.trod enc Try.prog w base spare held n 4 (([z0, z1].drop (0)).take (Try.prog.cellsOf 4)) = xs[0]? := hf 0 _ rfl
  rw [show Try.prog.cellsOf 4 = 1 from by kernel_rfl, List.getElem?_eq_getElem (by omega)] at h0
  obtain ⟨a0, e0, _⟩ := DataW.trod_bool Try.underlying4 h0
  have q0 : z0 = .bool a0 := by simpa using e0
  clear e0 h0
  have h1 : DataW.trod enc Try.prog w base spare held n 3 (([z0, z1].drop (1)).take (Try.prog.cellsOf 3)) = xs[1]? := hf 1 _ rfl
  rw [show Try.prog.cellsOf 3 = 1 from by kernel_rfl, List.getElem?_eq_getElem (by omega)] at h1
  obtain ⟨a1, e1, _, g1⟩ := DataW.trod_int Try.underlying3 h1
  have q1 : z1 = .int .i64 a1 := by simpa using e1
  clear e1 h1
  obtain rfl := q0
  obtain rfl := q1
  exact ⟨a0, a1, rfl, g1, trivial⟩
theorem open_S23 {H : Type} {enc : TypeId × Value → H} {w : World} {base : Nat} {spare : Nat → Bool} {held : Bool} {fuel : Nat} {cs : List Value} {x : DataW H × List MemPlace} (h : DataW.trod enc Try.prog w base spare held fuel 23 cs = some x) : ∃ (A : Option Addr) (c : Nat) (l : List (S42)), cs = [.slice A l.length c] ∧ (l.length ≤ c) ∧ (c ≤ maxLen) ∧ (Kd.C k42 w A l.length l) ∧ (∀ p_ ∈ l, (Lit.int .i64 p_.f1).wf = true) := by
  refine Go.Proofs.YtmmlahckcgjofaaW.PrintWords.open_rows k42 z42 (fun p_ => (Lit.int .i64 p_.f1).wf = true) Try.underlying23 (by kernel_rfl) (fun n_ cs_ y_ h_ => ?_) h
  obtain ⟨a0, a1, e_, g1, _⟩ := cells_T42 h_
  subst e_
  exact ⟨(⟨a0, a1⟩ : S42), k42_mk w (⟨a0, a1⟩ : S42), g1⟩
theorem open_A23 {H : Type} {enc : TypeId × Value → H} {w : World} {r : Reach} {b0 : Nat} {base : Nat} {spare : Nat → Bool} {held : Bool} {v : Value} {d : DataW H} {p : List MemPlace} (hv : Value.okWide Try.prog w r b0 23 v) (h : DataW.Trod enc Try.prog w base spare held 23 v d p) : ∃ (A : Option Addr) (c : Nat) (l : List (S42)), v = .slice A l.length c ∧ (l.length ≤ c) ∧ (c ≤ maxLen) ∧ (Kd.C k42 w A l.length l) ∧ (∀ p_ ∈ l, (Lit.int .i64 p_.f1).wf = true) := by
  obtain ⟨a_, len_, cap_, rfl⟩ := okWide_slice Try.underlying23 hv
  obtain ⟨fuel, hf⟩ := h
  obtain ⟨A, c, l, e, hh⟩ := open_S23 hf
  have e' : [Value.slice a_ len_ cap_] = _ := e
  exact ⟨A, c, l, List.head_eq_of_cons_eq e', hh⟩
theorem cells_T49 {H : Type} {enc : TypeId × Value → H} {w : World} {base : Nat} {spare : Nat → Bool} {held : Bool} {fuel : Nat} {cs : List Value} {x : DataW H × List MemPlace} (h : DataW.trod enc Try.prog w base spare held fuel 49 cs = some x) : ∃ (a0 : Int) (a1 : Int), cs = [.int .i64 a0, .int .i64 a1] ∧ ((Lit.int .i64 a0).wf = true) ∧ ((Lit.int .i64 a1).wf = true) ∧ True := by
  obtain ⟨xs, n, _, _, hl, hxl, hf⟩ := DataW.trod_struct Try.underlying49 h
  have hl' : cs.length = 2 := hl.trans (by kernel_rfl)
  clear hl h
  have hxl' : xs.length = 2 := hxl
  obtain ⟨z0, z1, rfl⟩ := list_len2 hl'
  have h0 : DataW.trod enc Try.prog w base spare held n 3 (([z0, z1].drop (0)).take (Try.prog.cellsOf 3)) = xs[0]? := hf 0 _ rfl
  rw [show Try.prog.cellsOf 3 = 1 from by kernel_rfl, List.getElem?_eq_getElem (by omega)] at h0
  obtain ⟨a0, e0, _, g0⟩ := DataW.trod_int Try.underlying3 h0
  have q0 : z0 = .int .i64 a0 := by simpa using e0
  clear e0 h0
  have h1 : DataW.trod enc Try.prog w base spare held n 3 (([z0, z1].drop (1)).take (Try.prog.cellsOf 3)) = xs[1]? := hf 1 _ rfl
  rw [show Try.prog.cellsOf 3 = 1 from by kernel_rfl, List.getElem?_eq_getElem (by omega)] at h1
  obtain ⟨a1, e1, _, g1⟩ := DataW.trod_int Try.underlying3 h1
  have q1 : z1 = .int .i64 a1 := by simpa using e1
  clear e1 h1
  obtain rfl := q0
  obtain rfl := q1
  exact ⟨a0, a1, rfl, g0, g1, trivial⟩
theorem open_S24 {H : Type} {enc : TypeId × Value → H} {w : World} {base : Nat} {spare : Nat → Bool} {held : Bool} {fuel : Nat} {cs : List Value} {x : DataW H × List MemPlace} (h : DataW.trod enc Try.prog w base spare held fuel 24 cs = some x) : ∃ (A : Option Addr) (c : Nat) (l : List (S49)), cs = [.slice A l.length c] ∧ (l.length ≤ c) ∧ (c ≤ maxLen) ∧ (Kd.C k49 w A l.length l) ∧ (∀ p_ ∈ l, (Lit.int .i64 p_.f0).wf = true ∧ (Lit.int .i64 p_.f1).wf = true) := by
  refine Go.Proofs.YtmmlahckcgjofaaW.PrintWords.open_rows k49 z49 (fun p_ => (Lit.int .i64 p_.f0).wf = true ∧ (Lit.int .i64 p_.f1).wf = true) Try.underlying24 (by kernel_rfl) (fun n_ cs_ y_ h_ => ?_) h
  obtain ⟨a0, a1, e_, g0, g1, _⟩ := cells_T49 h_
  subst e_
  exact ⟨(⟨a0, a1⟩ : S49), k49_mk w (⟨a0, a1⟩ : S49), ⟨g0, g1⟩⟩
theorem open_A24 {H : Type} {enc : TypeId × Value → H} {w : World} {r : Reach} {b0 : Nat} {base : Nat} {spare : Nat → Bool} {held : Bool} {v : Value} {d : DataW H} {p : List MemPlace} (hv : Value.okWide Try.prog w r b0 24 v) (h : DataW.Trod enc Try.prog w base spare held 24 v d p) : ∃ (A : Option Addr) (c : Nat) (l : List (S49)), v = .slice A l.length c ∧ (l.length ≤ c) ∧ (c ≤ maxLen) ∧ (Kd.C k49 w A l.length l) ∧ (∀ p_ ∈ l, (Lit.int .i64 p_.f0).wf = true ∧ (Lit.int .i64 p_.f1).wf = true) := by
  obtain ⟨a_, len_, cap_, rfl⟩ := okWide_slice Try.underlying24 hv
  obtain ⟨fuel, hf⟩ := h
  obtain ⟨A, c, l, e, hh⟩ := open_S24 hf
  have e' : [Value.slice a_ len_ cap_] = _ := e
  exact ⟨A, c, l, List.head_eq_of_cons_eq e', hh⟩
set_option maxRecDepth 100000 in
theorem lifted (os : Os) (started : os.Started) (H : Type) (enc : TypeId × Value → H) :
    ReturnsInHanded {} Try.checked os 3 .any (Rows.powerFollowsSpec.pre6 enc Try.prog Try.f3 Rows.powerFollowsRow.domain false) (Rows.powerFollowsSpec.post enc Try.prog Try.f3 false true false false) := by
  refine returnsInHanded_of_change_sized (C := Try.checked) own started (by kernel_rfl) Try.func3
    (ChangeSpec.witness6 (enc := enc) (C := Try.checked) false ⟨#[], #[.slice none 0 0, .slice none 0 0, .slice none 0 0], []⟩ 8 (by kernel_rfl) (by kernel_rfl) (by kernel_rfl) (by kernel_rfl)) ?_
  intro W base args ds gs before hval0 hW hcnd hsz0 _
  have hsz : (DataW.weightsEach Try.prog (Try.f3.params.toList ++ Rows.powerFollowsSpec.plain.varTypes Try.prog) (ds ++ gs)).all (· ≤ reachBytes) = true := hsz0
  have hval : ∀ (j : Nat) t v, Try.f3.params[j]? = some t → args[j]? = some v → Value.okWide Try.prog W .any base t v := hval0
  have hW' := hW
  obtain ⟨p, q, hA0, hV, rfl, hfz, hnd⟩ := hW
  have hA : DataW.TrodAll enc Try.prog W 0 (fun _ => true) true Try.f3.params.toList args.toList ds p := hA0
  rw [Try.params3] at hA hval hsz
  obtain ⟨v0, vs0, d0, ds0, p0, q0, hargs, rfl, rfl, h0, r0⟩ := trodAll_cons hA
  obtain ⟨v1, vs1, d1, ds1, p1, q1, rfl, rfl, rfl, h1, r1⟩ := trodAll_cons r0
  obtain ⟨v2, vs2, d2, ds2, p2, q2, rfl, rfl, rfl, h2, r2⟩ := trodAll_cons r1
  obtain ⟨rfl, rfl, rfl⟩ := trodAll_nil r2
  obtain rfl : args = #[v0, v1, v2] := by cases args; simp_all
  obtain ⟨rfl, rfl⟩ := trodVars_none hV
  have k0 := h0
  have lt0 : ∀ x ∈ p0, x.block < W.heap.size := by obtain ⟨m, hm⟩ := k0; exact DataW.trod_lt m _ _ _ hm
  obtain ⟨A0, c0, l0, rfl, hl0, hm0, hr0, hw0⟩ := open_A22 (hval 0 22 v0 rfl rfl) k0
  have y0 : l0.length * 8 ≤ 140737488351232 := Go.Proofs.YtmmlahckcgjofaaW.PrintWords.sized_ints hsz (j := 0) (t := 22) rfl rfl Try.underlying22 Try.underlying3 (by kernel_rfl) (by kernel_rfl) k0
  have k1 := h1
  have lt1 : ∀ x ∈ p1, x.block < W.heap.size := by obtain ⟨m, hm⟩ := k1; exact DataW.trod_lt m _ _ _ hm
  obtain ⟨A1, c1, l1, rfl, hl1, hm1, hr1, hw1⟩ := open_A23 (hval 1 23 v1 rfl rfl) k1
  have k2 := h2
  have lt2 : ∀ x ∈ p2, x.block < W.heap.size := by obtain ⟨m, hm⟩ := k2; exact DataW.trod_lt m _ _ _ hm
  obtain ⟨A2, c2, l2, rfl, hl2, hm2, hr2, hw2⟩ := open_A24 (hval 2 24 v2 rfl rfl) k2
  clear hA0 hval0 hsz0 hsz
  refine (PPowerFollows.windhoverlaw14_PowerFollows.walk Pure.PowerFollows A0 c0 l0 A1 c1 l1 A2 c2 l2 W (Nat.le_trans hl0 hm0) hw0 y0 (Nat.le_trans hl1 hm1) hw1 (Nat.le_trans hl2 hm2) hw2 hr0 hl0 hr1 hl1 hr2 hl2).mono fun e W' ⟨he, bel⟩ => ?_
  subst he
  exact ⟨_, rfl, _, _, _, [], _, [], hW', trodAll_mk1 (shut_bool Try.underlying4 _), (trodAll_cons_mk (Below.trod laidOut (by kernel_rfl) (of_decide_eq_true (by kernel_rfl)) k0 bel lt0) (trodAll_cons_mk (Below.trod laidOut (by kernel_rfl) (of_decide_eq_true (by kernel_rfl)) k1 bel lt1) (trodAll_cons_mk (Below.trod laidOut (by kernel_rfl) (of_decide_eq_true (by kernel_rfl)) k2 bel lt2) trodAll_mk0))), rfl, bel.frame _, fun h => by cases h⟩
theorem over : Rows.powerFollowsRow.holds Try.pinned (OpenSpec.ofChange Rows.powerFollowsSpec) :=
  OpenClaim.holds_of_wide 3 Try.f3 rfl rfl rfl rfl rfl rfl rfl ⟨rfl, rfl, rfl, rfl, rfl⟩ rfl rfl rfl rfl rfl (by kernel_rfl) Try.func3 (by kernel_rfl)
    (of_decide_eq_true (by kernel_rfl)) (by unfold Func.isWrapper; first | (rw [if_pos (by decide +kernel)]; kernel_rfl) | (rw [if_neg (by decide +kernel)]; exact ⟨rfl, rfl⟩))
    (fun os started H enc _ => lifted os started H enc)
theorem proved : Rows.PowerFollowsSaid := over
#print axioms proved
end Go.Proofs.Ytmmlahckcgjofaa.powerFollows
namespace Go.Proofs.Ytmmlahckcgjofaa
/-- The row, under a short name, for the claim. -/
theorem powerFollows_holds : Rows.PowerFollowsSaid := powerFollows.proved
end Go.Proofs.Ytmmlahckcgjofaa
