-- WRITTEN BY wip/tools/aprint.py of this claim's repository over the kit's words: not typed by hand
import Derived.Test.YtbnliflfkljbfaaRows
import Derived.Test.YtbnliflfkljbfaaPControlSteersx14
import Derived.Test.YtbnliflfkljbfaaPureControlSteers
import Derived.WalkKit
import Derived.ProofKit
import Derived.OpenShut
import Derived.ShutString
import Derived.ChangeOld
import Derived.Below
import Derived.SizedLaws
import Derived.Test.YtbnliflfkljbfaaWSized
namespace Go.Proofs.Ytbnliflfkljbfaa.controlSteers
open Go.ChangeShapes Go.WideShapes Go.ChangeAt Go.RowKit
open Go.Proofs.YtbnliflfkljbfaaW.PrintWords Go.Proofs.Ytbnliflfkljbfaa.PControlSteers
open Go.ChangeMaps (open_string shut_string)
set_option linter.unusedVariables false
theorem own : ownKnob Try.prog.godebug = none := by kernel_rfl
theorem laidOut : laidOutB Try.prog = true := by kernel_rfl
theorem open_S29 {H : Type} {enc : TypeId × Value → H} {w : World} {base : Nat} {spare : Nat → Bool} {held : Bool} {fuel : Nat} {cs : List Value} {x : DataW H × List MemPlace} (h : DataW.trod enc Try.prog w base spare held fuel 29 cs = some x) : ∃ (A : Option Addr) (c : Nat) (l : List Int), cs = [.slice A l.length c] ∧ (l.length ≤ c) ∧ (c ≤ maxLen) ∧ (Kd.C (Kd.int .i64) w A l.length l) ∧ (∀ p_ ∈ l, (Lit.int .i64 p_).wf = true) := by
  refine Go.Proofs.YtbnliflfkljbfaaW.PrintWords.open_rows (Kd.int .i64) 0 (fun p_ => (Lit.int .i64 p_).wf = true) Try.underlying29 (by kernel_rfl) (fun n_ cs_ y_ h_ => ?_) h
  obtain ⟨b_, e_, _, g_⟩ := DataW.trod_int Try.underlying3 h_
  exact ⟨b_, e_, g_⟩
theorem open_A29 {H : Type} {enc : TypeId × Value → H} {w : World} {r : Reach} {b0 : Nat} {base : Nat} {spare : Nat → Bool} {held : Bool} {v : Value} {d : DataW H} {p : List MemPlace} (hv : Value.okWide Try.prog w r b0 29 v) (h : DataW.Trod enc Try.prog w base spare held 29 v d p) : ∃ (A : Option Addr) (c : Nat) (l : List Int), v = .slice A l.length c ∧ (l.length ≤ c) ∧ (c ≤ maxLen) ∧ (Kd.C (Kd.int .i64) w A l.length l) ∧ (∀ p_ ∈ l, (Lit.int .i64 p_).wf = true) := by
  obtain ⟨a_, len_, cap_, rfl⟩ := okWide_slice Try.underlying29 hv
  obtain ⟨fuel, hf⟩ := h
  obtain ⟨A, c, l, e, hh⟩ := open_S29 hf
  have e' : [Value.slice a_ len_ cap_] = _ := e
  exact ⟨A, c, l, List.head_eq_of_cons_eq e', hh⟩
theorem list_len3 {α : Type} {cs : List α} (h : cs.length = 3) : ∃ c0 c1 c2, cs = [c0, c1, c2] := by
  match cs, h with
  | [c0, c1, c2], _ => exact ⟨c0, c1, c2, rfl⟩
theorem cells_T41 {H : Type} {enc : TypeId × Value → H} {w : World} {base : Nat} {spare : Nat → Bool} {held : Bool} {fuel : Nat} {cs : List Value} {x : DataW H × List MemPlace} (h : DataW.trod enc Try.prog w base spare held fuel 41 cs = some x) : ∃ (a0 : Bool) (a1 : Int) (a2 : Int), cs = [.bool a0, .int .i64 a1, .int .i64 a2] ∧ ((Lit.int .i64 a1).wf = true) ∧ ((Lit.int .i64 a2).wf = true) ∧ True := by
  obtain ⟨xs, n, _, _, hl, hxl, hf⟩ := DataW.trod_struct Try.underlying41 h
  have hl' : cs.length = 3 := hl.trans (by kernel_rfl)
  clear hl h
  have hxl' : xs.length = 3 := hxl
  obtain ⟨z0, z1, z2, rfl⟩ := list_len3 hl'
  have h0 : DataW.trod enc Try.prog w base spare held n 4 (([z0, z1, z2].drop (0)).take (Try.prog.cellsOf 4)) = xs[0]? := hf 0 _ rfl
  rw [show Try.prog.cellsOf 4 = 1 from by kernel_rfl, List.getElem?_eq_getElem (by omega)] at h0
  obtain ⟨a0, e0, _⟩ := DataW.trod_bool Try.underlying4 h0
  have q0 : z0 = .bool a0 := by simpa using e0
  clear e0 h0
  have h1 : DataW.trod enc Try.prog w base spare held n 3 (([z0, z1, z2].drop (1)).take (Try.prog.cellsOf 3)) = xs[1]? := hf 1 _ rfl
  rw [show Try.prog.cellsOf 3 = 1 from by kernel_rfl, List.getElem?_eq_getElem (by omega)] at h1
  obtain ⟨a1, e1, _, g1⟩ := DataW.trod_int Try.underlying3 h1
  have q1 : z1 = .int .i64 a1 := by simpa using e1
  clear e1 h1
  have h2 : DataW.trod enc Try.prog w base spare held n 3 (([z0, z1, z2].drop (2)).take (Try.prog.cellsOf 3)) = xs[2]? := hf 2 _ rfl
  rw [show Try.prog.cellsOf 3 = 1 from by kernel_rfl, List.getElem?_eq_getElem (by omega)] at h2
  obtain ⟨a2, e2, _, g2⟩ := DataW.trod_int Try.underlying3 h2
  have q2 : z2 = .int .i64 a2 := by simpa using e2
  clear e2 h2
  obtain rfl := q0
  obtain rfl := q1
  obtain rfl := q2
  exact ⟨a0, a1, a2, rfl, g1, g2, trivial⟩
theorem list_len9 {α : Type} {cs : List α} (h : cs.length = 9) : ∃ c0 c1 c2 c3 c4 c5 c6 c7 c8, cs = [c0, c1, c2, c3, c4, c5, c6, c7, c8] := by
  match cs, h with
  | [c0, c1, c2, c3, c4, c5, c6, c7, c8], _ => exact ⟨c0, c1, c2, c3, c4, c5, c6, c7, c8, rfl⟩
theorem cells_T42 {H : Type} {enc : TypeId × Value → H} {w : World} {base : Nat} {spare : Nat → Bool} {held : Bool} {fuel : Nat} {cs : List Value} {x : DataW H × List MemPlace} (h : DataW.trod enc Try.prog w base spare held fuel 42 cs = some x) : ∃ (a0 : Bool) (a1 : Int) (a2 : Int) (a3 : Bool) (a4 : Int) (a5 : Int) (a6 : Bool) (a7 : Int) (a8 : Int), cs = [.bool a0, .int .i64 a1, .int .i64 a2, .bool a3, .int .i64 a4, .int .i64 a5, .bool a6, .int .i64 a7, .int .i64 a8] ∧ ((Lit.int .i64 a1).wf = true) ∧ ((Lit.int .i64 a2).wf = true) ∧ ((Lit.int .i64 a4).wf = true) ∧ ((Lit.int .i64 a5).wf = true) ∧ ((Lit.int .i64 a7).wf = true) ∧ ((Lit.int .i64 a8).wf = true) ∧ True := by
  obtain ⟨xs, n, _, _, hl, hxl, hf⟩ := DataW.trod_array Try.underlying42 h
  have hl' : cs.length = 9 := hl.trans (by kernel_rfl)
  clear hl h
  have hxl' : xs.length = 3 := hxl
  obtain ⟨z0, z1, z2, z3, z4, z5, z6, z7, z8, rfl⟩ := list_len9 hl'
  have h0 : DataW.trod enc Try.prog w base spare held n 41 (([z0, z1, z2, z3, z4, z5, z6, z7, z8].drop (0 * Try.prog.cellsOf 41)).take (Try.prog.cellsOf 41)) = xs[0]? := hf 0 (by decide)
  rw [show Try.prog.cellsOf 41 = 3 from by kernel_rfl, List.getElem?_eq_getElem (by omega)] at h0
  obtain ⟨a0, a1, a2, e0, g1, g2, _⟩ := cells_T41 h0
  have q0 : z0 = .bool a0 ∧ z1 = .int .i64 a1 ∧ z2 = .int .i64 a2 := by simpa using e0
  clear e0 h0
  have h1 : DataW.trod enc Try.prog w base spare held n 41 (([z0, z1, z2, z3, z4, z5, z6, z7, z8].drop (1 * Try.prog.cellsOf 41)).take (Try.prog.cellsOf 41)) = xs[1]? := hf 1 (by decide)
  rw [show Try.prog.cellsOf 41 = 3 from by kernel_rfl, List.getElem?_eq_getElem (by omega)] at h1
  obtain ⟨a3, a4, a5, e1, g4, g5, _⟩ := cells_T41 h1
  have q1 : z3 = .bool a3 ∧ z4 = .int .i64 a4 ∧ z5 = .int .i64 a5 := by simpa using e1
  clear e1 h1
  have h2 : DataW.trod enc Try.prog w base spare held n 41 (([z0, z1, z2, z3, z4, z5, z6, z7, z8].drop (2 * Try.prog.cellsOf 41)).take (Try.prog.cellsOf 41)) = xs[2]? := hf 2 (by decide)
  rw [show Try.prog.cellsOf 41 = 3 from by kernel_rfl, List.getElem?_eq_getElem (by omega)] at h2
  obtain ⟨a6, a7, a8, e2, g7, g8, _⟩ := cells_T41 h2
  have q2 : z6 = .bool a6 ∧ z7 = .int .i64 a7 ∧ z8 = .int .i64 a8 := by simpa using e2
  clear e2 h2
  obtain ⟨rfl, rfl, rfl⟩ := q0
  obtain ⟨rfl, rfl, rfl⟩ := q1
  obtain ⟨rfl, rfl, rfl⟩ := q2
  exact ⟨a0, a1, a2, a3, a4, a5, a6, a7, a8, rfl, g1, g2, g4, g5, g7, g8, trivial⟩
theorem cells_T37 {H : Type} {enc : TypeId × Value → H} {w : World} {base : Nat} {spare : Nat → Bool} {held : Bool} {fuel : Nat} {cs : List Value} {x : DataW H × List MemPlace} (h : DataW.trod enc Try.prog w base spare held fuel 37 cs = some x) : ∃ (a0 : Int) (a1 : Int) (a2 : Int), cs = [.int .i64 a0, .int .i64 a1, .int .i64 a2] ∧ ((Lit.int .i64 a0).wf = true) ∧ ((Lit.int .i64 a1).wf = true) ∧ ((Lit.int .i64 a2).wf = true) ∧ True := by
  obtain ⟨xs, n, _, _, hl, hxl, hf⟩ := DataW.trod_array Try.underlying37 h
  have hl' : cs.length = 3 := hl.trans (by kernel_rfl)
  clear hl h
  have hxl' : xs.length = 3 := hxl
  obtain ⟨z0, z1, z2, rfl⟩ := list_len3 hl'
  have h0 : DataW.trod enc Try.prog w base spare held n 3 (([z0, z1, z2].drop (0 * Try.prog.cellsOf 3)).take (Try.prog.cellsOf 3)) = xs[0]? := hf 0 (by decide)
  rw [show Try.prog.cellsOf 3 = 1 from by kernel_rfl, List.getElem?_eq_getElem (by omega)] at h0
  obtain ⟨a0, e0, _, g0⟩ := DataW.trod_int Try.underlying3 h0
  have q0 : z0 = .int .i64 a0 := by simpa using e0
  clear e0 h0
  have h1 : DataW.trod enc Try.prog w base spare held n 3 (([z0, z1, z2].drop (1 * Try.prog.cellsOf 3)).take (Try.prog.cellsOf 3)) = xs[1]? := hf 1 (by decide)
  rw [show Try.prog.cellsOf 3 = 1 from by kernel_rfl, List.getElem?_eq_getElem (by omega)] at h1
  obtain ⟨a1, e1, _, g1⟩ := DataW.trod_int Try.underlying3 h1
  have q1 : z1 = .int .i64 a1 := by simpa using e1
  clear e1 h1
  have h2 : DataW.trod enc Try.prog w base spare held n 3 (([z0, z1, z2].drop (2 * Try.prog.cellsOf 3)).take (Try.prog.cellsOf 3)) = xs[2]? := hf 2 (by decide)
  rw [show Try.prog.cellsOf 3 = 1 from by kernel_rfl, List.getElem?_eq_getElem (by omega)] at h2
  obtain ⟨a2, e2, _, g2⟩ := DataW.trod_int Try.underlying3 h2
  have q2 : z2 = .int .i64 a2 := by simpa using e2
  clear e2 h2
  obtain rfl := q0
  obtain rfl := q1
  obtain rfl := q2
  exact ⟨a0, a1, a2, rfl, g0, g1, g2, trivial⟩
theorem list_len16 {α : Type} {cs : List α} (h : cs.length = 16) : ∃ c0 c1 c2 c3 c4 c5 c6 c7 c8 c9 c10 c11 c12 c13 c14 c15, cs = [c0, c1, c2, c3, c4, c5, c6, c7, c8, c9, c10, c11, c12, c13, c14, c15] := by
  match cs, h with
  | [c0, c1, c2, c3, c4, c5, c6, c7, c8, c9, c10, c11, c12, c13, c14, c15], _ => exact ⟨c0, c1, c2, c3, c4, c5, c6, c7, c8, c9, c10, c11, c12, c13, c14, c15, rfl⟩
theorem cells_T52 {H : Type} {enc : TypeId × Value → H} {w : World} {base : Nat} {spare : Nat → Bool} {held : Bool} {fuel : Nat} {cs : List Value} {x : DataW H × List MemPlace} (h : DataW.trod enc Try.prog w base spare held fuel 52 cs = some x) : ∃ (a0 : Bool) (a1 : Int) (a2 : Int) (a3 : Bool) (a4 : Int) (a5 : Int) (a6 : Bool) (a7 : Int) (a8 : Int) (a9 : Int) (a10 : Int) (a11 : Int) (a12 : Int) (a13 : Int) (a14 : Int) (a15 : Bool), cs = [.bool a0, .int .i64 a1, .int .i64 a2, .bool a3, .int .i64 a4, .int .i64 a5, .bool a6, .int .i64 a7, .int .i64 a8, .int .i64 a9, .int .i64 a10, .int .i64 a11, .int .i64 a12, .int .i64 a13, .int .i64 a14, .bool a15] ∧ ((Lit.int .i64 a1).wf = true) ∧ ((Lit.int .i64 a2).wf = true) ∧ ((Lit.int .i64 a4).wf = true) ∧ ((Lit.int .i64 a5).wf = true) ∧ ((Lit.int .i64 a7).wf = true) ∧ ((Lit.int .i64 a8).wf = true) ∧ ((Lit.int .i64 a9).wf = true) ∧ ((Lit.int .i64 a10).wf = true) ∧ ((Lit.int .i64 a11).wf = true) ∧ ((Lit.int .i64 a12).wf = true) ∧ ((Lit.int .i64 a13).wf = true) ∧ ((Lit.int .i64 a14).wf = true) ∧ True := by
  obtain ⟨xs, n, _, _, hl, hxl, hf⟩ := DataW.trod_struct Try.underlying52 h
  have hl' : cs.length = 16 := hl.trans (by kernel_rfl)
  clear hl h
  have hxl' : xs.length = 4 := hxl
  obtain ⟨z0, z1, z2, z3, z4, z5, z6, z7, z8, z9, z10, z11, z12, z13, z14, z15, rfl⟩ := list_len16 hl'
  have h0 : DataW.trod enc Try.prog w base spare held n 42 (([z0, z1, z2, z3, z4, z5, z6, z7, z8, z9, z10, z11, z12, z13, z14, z15].drop (0)).take (Try.prog.cellsOf 42)) = xs[0]? := hf 0 _ rfl
  rw [show Try.prog.cellsOf 42 = 9 from by kernel_rfl, List.getElem?_eq_getElem (by omega)] at h0
  obtain ⟨a0, a1, a2, a3, a4, a5, a6, a7, a8, e0, g1, g2, g4, g5, g7, g8, _⟩ := cells_T42 h0
  have q0 : z0 = .bool a0 ∧ z1 = .int .i64 a1 ∧ z2 = .int .i64 a2 ∧ z3 = .bool a3 ∧ z4 = .int .i64 a4 ∧ z5 = .int .i64 a5 ∧ z6 = .bool a6 ∧ z7 = .int .i64 a7 ∧ z8 = .int .i64 a8 := by simpa using e0
  clear e0 h0
  have h1 : DataW.trod enc Try.prog w base spare held n 37 (([z0, z1, z2, z3, z4, z5, z6, z7, z8, z9, z10, z11, z12, z13, z14, z15].drop (9)).take (Try.prog.cellsOf 37)) = xs[1]? := hf 1 _ rfl
  rw [show Try.prog.cellsOf 37 = 3 from by kernel_rfl, List.getElem?_eq_getElem (by omega)] at h1
  obtain ⟨a9, a10, a11, e1, g9, g10, g11, _⟩ := cells_T37 h1
  have q1 : z9 = .int .i64 a9 ∧ z10 = .int .i64 a10 ∧ z11 = .int .i64 a11 := by simpa using e1
  clear e1 h1
  have h2 : DataW.trod enc Try.prog w base spare held n 37 (([z0, z1, z2, z3, z4, z5, z6, z7, z8, z9, z10, z11, z12, z13, z14, z15].drop (12)).take (Try.prog.cellsOf 37)) = xs[2]? := hf 2 _ rfl
  rw [show Try.prog.cellsOf 37 = 3 from by kernel_rfl, List.getElem?_eq_getElem (by omega)] at h2
  obtain ⟨a12, a13, a14, e2, g12, g13, g14, _⟩ := cells_T37 h2
  have q2 : z12 = .int .i64 a12 ∧ z13 = .int .i64 a13 ∧ z14 = .int .i64 a14 := by simpa using e2
  clear e2 h2
  have h3 : DataW.trod enc Try.prog w base spare held n 4 (([z0, z1, z2, z3, z4, z5, z6, z7, z8, z9, z10, z11, z12, z13, z14, z15].drop (15)).take (Try.prog.cellsOf 4)) = xs[3]? := hf 3 _ rfl
  rw [show Try.prog.cellsOf 4 = 1 from by kernel_rfl, List.getElem?_eq_getElem (by omega)] at h3
  obtain ⟨a15, e3, _⟩ := DataW.trod_bool Try.underlying4 h3
  have q3 : z15 = .bool a15 := by simpa using e3
  clear e3 h3
  obtain ⟨rfl, rfl, rfl, rfl, rfl, rfl, rfl, rfl, rfl⟩ := q0
  obtain ⟨rfl, rfl, rfl⟩ := q1
  obtain ⟨rfl, rfl, rfl⟩ := q2
  obtain rfl := q3
  exact ⟨a0, a1, a2, a3, a4, a5, a6, a7, a8, a9, a10, a11, a12, a13, a14, a15, rfl, g1, g2, g4, g5, g7, g8, g9, g10, g11, g12, g13, g14, trivial⟩
theorem open_S45 {H : Type} {enc : TypeId × Value → H} {w : World} {base : Nat} {spare : Nat → Bool} {held : Bool} {fuel : Nat} {cs : List Value} {x : DataW H × List MemPlace} (h : DataW.trod enc Try.prog w base spare held fuel 45 cs = some x) : ∃ (A : Option Addr) (c : Nat) (l : List (S52)), cs = [.slice A l.length c] ∧ (l.length ≤ c) ∧ (c ≤ maxLen) ∧ (Kd.C k52 w A l.length l) ∧ (∀ p_ ∈ l, (Lit.int .i64 p_.f0.f0.f1).wf = true ∧ (Lit.int .i64 p_.f0.f0.f2).wf = true ∧ (Lit.int .i64 p_.f0.f1.f1).wf = true ∧ (Lit.int .i64 p_.f0.f1.f2).wf = true ∧ (Lit.int .i64 p_.f0.f2.f1).wf = true ∧ (Lit.int .i64 p_.f0.f2.f2).wf = true ∧ (Lit.int .i64 p_.f1.f0).wf = true ∧ (Lit.int .i64 p_.f1.f1).wf = true ∧ (Lit.int .i64 p_.f1.f2).wf = true ∧ (Lit.int .i64 p_.f2.f0).wf = true ∧ (Lit.int .i64 p_.f2.f1).wf = true ∧ (Lit.int .i64 p_.f2.f2).wf = true) := by
  refine Go.Proofs.YtbnliflfkljbfaaW.PrintWords.open_rows k52 z52 (fun p_ => (Lit.int .i64 p_.f0.f0.f1).wf = true ∧ (Lit.int .i64 p_.f0.f0.f2).wf = true ∧ (Lit.int .i64 p_.f0.f1.f1).wf = true ∧ (Lit.int .i64 p_.f0.f1.f2).wf = true ∧ (Lit.int .i64 p_.f0.f2.f1).wf = true ∧ (Lit.int .i64 p_.f0.f2.f2).wf = true ∧ (Lit.int .i64 p_.f1.f0).wf = true ∧ (Lit.int .i64 p_.f1.f1).wf = true ∧ (Lit.int .i64 p_.f1.f2).wf = true ∧ (Lit.int .i64 p_.f2.f0).wf = true ∧ (Lit.int .i64 p_.f2.f1).wf = true ∧ (Lit.int .i64 p_.f2.f2).wf = true) Try.underlying45 (by kernel_rfl) (fun n_ cs_ y_ h_ => ?_) h
  obtain ⟨a0, a1, a2, a3, a4, a5, a6, a7, a8, a9, a10, a11, a12, a13, a14, a15, e_, g1, g2, g4, g5, g7, g8, g9, g10, g11, g12, g13, g14, _⟩ := cells_T52 h_
  subst e_
  exact ⟨(⟨(⟨(⟨a0, a1, a2⟩ : S41), (⟨a3, a4, a5⟩ : S41), (⟨a6, a7, a8⟩ : S41)⟩ : S42), (⟨a9, a10, a11⟩ : S37), (⟨a12, a13, a14⟩ : S37), a15⟩ : S52), k52_mk w (⟨(⟨(⟨a0, a1, a2⟩ : S41), (⟨a3, a4, a5⟩ : S41), (⟨a6, a7, a8⟩ : S41)⟩ : S42), (⟨a9, a10, a11⟩ : S37), (⟨a12, a13, a14⟩ : S37), a15⟩ : S52), ⟨g1, g2, g4, g5, g7, g8, g9, g10, g11, g12, g13, g14⟩⟩
theorem open_A45 {H : Type} {enc : TypeId × Value → H} {w : World} {r : Reach} {b0 : Nat} {base : Nat} {spare : Nat → Bool} {held : Bool} {v : Value} {d : DataW H} {p : List MemPlace} (hv : Value.okWide Try.prog w r b0 45 v) (h : DataW.Trod enc Try.prog w base spare held 45 v d p) : ∃ (A : Option Addr) (c : Nat) (l : List (S52)), v = .slice A l.length c ∧ (l.length ≤ c) ∧ (c ≤ maxLen) ∧ (Kd.C k52 w A l.length l) ∧ (∀ p_ ∈ l, (Lit.int .i64 p_.f0.f0.f1).wf = true ∧ (Lit.int .i64 p_.f0.f0.f2).wf = true ∧ (Lit.int .i64 p_.f0.f1.f1).wf = true ∧ (Lit.int .i64 p_.f0.f1.f2).wf = true ∧ (Lit.int .i64 p_.f0.f2.f1).wf = true ∧ (Lit.int .i64 p_.f0.f2.f2).wf = true ∧ (Lit.int .i64 p_.f1.f0).wf = true ∧ (Lit.int .i64 p_.f1.f1).wf = true ∧ (Lit.int .i64 p_.f1.f2).wf = true ∧ (Lit.int .i64 p_.f2.f0).wf = true ∧ (Lit.int .i64 p_.f2.f1).wf = true ∧ (Lit.int .i64 p_.f2.f2).wf = true) := by
  obtain ⟨a_, len_, cap_, rfl⟩ := okWide_slice Try.underlying45 hv
  obtain ⟨fuel, hf⟩ := h
  obtain ⟨A, c, l, e, hh⟩ := open_S45 hf
  have e' : [Value.slice a_ len_ cap_] = _ := e
  exact ⟨A, c, l, List.head_eq_of_cons_eq e', hh⟩
set_option maxRecDepth 100000 in
theorem lifted (os : Os) (started : os.Started) (H : Type) (enc : TypeId × Value → H) :
    ReturnsInHanded {} Try.checked os 7 .any (Rows.controlSteersSpec.pre6 enc Try.prog Try.f7 Rows.controlSteersRow.domain false) (Rows.controlSteersSpec.post enc Try.prog Try.f7 false true false false) := by
  refine returnsInHanded_of_change_sized (C := Try.checked) own started (by kernel_rfl) Try.func7
    (ChangeSpec.witness6 (enc := enc) (C := Try.checked) false ⟨#[], #[.slice none 0 0, .slice none 0 0], []⟩ 8 (by kernel_rfl) (by kernel_rfl) (by kernel_rfl) (by kernel_rfl)) ?_
  intro W base args ds gs before hval0 hW hcnd hsz0 _
  have hsz : (DataW.weightsEach Try.prog (Try.f7.params.toList ++ Rows.controlSteersSpec.plain.varTypes Try.prog) (ds ++ gs)).all (· ≤ reachBytes) = true := hsz0
  have hval : ∀ (j : Nat) t v, Try.f7.params[j]? = some t → args[j]? = some v → Value.okWide Try.prog W .any base t v := hval0
  have hW' := hW
  obtain ⟨p, q, hA0, hV, rfl, hfz, hnd⟩ := hW
  have hA : DataW.TrodAll enc Try.prog W 0 (fun _ => true) true Try.f7.params.toList args.toList ds p := hA0
  rw [Try.params7] at hA hval hsz
  obtain ⟨v0, vs0, d0, ds0, p0, q0, hargs, rfl, rfl, h0, r0⟩ := trodAll_cons hA
  obtain ⟨v1, vs1, d1, ds1, p1, q1, rfl, rfl, rfl, h1, r1⟩ := trodAll_cons r0
  obtain ⟨rfl, rfl, rfl⟩ := trodAll_nil r1
  obtain rfl : args = #[v0, v1] := by cases args; simp_all
  obtain ⟨rfl, rfl⟩ := trodVars_none hV
  have k0 := h0
  have lt0 : ∀ x ∈ p0, x.block < W.heap.size := by obtain ⟨m, hm⟩ := k0; exact DataW.trod_lt m _ _ _ hm
  obtain ⟨A0, c0, l0, rfl, hl0, hm0, hr0, hw0⟩ := open_A29 (hval 0 29 v0 rfl rfl) k0
  have y0 : l0.length * 8 ≤ 140737488351232 := Go.Proofs.YtbnliflfkljbfaaW.PrintWords.sized_ints hsz (j := 0) (t := 29) rfl rfl Try.underlying29 Try.underlying3 (by kernel_rfl) (by kernel_rfl) k0
  have k1 := h1
  have lt1 : ∀ x ∈ p1, x.block < W.heap.size := by obtain ⟨m, hm⟩ := k1; exact DataW.trod_lt m _ _ _ hm
  obtain ⟨A1, c1, l1, rfl, hl1, hm1, hr1, hw1⟩ := open_A45 (hval 1 45 v1 rfl rfl) k1
  clear hA0 hval0 hsz0 hsz
  refine (PControlSteers.windhoverlaw17_ControlSteers.walk Pure.ControlSteers A0 c0 l0 A1 c1 l1 W (Nat.le_trans hl0 hm0) hw0 y0 (Nat.le_trans hl1 hm1) hw1 hr0 hl0 hr1 hl1).mono fun e W' ⟨he, bel⟩ => ?_
  subst he
  exact ⟨_, rfl, _, _, _, [], _, [], hW', trodAll_mk1 (shut_bool Try.underlying4 _), (trodAll_cons_mk (Below.trod laidOut (by kernel_rfl) (of_decide_eq_true (by kernel_rfl)) k0 bel lt0) (trodAll_cons_mk (Below.trod laidOut (by kernel_rfl) (of_decide_eq_true (by kernel_rfl)) k1 bel lt1) trodAll_mk0)), rfl, bel.frame _, fun h => by cases h⟩
theorem over : Rows.controlSteersRow.holds Try.pinned (OpenSpec.ofChange Rows.controlSteersSpec) :=
  OpenClaim.holds_of_wide 7 Try.f7 rfl rfl rfl rfl rfl rfl rfl ⟨rfl, rfl, rfl, rfl, rfl⟩ rfl rfl rfl rfl rfl (by kernel_rfl) Try.func7 (by kernel_rfl)
    (of_decide_eq_true (by kernel_rfl)) (by unfold Func.isWrapper; first | (rw [if_pos (by decide +kernel)]; kernel_rfl) | (rw [if_neg (by decide +kernel)]; exact ⟨rfl, rfl⟩))
    (fun os started H enc _ => lifted os started H enc)
theorem proved : Rows.ControlSteersSaid := over
#print axioms proved
end Go.Proofs.Ytbnliflfkljbfaa.controlSteers
namespace Go.Proofs.Ytbnliflfkljbfaa
/-- The row, under a short name, for the claim. -/
theorem controlSteers_holds : Rows.ControlSteersSaid := controlSteers.proved
end Go.Proofs.Ytbnliflfkljbfaa
