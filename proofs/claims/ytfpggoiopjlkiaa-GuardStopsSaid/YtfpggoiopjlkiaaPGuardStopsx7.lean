-- WRITTEN BY wip/tools/aprint.py of this claim's repository over the kit's words: not typed by hand
import Derived.Test.YtfpggoiopjlkiaaPGuardStopsx0
import Derived.Test.YtfpggoiopjlkiaaPGuardStopsx4
import Derived.Test.YtfpggoiopjlkiaaPGuardStopsx5
import Derived.Test.YtfpggoiopjlkiaaPGuardStopsx6
namespace Go.Proofs.Ytfpggoiopjlkiaa.PGuardStops
open Go.RowKit Go.Proofs.YtfpggoiopjlkiaaW.PrintWords Go.Proofs.YtfpggoiopjlkiaaW.PrintLast Go.Proofs.YtfpggoiopjlkiaaW.PrintMore
attribute [local go_sem] max2_int min2_int max_two min_two max_three min_three max_four min_four   -- for this text's walks alone
set_option linter.unusedVariables false
set_option linter.unusedSimpArgs false

/-! ### windhoverref18_Stop: function 10 -/
mutual
def windhoverref18_Stop.j0 : Nat → Int → Int → Bool → Option (Int)
  | 0, _, _, _ => none
  | k + 1, x0, x1, x20 => if x20 = true then (some 0) else (if x1 = 0 then (none) else ((windhoverref00_Of.f k (wrap64 (Int.tdiv x0 x1))).bind fun bt207 => ((windhoverref00_Of.f k x0).bind fun bt211 => ((windhoverref00_Times.f k bt207.1 bt207.2 bt211.1 bt211.2).bind fun bt215 => ((windhoverref00_Of.f k (wrap64 (Int.tdiv x0 x1))).bind fun bt220 => ((windhoverref00_Of.f k (wrap64 (Int.tdiv x0 x1))).bind fun bt224 => ((windhoverref00_Of.f k 1).bind fun bt228 => ((windhoverref00_Plus.f k bt224.1 bt224.2 bt228.1 bt228.2).bind fun bt232 => ((windhoverref00_Times.f k bt220.1 bt220.2 bt232.1 bt232.2).bind fun bt236 => ((windhoverref00_Of.f k x1).bind fun bt241 => ((windhoverref00_Times.f k bt241.1 bt241.2 bt236.1 bt236.2).bind fun bt245 => ((windhoverref00_Plus.f k bt215.1 bt215.2 bt215.1 bt215.2).bind fun bt250 => ((windhoverref00_Minus.f k bt250.1 bt250.2 bt245.1 bt245.2).bind fun bt254 => ((windhoverref00_Of.f k 9223372036854775807).bind fun bt259 => ((windhoverref00_Of.f k 9223372036854775807).bind fun bt263 => ((windhoverref00_Plus.f k bt259.1 bt259.2 bt263.1 bt263.2).bind fun bt267 => ((windhoverref00_Cmp.f k bt254.1 bt254.2 bt267.1 bt267.2).bind fun t272 => (if t272 ≥ 0 then (some 9223372036854775807) else (windhoverref18_Stop.l0 k 0 9223372036854775807 bt254.1 bt254.2)))))))))))))))))))
def windhoverref18_Stop.l0 : Nat → Int → Int → Bool → List Int → Option (Int)
  | 0, _, _, _, _ => none
  | k + 1, x11, x12, x259000, x259001 => if x11 < x12 then ((windhoverref00_Of.f k (wrap64 (x11 + (wrap64 (Int.tdiv (wrap64 (x12 - x11)) 2))))).bind fun bt273 => ((windhoverref00_Plus.f k bt273.1 bt273.2 bt273.1 bt273.2).bind fun bt278 => ((windhoverref00_Cmp.f k bt278.1 bt278.2 x259000 x259001).bind fun t282 => (if t282 ≥ 0 then (windhoverref18_Stop.l0 k x11 (wrap64 (x11 + (wrap64 (Int.tdiv (wrap64 (x12 - x11)) 2)))) x259000 x259001) else (windhoverref18_Stop.l0 k (wrap64 ((wrap64 (x11 + (wrap64 (Int.tdiv (wrap64 (x12 - x11)) 2)))) + 1)) x12 x259000 x259001))))) else (some x11)
end
def windhoverref18_Stop.f (k : Nat) (a0 : Int) (a1 : Int) : Option (Int) := if a0 < 1 then (windhoverref18_Stop.j0 k a0 a1 true) else (windhoverref18_Stop.j0 k a0 a1 (decide (a1 < 1)))
theorem windhoverref18_Stop.mono_l : ∀ k, (∀ y0 y1 y2, LeO (windhoverref18_Stop.j0 k y0 y1 y2) (windhoverref18_Stop.j0 (k + 1) y0 y1 y2)) ∧ (∀ y0 y1 y2 y3, LeO (windhoverref18_Stop.l0 k y0 y1 y2 y3) (windhoverref18_Stop.l0 (k + 1) y0 y1 y2 y3))
  | 0 => ⟨fun _ _ _ r h => by simp [windhoverref18_Stop.j0] at h, fun _ _ _ _ r h => by simp [windhoverref18_Stop.l0] at h⟩
  | k + 1 => by
    obtain ⟨ih0, ih1⟩ := windhoverref18_Stop.mono_l k
    refine ⟨?_, ?_⟩
    · intro y0 y1 y2
      unfold windhoverref18_Stop.j0
      repeat' first
      | (with_reducible exact ih0 _ _ _)
      | (with_reducible exact ih1 _ _ _ _)
      | (with_reducible exact windhoverref00_Cmp.mono _ _ _ _ _)
      | (with_reducible exact windhoverref00_Minus.mono _ _ _ _ _)
      | (with_reducible exact windhoverref00_Of.mono _ _)
      | (with_reducible exact windhoverref00_Plus.mono _ _ _ _ _)
      | (with_reducible exact windhoverref00_Times.mono _ _ _ _ _)
      | (with_reducible exact LeO.refl _)
      | (with_reducible exact LeO.none _)
      | (with_reducible refine LeO.ite ?_ ?_)
      | (with_reducible refine LeO.bind ?_ (fun _ => ?_))
      | exact ih0 _ _ _
      | exact ih1 _ _ _ _
      | exact windhoverref00_Cmp.mono _ _ _ _ _
      | exact windhoverref00_Minus.mono _ _ _ _ _
      | exact windhoverref00_Of.mono _ _
      | exact windhoverref00_Plus.mono _ _ _ _ _
      | exact windhoverref00_Times.mono _ _ _ _ _
      | exact LeO.none _
      | refine LeO.ite ?_ ?_
      | refine LeO.bind ?_ (fun _ => ?_)
    · intro y0 y1 y2 y3
      unfold windhoverref18_Stop.l0
      repeat' first
      | (with_reducible exact ih0 _ _ _)
      | (with_reducible exact ih1 _ _ _ _)
      | (with_reducible exact windhoverref00_Cmp.mono _ _ _ _ _)
      | (with_reducible exact windhoverref00_Minus.mono _ _ _ _ _)
      | (with_reducible exact windhoverref00_Of.mono _ _)
      | (with_reducible exact windhoverref00_Plus.mono _ _ _ _ _)
      | (with_reducible exact windhoverref00_Times.mono _ _ _ _ _)
      | (with_reducible exact LeO.refl _)
      | (with_reducible exact LeO.none _)
      | (with_reducible refine LeO.ite ?_ ?_)
      | (with_reducible refine LeO.bind ?_ (fun _ => ?_))
      | exact ih0 _ _ _
      | exact ih1 _ _ _ _
      | exact windhoverref00_Cmp.mono _ _ _ _ _
      | exact windhoverref00_Minus.mono _ _ _ _ _
      | exact windhoverref00_Of.mono _ _
      | exact windhoverref00_Plus.mono _ _ _ _ _
      | exact windhoverref00_Times.mono _ _ _ _ _
      | exact LeO.none _
      | refine LeO.ite ?_ ?_
      | refine LeO.bind ?_ (fun _ => ?_)
theorem windhoverref18_Stop.mono : ∀ a0 a1 k, LeO (windhoverref18_Stop.f k a0 a1) (windhoverref18_Stop.f (k + 1) a0 a1) := by
  intro a0 a1 k
  obtain ⟨ih0, ih1⟩ := windhoverref18_Stop.mono_l k
  unfold windhoverref18_Stop.f
  repeat' first
      | (with_reducible exact ih0 _ _ _)
      | (with_reducible exact ih1 _ _ _ _)
      | (with_reducible exact windhoverref00_Cmp.mono _ _ _ _ _)
      | (with_reducible exact windhoverref00_Minus.mono _ _ _ _ _)
      | (with_reducible exact windhoverref00_Of.mono _ _)
      | (with_reducible exact windhoverref00_Plus.mono _ _ _ _ _)
      | (with_reducible exact windhoverref00_Times.mono _ _ _ _ _)
      | (with_reducible exact LeO.refl _)
      | (with_reducible exact LeO.none _)
      | (with_reducible refine LeO.ite ?_ ?_)
      | (with_reducible refine LeO.bind ?_ (fun _ => ?_))
      | exact ih0 _ _ _
      | exact ih1 _ _ _ _
      | exact windhoverref00_Cmp.mono _ _ _ _ _
      | exact windhoverref00_Minus.mono _ _ _ _ _
      | exact windhoverref00_Of.mono _ _
      | exact windhoverref00_Plus.mono _ _ _ _ _
      | exact windhoverref00_Times.mono _ _ _ _ _
      | exact LeO.none _
      | refine LeO.ite ?_ ?_
      | refine LeO.bind ?_ (fun _ => ?_)
/-- A number of any length that is only read. -/
def Wh (W : World) (s : Bool) (d : List Int) (v : Value) : Prop := ∃ A c, v = .agg #[.bool s, .slice A d.length c] ∧ d.length ≤ c ∧ Kd.C (Kd.int .i64) W A d.length d
theorem Wh.below {W W1 : World} {s : Bool} {d : List Int} {v : Value} (h : Wh W s d v) (hb : Below W.heap.size W W1) : Wh W1 s d v := by
  obtain ⟨A, c, e, hl, hC⟩ := h
  exact ⟨A, c, e, hl, Kd.C_below hC hb⟩
theorem wh_R {W : World} {base : Nat} {P : Nat → Prop} {s : Bool} {A : Option Addr} {c : Nat} {d : List Int} (h : Kd.R (Kd.int .i64) 3 W base P (.slice A d.length c) d) : Wh W s d (.agg #[.bool s, .slice A d.length c]) := ⟨A, c, rfl, (Kd.R_reads' h).2.1, (Kd.R_reads' h).2.2⟩
theorem of_w (k : Nat) (a : Int) (s : Bool) (d : List Int) (W : World) (h : windhoverref00_Of.f k a = some (s, d)) : Calls Try.prog 23 #[.int .i64 a] W fun e w' => ∃ v, e = .returned v ∧ Wh w' s d v ∧ Below W.heap.size W w' := by
  refine (windhoverref00_Of.calls k a s d W h).mono ?_
  rintro e w' ⟨v, rfl, hr, hb⟩
  obtain ⟨A, c, rfl⟩ := Kd.R_slice hr
  exact ⟨_, rfl, ⟨A, c, rfl, (Kd.R_reads' hr).2.1, (Kd.R_reads' hr).2.2⟩, hb⟩
theorem times_w (k : Nat) {s1 s2 : Bool} {d1 d2 : List Int} {v1 v2 : Value} (s : Bool) (d : List Int) (W : World) (h1 : Wh W s1 d1 v1) (h2 : Wh W s2 d2 v2) (h : windhoverref00_Times.f k s1 d1 s2 d2 = some (s, d)) :
    Calls Try.prog 22 #[v1, v2] W fun e w' => ∃ A c, e = .returned (.agg #[.bool s, .slice A d.length c]) ∧ Kd.R (Kd.int .i64) 3 w' W.heap.size (fun _ => True) (.slice A d.length c) d ∧ Below W.heap.size W w' := by
  obtain ⟨A1, c1, rfl, l1, C1⟩ := h1
  obtain ⟨A2, c2, rfl, l2, C2⟩ := h2
  refine (windhoverref00_Times.calls k s1 A1 c1 d1 s2 A2 c2 d2 s d W C1 l1 C2 l2 h).mono ?_
  rintro e w' ⟨v, rfl, hr, hb⟩
  obtain ⟨A, c, rfl⟩ := Kd.R_slice hr
  exact ⟨A, c, rfl, hr, hb⟩
theorem plus_w (k : Nat) {s1 s2 : Bool} {d1 d2 : List Int} {v1 v2 : Value} (s : Bool) (d : List Int) (W : World) (h1 : Wh W s1 d1 v1) (h2 : Wh W s2 d2 v2) (h : windhoverref00_Plus.f k s1 d1 s2 d2 = some (s, d)) :
    Calls Try.prog 24 #[v1, v2] W fun e w' => ∃ A c, e = .returned (.agg #[.bool s, .slice A d.length c]) ∧ Kd.R (Kd.int .i64) 3 w' W.heap.size (fun _ => True) (.slice A d.length c) d ∧ Below W.heap.size W w' := by
  obtain ⟨A1, c1, rfl, l1, C1⟩ := h1
  obtain ⟨A2, c2, rfl, l2, C2⟩ := h2
  refine (windhoverref00_Plus.calls k s1 A1 c1 d1 s2 A2 c2 d2 s d W C1 l1 C2 l2 h).mono ?_
  rintro e w' ⟨v, rfl, hr, hb⟩
  obtain ⟨A, c, rfl⟩ := Kd.R_slice hr
  exact ⟨A, c, rfl, hr, hb⟩
theorem cmp_w (k : Nat) {s1 s2 : Bool} {d1 d2 : List Int} {v1 v2 : Value} (r : Int) (W : World) (h1 : Wh W s1 d1 v1) (h2 : Wh W s2 d2 v2) (h : windhoverref00_Cmp.f k s1 d1 s2 d2 = some r) :
    Calls Try.prog 26 #[v1, v2] W fun e w' => e = .returned (.int .i64 r) ∧ Below W.heap.size W w' := by
  obtain ⟨A1, c1, rfl, l1, C1⟩ := h1
  obtain ⟨A2, c2, rfl, l2, C2⟩ := h2
  exact windhoverref00_Cmp.calls k s1 A1 c1 d1 s2 A2 c2 d2 r W C1 l1 C2 l2 h
theorem minus_w (k : Nat) {s1 s2 : Bool} {d1 d2 : List Int} {A1 A2 : Option Addr} {c1 c2 base : Nat} (s : Bool) (d : List Int) (w0 W : World) (hB : Below w0.heap.size w0 W)
    (h1 : Kd.R (Kd.int .i64) 3 W base (fun _ => True) (.slice A1 d1.length c1) d1) (h2 : Kd.R (Kd.int .i64) 3 W w0.heap.size (fun _ => True) (.slice A2 d2.length c2) d2) (hlt : ∀ k, (Value.slice A2 d2.length c2).ownBlock = some k → k < base) (h : windhoverref00_Minus.f k s1 d1 s2 d2 = some (s, d)) :
    Calls Try.prog 25 #[.agg #[.bool s1, .slice A1 d1.length c1], .agg #[.bool s2, .slice A2 d2.length c2]] W fun e w' => ∃ A c, e = .returned (.agg #[.bool s, .slice A d.length c]) ∧ Kd.R (Kd.int .i64) 3 w' w0.heap.size (fun _ => True) (.slice A d.length c) d ∧ Below w0.heap.size w0 w' ∧ Kept W w' (fun k_ => (Value.slice A2 d2.length c2).ownBlock = some k_) := by
  refine (windhoverref00_Minus.calls k s1 A1 c1 d1 s2 (fun k_ => (Value.slice A2 d2.length c2).ownBlock = some k_) (.slice A2 d2.length c2) d2 s d w0 W hB (fun W_ hk => ?_) (Kd.R_reads' h1).2.1 (Kd.R_mono (Kd.R_tight rfl h2) (fun k_ hk => hk.symm)) h).mono ?_
  · exact (Kd.R_reads' (Kd.R_kept (Kd.R_bound h1) hk (fun k_ ho hs => by have := hlt k_ hs; have := ho.2.1; omega))).2.2
  · rintro e w' ⟨v, rfl, hr, hb, hk⟩
    obtain ⟨A, c, rfl⟩ := Kd.R_slice hr
    exact ⟨A, c, rfl, Kd.R_mono hr (fun _ _ => trivial), hb, hk⟩
/-- A variable that holds such a number. -/
def Bx (W : World) (g : Nat) (s : Bool) (A : Option Addr) (c : Nat) (d : List Int) : Prop := W.heap[g]? = some (.cells #[.bool s, .slice A d.length c] 61 (0, 0)) ∧ d.length ≤ c ∧ Kd.C (Kd.int .i64) W A d.length d
theorem Bx.below {W W1 : World} {g : Nat} {s : Bool} {A : Option Addr} {c : Nat} {d : List Int} (h : Bx W g s A c d) (hb : Below W.heap.size W W1) : Bx W1 g s A c d := ⟨blk_below h.1 hb, h.2.1, Kd.C_below h.2.2 hb⟩
theorem Bx.wh {W : World} {g : Nat} {s : Bool} {A : Option Addr} {c : Nat} {d : List Int} (h : Bx W g s A c d) : Wh W s d (.agg #[.bool s, .slice A d.length c]) := ⟨A, c, rfl, h.2.1, h.2.2⟩
theorem Bx.put {W W1 W2 : World} {g base : Nat} {s : Bool} {A : Option Addr} {c : Nat} {d : List Int} (hr : Kd.R (Kd.int .i64) 3 W base (fun _ => True) (.slice A d.length c) d) (hbox : W1.heap[g]? = some (.cells #[.bool false, .slice none 0 0] 61 (0, 0))) (hb : Below W.heap.size W W1) (hg : W.heap.size ≤ g)
    (hW : (W1.setCell ⟨g, 0, none⟩ (.bool s)).setCell ⟨g, 1, none⟩ (.slice A d.length c) = W2) : Bx W2 g s A c d ∧ Below W.heap.size W W2 := by
  subst hW
  have h2 : Below W.heap.size W ((W1.setCell ⟨g, 0, none⟩ (.bool s)).setCell ⟨g, 1, none⟩ (.slice A d.length c)) := below_set (below_set hb hg) hg
  exact ⟨⟨blk_put (blk_put hbox 0 _ rfl) 1 _ rfl, (Kd.R_reads' hr).2.1, Kd.C_below (Kd.R_reads' hr).2.2 h2⟩, h2⟩

theorem Bx.put3 {w W0 W1 W2 : World} {g base : Nat} {s : Bool} {A : Option Addr} {c : Nat} {d : List Int} (hr : Kd.R (Kd.int .i64) 3 W1 base (fun k => k ≠ g) (.slice A d.length c) d) (hbase : w.heap.size ≤ base) (hbox : W1.heap[g]? = some (.cells #[.bool false, .slice none 0 0] 61 (0, 0))) (hb : Below W0.heap.size W0 W1) (hg : W0.heap.size ≤ g)
    (hW : (W1.setCell ⟨g, 0, none⟩ (.bool s)).setCell ⟨g, 1, none⟩ (.slice A d.length c) = W2) : Bx W2 g s A c d ∧ Kd.R (Kd.int .i64) 3 W2 w.heap.size (fun _ => True) (.slice A d.length c) d ∧ Below W0.heap.size W0 W2 := by
  subst hW
  have hR := Kd.R_far (p := ⟨g, 1, none⟩) (Kd.R_far (p := ⟨g, 0, none⟩) hr (fun k hk => hk) (.bool s)) (fun k hk => hk) (.slice A d.length c)
  exact ⟨⟨blk_put (blk_put hbox 0 _ rfl) 1 _ rfl, (Kd.R_reads' hr).2.1, (Kd.R_reads' hR).2.2⟩, Kd.R_mono (Kd.R_lower hR hbase) (fun _ _ => trivial), below_set (below_set hb hg) hg⟩
theorem Bx.new {w W : World} {base : Nat} {s : Bool} {A : Option Addr} {c : Nat} {d : List Int} (hr : Kd.R (Kd.int .i64) 3 W base (fun _ => True) (.slice A d.length c) d) (hbase : w.heap.size ≤ base) :
    Bx (W.alloc (.cells #[.bool s, .slice A d.length c] 61 (0, 0))) W.heap.size s A c d ∧ Kd.R (Kd.int .i64) 3 (W.alloc (.cells #[.bool s, .slice A d.length c] 61 (0, 0))) w.heap.size (fun _ => True) (.slice A d.length c) d ∧ Below W.heap.size W (W.alloc (.cells #[.bool s, .slice A d.length c] 61 (0, 0))) :=
  ⟨⟨blk_new W _, (Kd.R_reads' hr).2.1, Kd.C_below (Kd.R_reads' hr).2.2 (below_alloc (Below.refl _ _) _)⟩, Kd.R_lower (Kd.R_alloc hr _) hbase, below_alloc (Below.refl _ _) _⟩
theorem Bx.putC {W W1 W2 : World} {g : Nat} {s : Bool} {A : Option Addr} {c : Nat} {d : List Int} (hr : d.length ≤ c ∧ Kd.C (Kd.int .i64) W A d.length d) (hbox : W1.heap[g]? = some (.cells #[.bool false, .slice none 0 0] 61 (0, 0))) (hb : Below W.heap.size W W1) (hg : W.heap.size ≤ g)
    (hW : (W1.setCell ⟨g, 0, none⟩ (.bool s)).setCell ⟨g, 1, none⟩ (.slice A d.length c) = W2) : Bx W2 g s A c d ∧ Below W.heap.size W W2 := by
  subst hW
  have h2 : Below W.heap.size W ((W1.setCell ⟨g, 0, none⟩ (.bool s)).setCell ⟨g, 1, none⟩ (.slice A d.length c)) := below_set (below_set hb hg) hg
  exact ⟨⟨blk_put (blk_put hbox 0 _ rfl) 1 _ rfl, hr.1, Kd.C_below hr.2 h2⟩, h2⟩
theorem R_type_box {W : World} {g base : Nat} {d : List Int} {v : Value} {cs : Array Value} (hr : Kd.R (Kd.int .i64) 3 W base (fun _ => True) v d) (hb : W.heap[g]? = some (.cells cs 61 (0, 0))) : Kd.R (Kd.int .i64) 3 W base (fun k => k ≠ g) v d := Kd.R_mono (Kd.R_types hr hb (by decide)) (fun k hk => hk.2)
theorem R_elder_box {W : World} {g base : Nat} {d : List Int} {v : Value} (hr : Kd.R (Kd.int .i64) 3 W base (fun _ => True) v d) (hlt : g < base) : Kd.R (Kd.int .i64) 3 W base (fun k => k ≠ g) v d := Kd.R_mono (Kd.R_bound hr) (fun k hk => by have := hk.2.1; omega)
theorem R_new_box {W : World} {base : Nat} {d : List Int} {v : Value} (hr : Kd.R (Kd.int .i64) 3 W base (fun _ => True) v d) (o : Obj) : Kd.R (Kd.int .i64) 3 (W.alloc o) base (fun k => k ≠ W.heap.size) v d := Kd.R_alloc (Kd.R_mono (Kd.R_bound hr) (fun k hk => by have := hk.2.2.1; omega)) o

set_option maxHeartbeats 8000000 in
set_option maxRecDepth 100000 in
theorem windhoverref18_Stop.calls (k : Nat) (a0 : Int) (a1 : Int) (r : Int) (w : World) (h : windhoverref18_Stop.f k a0 a1 = some r) :
    Calls Try.prog 10 #[.int .i64 a0, .int .i64 a1] w fun e w' => e = .returned (.int .i64 r) ∧ Below w.heap.size w w' := by
  have hu61 := Try.underlying61
  have HB := Aside0.mk (Below.refl w.heap.size w)
  have key : ∀ kk b, windhoverref18_Stop.j0 kk a0 a1 b = some r → ∃ kj, kk = kj + 1 ∧ windhoverref18_Stop.j0 (kj + 1) a0 a1 b = some r := by
    intro kk b h
    cases kk with
    | zero => simp [windhoverref18_Stop.j0] at h
    | succ kj => exact ⟨kj, rfl, h⟩
  by_cases c0 : a0 < 1 ∨ a1 < 1
  · have hr : r = 0 := by
      unfold windhoverref18_Stop.f at h
      have hj : windhoverref18_Stop.j0 k a0 a1 true = some r := by
        by_cases c : a0 < 1
        · rw [if_pos c] at h; exact h
        · rw [if_neg c, decide_eq_true (c0.resolve_left c)] at h; exact h
      obtain ⟨kj, rfl, hj⟩ := key k true hj
      rw [windhoverref18_Stop.j0, if_pos rfl] at hj
      exact (Option.some.inj hj).symm
    subst hr
    clear h key
    by_cases c : a0 < 1
    · have d0 : decide (a0 < 1) = true := decide_eq_true c
      clear c0 c
      go_enter Try.func10, Try.ntmps10
      go_wp2
      go_ret
      exact ⟨rfl, HB.out⟩
    · have d0 : decide (a0 < 1) = false := decide_eq_false c
      have d1 : decide (a1 < 1) = true := decide_eq_true (c0.resolve_left c)
      clear c0 c
      go_enter Try.func10, Try.ntmps10
      go_wp2
      go_ret
      exact ⟨rfl, HB.out⟩
  · have d0 : decide (a0 < 1) = false := decide_eq_false (fun h => c0 (.inl h))
    have d1 : decide (a1 < 1) = false := decide_eq_false (fun h => c0 (.inr h))
    have z1 : (a1 == 0) = false := beq_eq_false_iff_ne.mpr (fun e => c0 (.inr (by omega)))
    have z2 : ¬ a1 = 0 := fun e => c0 (.inr (by omega))
    unfold windhoverref18_Stop.f at h
    rw [if_neg (fun h => c0 (.inl h)), d1] at h
    obtain ⟨kj, rfl, h'⟩ := key k false h
    clear key c0 h
    have h := h'
    clear h'
    rw [windhoverref18_Stop.j0, if_neg (by decide), if_neg z2] at h
    replace h := Option.bind_eq_some_iff.mp h
    obtain ⟨⟨s0, d0_⟩, e0, h⟩ := h
    have E0 := Aside0.mk e0
    clear e0
    replace h := Option.bind_eq_some_iff.mp h
    obtain ⟨⟨s1, d1_⟩, e1, h⟩ := h
    have E1 := Aside0.mk e1
    clear e1
    replace h := Option.bind_eq_some_iff.mp h
    obtain ⟨⟨s2, d2⟩, e2, h⟩ := h
    have E2 := Aside0.mk e2
    clear e2
    replace h := Option.bind_eq_some_iff.mp h
    obtain ⟨⟨s3, d3⟩, e3, h⟩ := h
    have E3 := Aside0.mk e3
    clear e3
    replace h := Option.bind_eq_some_iff.mp h
    obtain ⟨⟨s4, d4⟩, e4, h⟩ := h
    have E4 := Aside0.mk e4
    clear e4
    replace h := Option.bind_eq_some_iff.mp h
    obtain ⟨⟨s5, d5⟩, e5, h⟩ := h
    have E5 := Aside0.mk e5
    clear e5
    replace h := Option.bind_eq_some_iff.mp h
    obtain ⟨⟨s6, d6⟩, e6, h⟩ := h
    have E6 := Aside0.mk e6
    clear e6
    replace h := Option.bind_eq_some_iff.mp h
    obtain ⟨⟨s7, d7⟩, e7, h⟩ := h
    have E7 := Aside0.mk e7
    clear e7
    replace h := Option.bind_eq_some_iff.mp h
    obtain ⟨⟨s8, d8⟩, e8, h⟩ := h
    have E8 := Aside0.mk e8
    clear e8
    replace h := Option.bind_eq_some_iff.mp h
    obtain ⟨⟨s9, d9⟩, e9, h⟩ := h
    have E9 := Aside0.mk e9
    clear e9
    replace h := Option.bind_eq_some_iff.mp h
    obtain ⟨⟨s10, d10⟩, e10, h⟩ := h
    have E10 := Aside0.mk e10
    clear e10
    replace h := Option.bind_eq_some_iff.mp h
    obtain ⟨⟨s11, d11⟩, e11, h⟩ := h
    have E11 := Aside0.mk e11
    clear e11
    replace h := Option.bind_eq_some_iff.mp h
    obtain ⟨⟨s12, d12⟩, e12, h⟩ := h
    have E12 := Aside0.mk e12
    clear e12
    replace h := Option.bind_eq_some_iff.mp h
    obtain ⟨⟨s13, d13⟩, e13, h⟩ := h
    have E13 := Aside0.mk e13
    clear e13
    replace h := Option.bind_eq_some_iff.mp h
    obtain ⟨⟨s14, d14⟩, e14, h⟩ := h
    have E14 := Aside0.mk e14
    clear e14
    replace h := Option.bind_eq_some_iff.mp h
    obtain ⟨cm, ec, h⟩ := h
    have EC := Aside0.mk ec
    clear ec
    have H := Aside0.mk h
    clear h
    have TK0 := Aside0.mk trivial
    have TK1 := Aside0.mk trivial
    have TK2 := Aside0.mk trivial
    have TK3 := Aside0.mk trivial
    have TK4 := Aside0.mk trivial
    have TK5 := Aside0.mk trivial
    have TK6 := Aside0.mk trivial
    have TK7 := Aside0.mk trivial
    go_enter Try.func10, Try.ntmps10
    obtain ⟨nq, hnq⟩ : ∃ n_ : Int, wrap64 (Int.tdiv a0 a1) = n_ := ⟨_, rfl⟩
    have hnqw : IntKind.i64.wrap (Int.tdiv a0 a1) = nq := (i64_w _).trans hnq
    rw [hnq] at E0 E3 E4
    go_upto_region 5 with (first | (have tk_ := TK0; clear tk_ TK0; go_at_call 23; go_loud ((with_reducible refine (of_w kj nq _ _ _ E0.out).mono ?_); rintro e wa1 ⟨v0, rfl, hv, hb⟩; have n_ := Aside0.mk (below_step HB.out hb); clear HB; have HB := n_; clear n_; have V0 := Aside0.mk hv; clear hv hb)) | (have tk_ := TK1; clear tk_ TK1; go_at_call 23; go_loud ((with_reducible refine (of_w kj a0 _ _ _ E1.out).mono ?_); rintro e wa2 ⟨v1, rfl, hv, hb⟩; have n_ := Aside0.mk (below_step HB.out hb); clear HB; have HB := n_; clear n_; have n_ := Aside0.mk (V0.out.below hb); clear V0; have V0 := n_; clear n_; have V1 := Aside0.mk hv; clear hv hb)) | (go_at_call 22; go_loud ((with_reducible refine (times_w kj _ _ _ V0.out V1.out E2.out).mono ?_); rintro e wa3 ⟨A2, c2, rfl, hr, hb⟩; have n_ := Aside0.mk (below_step HB.out hb); clear HB; have HB := n_; clear n_; have n_ := Aside0.mk (V0.out.below hb); clear V0; have V0 := n_; clear n_; have n_ := Aside0.mk (V1.out.below hb); clear V1; have V1 := n_; clear n_; have R2 := Aside0.mk hr; clear hr hb)) | ((with_reducible refine gate_dst (N := 6) rfl ?_); refine box_event ?hg (N := 6) ?hd (cs := #[.bool false, .slice none 0 0]) (t := 61) ?hr ?_; (case hd => rfl); (case hg => rfl); (case hr => first | (go_simp; done) | (go_simp; rfl)); intro ga hg wb hbox hb; have BK := Aside0.mk hbox; have HX := Aside0.mk hb; have GE := Aside0.mk (Nat.le_of_eq hg.symm); clear hbox hb hg; have hcz := blk_cells2 BK.out; have hfz := blk_frozen BK.out))
    clear hcz hfz
    generalize hW : World.setCell (World.setCell _ ⟨ga, 0, none⟩ _) ⟨ga, 1, none⟩ _ = W_
    obtain ⟨hx_, hb_⟩ := Bx.put R2.out BK.out HX.out GE.out hW
    clear hW
    have n_ := Aside0.mk (below_step HB.out hb_)
    clear HB
    have HB := n_
    clear n_
    have n_ := Aside0.mk (V0.out.below hb_)
    clear V0
    have V0 := n_
    clear n_
    have n_ := Aside0.mk (V1.out.below hb_)
    clear V1
    have V1 := n_
    clear n_
    have n_ := Aside0.mk (Kd.R_below R2.out hb_)
    clear R2
    have R2 := n_
    clear n_
    have X2 := Aside0.mk hx_
    clear hx_ hb_ BK HX GE
    clear V0 V1 R2
    go_upto_region 6 with (first | (have tk_ := TK2; clear tk_ TK2; go_at_call 23; go_loud ((with_reducible refine (of_w kj nq _ _ _ E3.out).mono ?_); rintro e wa4 ⟨v3, rfl, hv, hb⟩; have n_ := Aside0.mk (below_step HB.out hb); clear HB; have HB := n_; clear n_; have n_ := Aside0.mk (X2.out.below hb); clear X2; have X2 := n_; clear n_; have V3 := Aside0.mk hv; clear hv hb)) | (have tk_ := TK3; clear tk_ TK3; go_at_call 23; go_loud ((with_reducible refine (of_w kj nq _ _ _ E4.out).mono ?_); rintro e wa5 ⟨v4, rfl, hv, hb⟩; have n_ := Aside0.mk (below_step HB.out hb); clear HB; have HB := n_; clear n_; have n_ := Aside0.mk (X2.out.below hb); clear X2; have X2 := n_; clear n_; have n_ := Aside0.mk (V3.out.below hb); clear V3; have V3 := n_; clear n_; have V4 := Aside0.mk hv; clear hv hb)) | (have tk_ := TK4; clear tk_ TK4; go_at_call 23; go_loud ((with_reducible refine (of_w kj 1 _ _ _ E5.out).mono ?_); rintro e wa6 ⟨v5, rfl, hv, hb⟩; have n_ := Aside0.mk (below_step HB.out hb); clear HB; have HB := n_; clear n_; have n_ := Aside0.mk (X2.out.below hb); clear X2; have X2 := n_; clear n_; have n_ := Aside0.mk (V3.out.below hb); clear V3; have V3 := n_; clear n_; have n_ := Aside0.mk (V4.out.below hb); clear V4; have V4 := n_; clear n_; have V5 := Aside0.mk hv; clear hv hb)) | (go_at_call 24; go_loud ((with_reducible refine (plus_w kj _ _ _ V4.out V5.out E6.out).mono ?_); rintro e wa7 ⟨A6, c6, rfl, hr, hb⟩; have n_ := Aside0.mk (below_step HB.out hb); clear HB; have HB := n_; clear n_; have n_ := Aside0.mk (X2.out.below hb); clear X2; have X2 := n_; clear n_; have n_ := Aside0.mk (V3.out.below hb); clear V3; have V3 := n_; clear n_; have n_ := Aside0.mk (V4.out.below hb); clear V4; have V4 := n_; clear n_; have n_ := Aside0.mk (V5.out.below hb); clear V5; have V5 := n_; clear n_; have R6 := Aside0.mk hr; clear hr hb)) | (go_at_call 22; go_loud ((with_reducible refine (times_w kj _ _ _ V3.out (wh_R R6.out) E7.out).mono ?_); rintro e wa8 ⟨A7, c7, rfl, hr, hb⟩; have n_ := Aside0.mk (below_step HB.out hb); clear HB; have HB := n_; clear n_; have n_ := Aside0.mk (X2.out.below hb); clear X2; have X2 := n_; clear n_; have n_ := Aside0.mk (V3.out.below hb); clear V3; have V3 := n_; clear n_; have n_ := Aside0.mk (V4.out.below hb); clear V4; have V4 := n_; clear n_; have n_ := Aside0.mk (V5.out.below hb); clear V5; have V5 := n_; clear n_; have n_ := Aside0.mk (Kd.R_below R6.out hb); clear R6; have R6 := n_; clear n_; have R7 := Aside0.mk hr; clear hr hb)) | ((with_reducible refine gate_dst (N := 7) rfl ?_); refine box_event ?hg (N := 7) ?hd (cs := #[.bool false, .slice none 0 0]) (t := 61) ?hr ?_; (case hd => rfl); (case hg => rfl); (case hr => first | (go_simp; done) | (go_simp; rfl)); intro gt hg wb hbox hb; have BK := Aside0.mk hbox; have HX := Aside0.mk hb; have GE := Aside0.mk (Nat.le_of_eq hg.symm); clear hbox hb hg; have hcz := blk_cells2 BK.out; have hfz := blk_frozen BK.out))
    clear hcz hfz
    generalize hW : World.setCell (World.setCell _ ⟨gt, 0, none⟩ _) ⟨gt, 1, none⟩ _ = W_
    obtain ⟨hx_, hb_⟩ := Bx.put R7.out BK.out HX.out GE.out hW
    clear hW
    have n_ := Aside0.mk (below_step HB.out hb_)
    clear HB
    have HB := n_
    clear n_
    have n_ := Aside0.mk (X2.out.below hb_)
    clear X2
    have X2 := n_
    clear n_
    have n_ := Aside0.mk (V3.out.below hb_)
    clear V3
    have V3 := n_
    clear n_
    have n_ := Aside0.mk (V4.out.below hb_)
    clear V4
    have V4 := n_
    clear n_
    have n_ := Aside0.mk (V5.out.below hb_)
    clear V5
    have V5 := n_
    clear n_
    have n_ := Aside0.mk (Kd.R_below R6.out hb_)
    clear R6
    have R6 := n_
    clear n_
    have n_ := Aside0.mk (Kd.R_below R7.out hb_)
    clear R7
    have R7 := n_
    clear n_
    have X7 := Aside0.mk hx_
    clear hx_ hb_ BK HX GE
    clear V3 V4 V5 R6 R7
    go_cut [8] (fun v8 wc => ∃ (g : Nat) (A : Option Addr) (c : Nat), v8 = .pointer (some ⟨g, 0, none⟩) ∧ Aside0 (Bx wc g s9 A c d9) ∧ Aside0 (Kd.R (Kd.int .i64) 3 wc w.heap.size (fun _ => True) (.slice A d9.length c) d9) ∧ Aside0 (Bx wc ga s2 A2 c2 d2) ∧ Aside0 (Below w.heap.size w wc))
    case first =>
      have yg0 := (blk_cell (blk_drew (blk_alloc X7.out.1 (.cells #[.bool false, .slice none 0 0] 61 (0, 0)))) 0).trans rfl
      have yg1 := (blk_cell (blk_drew (blk_alloc X7.out.1 (.cells #[.bool false, .slice none 0 0] 61 (0, 0)))) 1).trans rfl
      have neg := Nat.ne_of_lt (blk_lt X7.out.1)
      have nfg := Ne.symm neg
      have hng0 := (blk_cell (blk_drew (blk_new W_ (.cells #[.bool false, .slice none 0 0] 61 (0, 0)))) 0).trans rfl
      have hng1 := (blk_cell (blk_drew (blk_new W_ (.cells #[.bool false, .slice none 0 0] 61 (0, 0)))) 1).trans rfl
      have hzg := blk_frozen (blk_drew (blk_new W_ (.cells #[.bool false, .slice none 0 0] 61 (0, 0))))
      have hb_ := below_drew1 (Below.refl W_.heap.size W_)
      have n_ := Aside0.mk (below_step HB.out hb_)
      clear HB
      have HB := n_
      clear n_
      have n_ := Aside0.mk (X2.out.below hb_)
      clear X2
      have X2 := n_
      clear n_
      have n_ := Aside0.mk (X7.out.below hb_)
      clear X7
      have X7 := n_
      clear n_
      clear hb_
      have ya0X7 := (blk_cell X7.out.1 0).trans rfl
      have ya1X7 := (blk_cell X7.out.1 1).trans rfl
      have yb0X7 := (blk_cell (X7.out.below (below_alloc (Below.refl _ _) (.cells #[.bool false, .slice none 0 0] 61 (0, 0)))).1 0).trans rfl
      have yb1X7 := (blk_cell (X7.out.below (below_alloc (Below.refl _ _) (.cells #[.bool false, .slice none 0 0] 61 (0, 0)))).1 1).trans rfl
      have hn00 := (blk_cell (blk_new W_.drew (.cells #[.bool false, .slice none 0 0] 61 (0, 0))) 0).trans rfl; have hn10 := (blk_cell (blk_new W_.drew (.cells #[.bool false, .slice none 0 0] 61 (0, 0))) 1).trans rfl; have hz0 := blk_frozen (blk_new W_.drew (.cells #[.bool false, .slice none 0 0] 61 (0, 0)))
      have ne0X7 := Nat.ne_of_lt (blk_lt X7.out.1); have nf0X7 := Ne.symm (Nat.ne_of_lt (blk_lt X7.out.1))
      go_region_held3 (fun w' => w'.cell? ⟨gt, 0, none⟩ = some (.bool s7) ∧ w'.cell? ⟨gt, 1, none⟩ = some (.slice A7 d7.length c7)) (go_keep) (first | (have tk_ := TK5; clear tk_ TK5; go_at_call 23; go_loud ((first | ((with_reducible refine (of_w kj a1 s8 d8 W_.drew E8.out).mono ?_); rintro e wo ⟨v8, rfl, hv, hb⟩; have HX := Aside0.mk hb) | ((with_reducible refine (of_w kj a1 s8 d8 (W_.drew.alloc (.cells #[.bool false, .slice none 0 0] 61 (0, 0))) E8.out).mono ?_); rintro e wo ⟨v8, rfl, hv, hb⟩; have HX := Aside0.mk (below_step (below_alloc (Below.refl _ _) (.cells #[.bool false, .slice none 0 0] 61 (0, 0))) hb); have BK := Aside0.mk (blk_below (blk_new W_.drew (.cells #[.bool false, .slice none 0 0] 61 (0, 0))) hb); have hcz := blk_cells2 BK.out; have hfz := blk_frozen BK.out) | ((with_reducible refine (of_w kj a1 s8 d8 ((W_.alloc (.cells #[.bool false, .slice none 0 0] 61 (0, 0))).drew) E8.out).mono ?_); rintro e wo ⟨v8, rfl, hv, hb⟩; have HX := Aside0.mk (below_step (show Below W_.drew.heap.size W_.drew ((W_.alloc (.cells #[.bool false, .slice none 0 0] 61 (0, 0))).drew) from (below_alloc (Below.refl _ _) (.cells #[.bool false, .slice none 0 0] 61 (0, 0)))) hb); have BK := Aside0.mk (blk_below (blk_drew (blk_new W_ (.cells #[.bool false, .slice none 0 0] 61 (0, 0)))) hb); have hcz := blk_cells2 BK.out; have hfz := blk_frozen BK.out)); have V8 := Aside0.mk hv; clear hv hb; have yc0X7 := (blk_cell (X7.out.below HX.out).1 0).trans rfl; have yc1X7 := (blk_cell (X7.out.below HX.out).1 1).trans rfl; have yd0X7 := (blk_cell (X7.out.below (below_alloc HX.out (.cells #[.bool false, .slice none 0 0] 61 (0, 0)))).1 0).trans rfl; have yd1X7 := (blk_cell (X7.out.below (below_alloc HX.out (.cells #[.bool false, .slice none 0 0] 61 (0, 0)))).1 1).trans rfl; have hn0o := (blk_cell (blk_new wo (.cells #[.bool false, .slice none 0 0] 61 (0, 0))) 0).trans rfl; have hn1o := (blk_cell (blk_new wo (.cells #[.bool false, .slice none 0 0] 61 (0, 0))) 1).trans rfl; have hzo := blk_frozen (blk_new wo (.cells #[.bool false, .slice none 0 0] 61 (0, 0))); have neoX7 := Nat.ne_of_lt (blk_lt (X7.out.below HX.out).1); have nfoX7 := Ne.symm (Nat.ne_of_lt (blk_lt (X7.out.below HX.out).1)))) | (go_at_call 22; go_loud ((first | ((with_reducible refine (times_w kj s9 d9 wo V8.out (X7.out.below HX.out).wh E9.out).mono ?_); rintro e wt ⟨A9, c9, rfl, hr, hb⟩; have HS := Aside0.mk (Nat.le_trans HB.out.size HX.out.size); have n_ := Aside0.mk (below_step HX.out hb); clear HX; have HX := n_; clear n_; (try (have GL := Aside0.mk (blk_lt BK.out); have n_ := Aside0.mk (blk_below BK.out hb); clear hcz hfz BK; have BK := n_; clear n_; have hcz := blk_cells2 BK.out; have hfz := blk_frozen BK.out))) | ((with_reducible refine (times_w kj s9 d9 (wo.alloc (.cells #[.bool false, .slice none 0 0] 61 (0, 0))) (V8.out.below (below_alloc (Below.refl _ _) (.cells #[.bool false, .slice none 0 0] 61 (0, 0)))) (X7.out.below (below_alloc HX.out (.cells #[.bool false, .slice none 0 0] 61 (0, 0)))).wh E9.out).mono ?_); rintro e wt ⟨A9, c9, rfl, hr, hb⟩; have HS := Aside0.mk (Nat.le_trans HB.out.size (below_alloc HX.out (.cells #[.bool false, .slice none 0 0] 61 (0, 0))).size); have GL := Aside0.mk (blk_lt (blk_new wo (.cells #[.bool false, .slice none 0 0] 61 (0, 0)))); have GX := Aside0.mk HX.out.size; have n_ := Aside0.mk (below_step (below_alloc HX.out (.cells #[.bool false, .slice none 0 0] 61 (0, 0))) hb); clear HX; have HX := n_; clear n_; have BK := Aside0.mk (blk_below (blk_new wo (.cells #[.bool false, .slice none 0 0] 61 (0, 0))) hb); have hcz := blk_cells2 BK.out; have hfz := blk_frozen BK.out)); have R9 := Aside0.mk hr; clear hr hb; have ye0X7 := (blk_cell (X7.out.below HX.out).1 0).trans rfl; have ye1X7 := (blk_cell (X7.out.below HX.out).1 1).trans rfl; have yf0X7 := (blk_cell (X7.out.below (below_alloc HX.out (.cells #[.bool false, .slice none 0 0] 61 (0, 0)))).1 0).trans rfl; have yf1X7 := (blk_cell (X7.out.below (below_alloc HX.out (.cells #[.bool false, .slice none 0 0] 61 (0, 0)))).1 1).trans rfl; have hn0t := (blk_cell (blk_new wt (.cells #[.bool false, .slice none 0 0] 61 (0, 0))) 0).trans rfl; have hn1t := (blk_cell (blk_new wt (.cells #[.bool false, .slice none 0 0] 61 (0, 0))) 1).trans rfl; have hzt := blk_frozen (blk_new wt (.cells #[.bool false, .slice none 0 0] 61 (0, 0))); have netX7 := Nat.ne_of_lt (blk_lt (X7.out.below HX.out).1); have nftX7 := Ne.symm (Nat.ne_of_lt (blk_lt (X7.out.below HX.out).1)))))
      all_goals go_wp2
      all_goals go_meet
      case rel => have p := Bx.new (s := s9) R9.out HS.out; exact ⟨_, A9, c9, rfl, ⟨p.1⟩, ⟨p.2.1⟩, ⟨(X2.out.below HX.out).below p.2.2⟩, ⟨below_step (below_step HB.out HX.out) p.2.2⟩⟩
      case rel => have p := Bx.put3 (w := w) (s := s9) (R_elder_box R9.out GL.out) HS.out BK.out HX.out GX.out rfl; exact ⟨_, A9, c9, rfl, ⟨p.1⟩, ⟨p.2.1⟩, ⟨X2.out.below p.2.2⟩, ⟨below_step HB.out p.2.2⟩⟩
      case rel => have p := Bx.put3 (w := w) (s := s9) (R_elder_box R9.out GL.out) HS.out BK.out HX.out (Nat.le_refl _) rfl; exact ⟨_, A9, c9, rfl, ⟨p.1⟩, ⟨p.2.1⟩, ⟨X2.out.below p.2.2⟩, ⟨below_step HB.out p.2.2⟩⟩
    case rest =>
      clear HB X2 X7
      obtain ⟨gx, A9, c9, rfl, X9, R9, X2, HB⟩ := hcut
      go_upto_region 7 with (fail)
      go_cut [9] (fun v9 wk => ∃ (g : Nat) (A : Option Addr) (c : Nat), v9 = .pointer (some ⟨g, 0, none⟩) ∧ Aside0 (Bx wk g s11 A c d11) ∧ Aside0 (Below w.heap.size w wk))
      case first =>
        have yg0X2 := (blk_cell (blk_drew (blk_alloc X2.out.1 (.cells #[.bool false, .slice none 0 0] 61 (0, 0)))) 0).trans rfl
        have yg1X2 := (blk_cell (blk_drew (blk_alloc X2.out.1 (.cells #[.bool false, .slice none 0 0] 61 (0, 0)))) 1).trans rfl
        have yg0X9 := (blk_cell (blk_drew (blk_alloc X9.out.1 (.cells #[.bool false, .slice none 0 0] 61 (0, 0)))) 0).trans rfl
        have yg1X9 := (blk_cell (blk_drew (blk_alloc X9.out.1 (.cells #[.bool false, .slice none 0 0] 61 (0, 0)))) 1).trans rfl
        have negX2 := Nat.ne_of_lt (blk_lt X2.out.1)
        have nfgX2 := Ne.symm negX2
        have negX9 := Nat.ne_of_lt (blk_lt X9.out.1)
        have nfgX9 := Ne.symm negX9
        have hng0 := (blk_cell (blk_drew (blk_new wc (.cells #[.bool false, .slice none 0 0] 61 (0, 0)))) 0).trans rfl
        have hng1 := (blk_cell (blk_drew (blk_new wc (.cells #[.bool false, .slice none 0 0] 61 (0, 0)))) 1).trans rfl
        have hzg := blk_frozen (blk_drew (blk_new wc (.cells #[.bool false, .slice none 0 0] 61 (0, 0))))
        have hb_ := below_drew1 (Below.refl wc.heap.size wc)
        have n_ := Aside0.mk (below_step HB.out hb_)
        clear HB
        have HB := n_
        clear n_
        have n_ := Aside0.mk (X2.out.below hb_)
        clear X2
        have X2 := n_
        clear n_
        have n_ := Aside0.mk (X9.out.below hb_)
        clear X9
        have X9 := n_
        clear n_
        have n_ := Aside0.mk (Kd.R_below R9.out hb_)
        clear R9
        have R9 := n_
        clear n_
        clear hb_
        have ya0X2 := (blk_cell X2.out.1 0).trans rfl
        have ya1X2 := (blk_cell X2.out.1 1).trans rfl
        have ya0X9 := (blk_cell X9.out.1 0).trans rfl
        have ya1X9 := (blk_cell X9.out.1 1).trans rfl
        have yb0X2 := (blk_cell (X2.out.below (below_alloc (Below.refl _ _) (.cells #[.bool false, .slice none 0 0] 61 (0, 0)))).1 0).trans rfl
        have yb1X2 := (blk_cell (X2.out.below (below_alloc (Below.refl _ _) (.cells #[.bool false, .slice none 0 0] 61 (0, 0)))).1 1).trans rfl
        have yb0X9 := (blk_cell (X9.out.below (below_alloc (Below.refl _ _) (.cells #[.bool false, .slice none 0 0] 61 (0, 0)))).1 0).trans rfl
        have yb1X9 := (blk_cell (X9.out.below (below_alloc (Below.refl _ _) (.cells #[.bool false, .slice none 0 0] 61 (0, 0)))).1 1).trans rfl
        have hn00 := (blk_cell (blk_new wc.drew (.cells #[.bool false, .slice none 0 0] 61 (0, 0))) 0).trans rfl; have hn10 := (blk_cell (blk_new wc.drew (.cells #[.bool false, .slice none 0 0] 61 (0, 0))) 1).trans rfl; have hz0 := blk_frozen (blk_new wc.drew (.cells #[.bool false, .slice none 0 0] 61 (0, 0)))
        have ne0X2 := Nat.ne_of_lt (blk_lt X2.out.1); have nf0X2 := Ne.symm (Nat.ne_of_lt (blk_lt X2.out.1)); have ne0X9 := Nat.ne_of_lt (blk_lt X9.out.1); have nf0X9 := Ne.symm (Nat.ne_of_lt (blk_lt X9.out.1))
        go_region_held3 (fun w' => w'.cell? ⟨ga, 0, none⟩ = some (.bool s2) ∧ w'.cell? ⟨ga, 1, none⟩ = some (.slice A2 d2.length c2) ∧ w'.cell? ⟨gx, 0, none⟩ = some (.bool s9) ∧ w'.cell? ⟨gx, 1, none⟩ = some (.slice A9 d9.length c9)) (go_keep) (first | (go_at_call 24; go_loud ((first | ((with_reducible refine (plus_w kj s10 d10 wc.drew X2.out.wh X2.out.wh E10.out).mono ?_); rintro e wo ⟨A10, c10, rfl, hr, hb⟩; have HX := Aside0.mk hb; have HL := Aside0.mk (fun k_ hk_ => Kd.R_lt R9.out k_ hk_)) | ((with_reducible refine (plus_w kj s10 d10 (wc.drew.alloc (.cells #[.bool false, .slice none 0 0] 61 (0, 0))) (X2.out.below (below_alloc (Below.refl _ _) (.cells #[.bool false, .slice none 0 0] 61 (0, 0)))).wh (X2.out.below (below_alloc (Below.refl _ _) (.cells #[.bool false, .slice none 0 0] 61 (0, 0)))).wh E10.out).mono ?_); rintro e wo ⟨A10, c10, rfl, hr, hb⟩; have HX := Aside0.mk (below_step (below_alloc (Below.refl _ _) (.cells #[.bool false, .slice none 0 0] 61 (0, 0))) hb); have HL := Aside0.mk (fun k_ hk_ => Nat.lt_of_lt_of_le (Kd.R_lt R9.out k_ hk_) ((below_alloc (Below.refl _ _) (.cells #[.bool false, .slice none 0 0] 61 (0, 0)))).size); have BK := Aside0.mk (blk_below (blk_new wc.drew (.cells #[.bool false, .slice none 0 0] 61 (0, 0))) hb); have hcz := blk_cells2 BK.out; have hfz := blk_frozen BK.out) | ((with_reducible refine (plus_w kj s10 d10 ((wc.alloc (.cells #[.bool false, .slice none 0 0] 61 (0, 0))).drew) (X2.out.below (show Below wc.drew.heap.size wc.drew ((wc.alloc (.cells #[.bool false, .slice none 0 0] 61 (0, 0))).drew) from (below_alloc (Below.refl _ _) (.cells #[.bool false, .slice none 0 0] 61 (0, 0))))).wh (X2.out.below (show Below wc.drew.heap.size wc.drew ((wc.alloc (.cells #[.bool false, .slice none 0 0] 61 (0, 0))).drew) from (below_alloc (Below.refl _ _) (.cells #[.bool false, .slice none 0 0] 61 (0, 0))))).wh E10.out).mono ?_); rintro e wo ⟨A10, c10, rfl, hr, hb⟩; have HX := Aside0.mk (below_step (show Below wc.drew.heap.size wc.drew ((wc.alloc (.cells #[.bool false, .slice none 0 0] 61 (0, 0))).drew) from (below_alloc (Below.refl _ _) (.cells #[.bool false, .slice none 0 0] 61 (0, 0)))) hb); have HL := Aside0.mk (fun k_ hk_ => Nat.lt_of_lt_of_le (Kd.R_lt R9.out k_ hk_) ((show Below wc.drew.heap.size wc.drew ((wc.alloc (.cells #[.bool false, .slice none 0 0] 61 (0, 0))).drew) from (below_alloc (Below.refl _ _) (.cells #[.bool false, .slice none 0 0] 61 (0, 0))))).size); have BK := Aside0.mk (blk_below (blk_drew (blk_new wc (.cells #[.bool false, .slice none 0 0] 61 (0, 0)))) hb); have hcz := blk_cells2 BK.out; have hfz := blk_frozen BK.out)); have R10 := Aside0.mk hr; clear hr hb; have yc0X2 := (blk_cell (X2.out.below HX.out).1 0).trans rfl; have yc1X2 := (blk_cell (X2.out.below HX.out).1 1).trans rfl; have yc0X9 := (blk_cell (X9.out.below HX.out).1 0).trans rfl; have yc1X9 := (blk_cell (X9.out.below HX.out).1 1).trans rfl; have yd0X2 := (blk_cell (X2.out.below (below_alloc HX.out (.cells #[.bool false, .slice none 0 0] 61 (0, 0)))).1 0).trans rfl; have yd1X2 := (blk_cell (X2.out.below (below_alloc HX.out (.cells #[.bool false, .slice none 0 0] 61 (0, 0)))).1 1).trans rfl; have yd0X9 := (blk_cell (X9.out.below (below_alloc HX.out (.cells #[.bool false, .slice none 0 0] 61 (0, 0)))).1 0).trans rfl; have yd1X9 := (blk_cell (X9.out.below (below_alloc HX.out (.cells #[.bool false, .slice none 0 0] 61 (0, 0)))).1 1).trans rfl; have hn0o := (blk_cell (blk_new wo (.cells #[.bool false, .slice none 0 0] 61 (0, 0))) 0).trans rfl; have hn1o := (blk_cell (blk_new wo (.cells #[.bool false, .slice none 0 0] 61 (0, 0))) 1).trans rfl; have hzo := blk_frozen (blk_new wo (.cells #[.bool false, .slice none 0 0] 61 (0, 0))); have neoX2 := Nat.ne_of_lt (blk_lt (X2.out.below HX.out).1); have nfoX2 := Ne.symm (Nat.ne_of_lt (blk_lt (X2.out.below HX.out).1)); have neoX9 := Nat.ne_of_lt (blk_lt (X9.out.below HX.out).1); have nfoX9 := Ne.symm (Nat.ne_of_lt (blk_lt (X9.out.below HX.out).1)))) | (go_at_call 25; go_loud ((first | ((with_reducible refine (minus_w kj s11 d11 w wo (below_step HB.out HX.out) R10.out (Kd.R_below R9.out HX.out) HL.out E11.out).mono ?_); rintro e wt ⟨A11, c11, rfl, hr, hb, hk⟩; have hxeX2 := (blk_kept (X2.out.below HX.out).1 hk (fun e_ => Kd.R_ne (Kd.R_below R9.out HX.out) (X2.out.below HX.out).1 (by decide) e_.symm)); have ye0X2 := (blk_cell hxeX2 0).trans rfl; have ye1X2 := (blk_cell hxeX2 1).trans rfl; have yze0X2 := (blk_cell (blk_alloc hxeX2 (.cells #[.bool false, .slice none 0 0] 61 (0, 0))) 0).trans rfl; have yze1X2 := (blk_cell (blk_alloc hxeX2 (.cells #[.bool false, .slice none 0 0] 61 (0, 0))) 1).trans rfl; have neteX2 := Nat.ne_of_lt (blk_lt hxeX2); have nfteX2 := Ne.symm (Nat.ne_of_lt (blk_lt hxeX2)); have hxeX9 := (blk_kept (X9.out.below HX.out).1 hk (fun e_ => Kd.R_ne (Kd.R_below R9.out HX.out) (X9.out.below HX.out).1 (by decide) e_.symm)); have ye0X9 := (blk_cell hxeX9 0).trans rfl; have ye1X9 := (blk_cell hxeX9 1).trans rfl; have yze0X9 := (blk_cell (blk_alloc hxeX9 (.cells #[.bool false, .slice none 0 0] 61 (0, 0))) 0).trans rfl; have yze1X9 := (blk_cell (blk_alloc hxeX9 (.cells #[.bool false, .slice none 0 0] 61 (0, 0))) 1).trans rfl; have neteX9 := Nat.ne_of_lt (blk_lt hxeX9); have nfteX9 := Ne.symm (Nat.ne_of_lt (blk_lt hxeX9)); (try (have n_ := Aside0.mk (blk_kept BK.out hk (fun e_ => Nat.lt_irrefl _ (Kd.R_lt R9.out _ e_))); clear hcz hfz BK; have BK := n_; clear n_; have hcz := blk_cells2 BK.out; have hfz := blk_frozen BK.out))) | ((with_reducible refine (minus_w kj s11 d11 w (wo.alloc (.cells #[.bool false, .slice none 0 0] 61 (0, 0))) (below_step HB.out (below_alloc HX.out (.cells #[.bool false, .slice none 0 0] 61 (0, 0)))) (Kd.R_alloc R10.out _) (Kd.R_below R9.out (below_alloc HX.out (.cells #[.bool false, .slice none 0 0] 61 (0, 0)))) HL.out E11.out).mono ?_); rintro e wt ⟨A11, c11, rfl, hr, hb, hk⟩; have hxeX2 := (blk_kept (X2.out.below (below_alloc HX.out (.cells #[.bool false, .slice none 0 0] 61 (0, 0)))).1 hk (fun e_ => Kd.R_ne (Kd.R_below R9.out HX.out) (X2.out.below HX.out).1 (by decide) e_.symm)); have ye0X2 := (blk_cell hxeX2 0).trans rfl; have ye1X2 := (blk_cell hxeX2 1).trans rfl; have yze0X2 := (blk_cell (blk_alloc hxeX2 (.cells #[.bool false, .slice none 0 0] 61 (0, 0))) 0).trans rfl; have yze1X2 := (blk_cell (blk_alloc hxeX2 (.cells #[.bool false, .slice none 0 0] 61 (0, 0))) 1).trans rfl; have neteX2 := Nat.ne_of_lt (blk_lt hxeX2); have nfteX2 := Ne.symm (Nat.ne_of_lt (blk_lt hxeX2)); have hxeX9 := (blk_kept (X9.out.below (below_alloc HX.out (.cells #[.bool false, .slice none 0 0] 61 (0, 0)))).1 hk (fun e_ => Kd.R_ne (Kd.R_below R9.out HX.out) (X9.out.below HX.out).1 (by decide) e_.symm)); have ye0X9 := (blk_cell hxeX9 0).trans rfl; have ye1X9 := (blk_cell hxeX9 1).trans rfl; have yze0X9 := (blk_cell (blk_alloc hxeX9 (.cells #[.bool false, .slice none 0 0] 61 (0, 0))) 0).trans rfl; have yze1X9 := (blk_cell (blk_alloc hxeX9 (.cells #[.bool false, .slice none 0 0] 61 (0, 0))) 1).trans rfl; have neteX9 := Nat.ne_of_lt (blk_lt hxeX9); have nfteX9 := Ne.symm (Nat.ne_of_lt (blk_lt hxeX9)); have BK := Aside0.mk (blk_kept (blk_new wo (.cells #[.bool false, .slice none 0 0] 61 (0, 0))) hk (fun e_ => Nat.lt_irrefl _ (Kd.R_lt (Kd.R_below R9.out HX.out) _ e_))); have hcz := blk_cells2 BK.out; have hfz := blk_frozen BK.out; have GX := Aside0.mk HX.out.size)); have R11 := Aside0.mk hr; have HW := Aside0.mk hb; clear hr hb hk; have hn0t := (blk_cell (blk_new wt (.cells #[.bool false, .slice none 0 0] 61 (0, 0))) 0).trans rfl; have hn1t := (blk_cell (blk_new wt (.cells #[.bool false, .slice none 0 0] 61 (0, 0))) 1).trans rfl; have hzt := blk_frozen (blk_new wt (.cells #[.bool false, .slice none 0 0] 61 (0, 0))))))
        all_goals go_wp2
        all_goals go_meet
        case rel => have p := Bx.new (w := w) (s := s11) R11.out (Nat.le_refl _); exact ⟨_, A11, c11, rfl, ⟨p.1⟩, ⟨below_step HW.out p.2.2⟩⟩
        case rel => have p := Bx.put3 (w := w) (s := s11) (R_type_box R11.out BK.out) (Nat.le_refl _) BK.out HW.out (Nat.le_trans HB.out.size GX.out) rfl; exact ⟨_, A11, c11, rfl, ⟨p.1⟩, ⟨p.2.2⟩⟩
        case rel => have p := Bx.put3 (w := w) (s := s11) (R_type_box R11.out BK.out) (Nat.le_refl _) BK.out HW.out HB.out.size rfl; exact ⟨_, A11, c11, rfl, ⟨p.1⟩, ⟨p.2.2⟩⟩
      case rest =>
        clear X2 X9 R9 HB
        obtain ⟨gm, A11, c11, rfl, X11, HB⟩ := hcut
        go_upto_region 9 with (first | (have tk_ := TK6; clear tk_ TK6; go_at_call 23; go_loud ((with_reducible refine (of_w kj 9223372036854775807 _ _ _ E12.out).mono ?_); rintro e wa9 ⟨v12, rfl, hv, hb⟩; have n_ := Aside0.mk (below_step HB.out hb); clear HB; have HB := n_; clear n_; have n_ := Aside0.mk (X11.out.below hb); clear X11; have X11 := n_; clear n_; have V12 := Aside0.mk hv; clear hv hb)) | (have tk_ := TK7; clear tk_ TK7; go_at_call 23; go_loud ((with_reducible refine (of_w kj 9223372036854775807 _ _ _ E13.out).mono ?_); rintro e wa10 ⟨v13, rfl, hv, hb⟩; have n_ := Aside0.mk (below_step HB.out hb); clear HB; have HB := n_; clear n_; have n_ := Aside0.mk (X11.out.below hb); clear X11; have X11 := n_; clear n_; have n_ := Aside0.mk (V12.out.below hb); clear V12; have V12 := n_; clear n_; have V13 := Aside0.mk hv; clear hv hb)) | (go_at_call 24; go_loud ((with_reducible refine (plus_w kj _ _ _ V12.out V13.out E14.out).mono ?_); rintro e wa11 ⟨A14, c14, rfl, hr, hb⟩; have n_ := Aside0.mk (below_step HB.out hb); clear HB; have HB := n_; clear n_; have n_ := Aside0.mk (X11.out.below hb); clear X11; have X11 := n_; clear n_; have n_ := Aside0.mk (V12.out.below hb); clear V12; have V12 := n_; clear n_; have n_ := Aside0.mk (V13.out.below hb); clear V13; have V13 := n_; clear n_; have R14 := Aside0.mk hr; clear hr hb)) | ((with_reducible refine gate_dst (N := 10) rfl ?_); refine box_event ?hg (N := 10) ?hd (cs := #[.bool false, .slice none 0 0]) (t := 61) ?hr ?_; (case hd => rfl); (case hg => rfl); (case hr => first | (go_simp; done) | (go_simp; rfl)); intro gw hg wb hbox hb; have BK := Aside0.mk hbox; have HX := Aside0.mk hb; have GE := Aside0.mk (Nat.le_of_eq hg.symm); clear hbox hb hg; have hcz := blk_cells2 BK.out; have hfz := blk_frozen BK.out))
        clear hcz hfz
        generalize hW : World.setCell (World.setCell _ ⟨gw, 0, none⟩ _) ⟨gw, 1, none⟩ _ = W_
        obtain ⟨hx_, hb_⟩ := Bx.put R14.out BK.out HX.out GE.out hW
        clear hW
        have n_ := Aside0.mk (below_step HB.out hb_)
        clear HB
        have HB := n_
        clear n_
        have n_ := Aside0.mk (X11.out.below hb_)
        clear X11
        have X11 := n_
        clear n_
        have n_ := Aside0.mk (V12.out.below hb_)
        clear V12
        have V12 := n_
        clear n_
        have n_ := Aside0.mk (V13.out.below hb_)
        clear V13
        have V13 := n_
        clear n_
        have n_ := Aside0.mk (Kd.R_below R14.out hb_)
        clear R14
        have R14 := n_
        clear n_
        have X14 := Aside0.mk hx_
        clear hx_ hb_ BK HX GE
        clear V12 V13 R14
        have hczX11 := blk_cells2 X11.out.1
        have hczX14 := blk_cells2 X14.out.1
        have h := H.out
        clear H
        by_cases cc : cm ≥ 0
        · rw [if_pos cc] at h
          have cb : decide (0 ≤ cm) = true := decide_eq_true cc
          obtain rfl := Option.some.inj h
          clear cc h
          go_wp2_with (first | (go_at_call 26; go_loud ((with_reducible refine (cmp_w kj cm _ X11.out.wh X14.out.wh EC.out).mono ?_); rintro e wz ⟨rfl, hb⟩; have n_ := Aside0.mk (below_step HB.out hb); clear HB; have HB := n_; clear n_; have n_ := Aside0.mk (X11.out.below hb); clear X11; have X11 := n_; clear n_; clear hb)))
          go_ret
          exact ⟨rfl, HB.out⟩
        · rw [if_neg cc] at h
          have cb : decide (0 ≤ cm) = false := decide_eq_false cc
          have H' := Aside0.mk h
          clear cc h
          try go_wp2_with (first | (go_at_call 26; go_loud ((with_reducible refine (cmp_w kj cm _ X11.out.wh X14.out.wh EC.out).mono ?_); rintro e wz ⟨rfl, hb⟩; have n_ := Aside0.mk (below_step HB.out hb); clear HB; have HB := n_; clear n_; have n_ := Aside0.mk (X11.out.below hb); clear X11; have X11 := n_; clear n_; clear hb)))
          clear hczX11 hczX14 cb X14
          go_loopg [11, 12] kj (fun kq v11 v12 w' => ∃ (x11 x12 : Int), v11 = .int .i64 x11 ∧ v12 = .int .i64 x12 ∧ Aside0 (windhoverref18_Stop.l0 kq x11 x12 s11 d11 = some r) ∧ Aside0 (kq ≤ kj) ∧ Aside0 (Bx w' gm s11 A11 c11 d11) ∧ Aside0 (Below w.heap.size w w'))
          case atStart => exact ⟨0, 9223372036854775807, rfl, rfl, H', ⟨Nat.le_refl _⟩, X11, HB⟩
          case round =>
            clear H' X11 HB
            obtain ⟨x11, x12, rfl, rfl, HA, HK2, X11, HB⟩ := hrel
            cases gk with
            | zero => exact absurd HA.out (by simp [windhoverref18_Stop.l0])
            | succ k2 =>
              have h := HA.out
              clear HA
              rw [windhoverref18_Stop.l0] at h
              by_cases cl : x11 < x12
              · rw [if_pos cl] at h
                have cb : decide (x11 < x12) = true := decide_eq_true cl
                clear cl
                obtain ⟨xm, hm⟩ : ∃ y_ : Int, wrap64 (x11 + (wrap64 (Int.tdiv (wrap64 (x12 - x11)) 2))) = y_ := ⟨_, rfl⟩
                rw [hm] at h
                replace h := Option.bind_eq_some_iff.mp h
                obtain ⟨⟨s20, d20⟩, e_, h⟩ := h
                have E20 := Aside0.mk e_
                clear e_
                replace h := Option.bind_eq_some_iff.mp h
                obtain ⟨⟨s21, d21⟩, e_, h⟩ := h
                have E21 := Aside0.mk e_
                clear e_
                replace h := Option.bind_eq_some_iff.mp h
                obtain ⟨cq, e_, h⟩ := h
                have E22 := Aside0.mk e_
                clear e_
                have H := Aside0.mk h
                clear h
                go_upto_region 16 with (first | (go_at_call 23; go_loud ((with_reducible refine (of_w k2 xm _ _ _ E20.out).mono ?_); rintro e wo ⟨v20, rfl, hv, hb⟩; obtain ⟨A20, c20, rfl, hl_, hC_⟩ := hv; have n_ := Aside0.mk (below_step HB.out hb); clear HB; have HB := n_; clear n_; have n_ := Aside0.mk (X11.out.below hb); clear X11; have X11 := n_; clear n_; have C20 := Aside0.mk (And.intro hl_ hC_); clear hl_ hC_ hb)) | ((with_reducible refine gate_dst (N := 14) rfl ?_); refine box_event ?hg (N := 14) ?hd (cs := #[.bool false, .slice none 0 0]) (t := 61) ?hr ?_; (case hd => rfl); (case hg => rfl); (case hr => first | (go_simp; done) | (go_simp; rfl)); intro gq hg wb hbox hb; have BK := Aside0.mk hbox; have HX := Aside0.mk hb; have GE := Aside0.mk (Nat.le_of_eq hg.symm); clear hbox hb hg; have hcz := blk_cells2 BK.out; have hfz := blk_frozen BK.out))
                clear hcz hfz
                generalize hW : World.setCell (World.setCell _ ⟨gq, 0, none⟩ _) ⟨gq, 1, none⟩ _ = W_
                obtain ⟨hx_, hb_⟩ := Bx.putC C20.out BK.out HX.out GE.out hW
                clear hW
                have n_ := Aside0.mk (below_step HB.out hb_)
                clear HB
                have HB := n_
                clear n_
                have n_ := Aside0.mk (X11.out.below hb_)
                clear X11
                have X11 := n_
                clear n_
                have X20 := Aside0.mk hx_
                clear hx_ hb_ BK HX GE C20
                have hb_ := below_drew1 (Below.refl W_.heap.size W_)
                have n_ := Aside0.mk (below_step HB.out hb_)
                clear HB
                have HB := n_
                clear n_
                have n_ := Aside0.mk (X11.out.below hb_)
                clear X11
                have X11 := n_
                clear n_
                have n_ := Aside0.mk (X20.out.below hb_)
                clear X20
                have X20 := n_
                clear n_
                clear hb_
                have ya0X11 := (blk_cell X11.out.1 0).trans rfl
                have ya1X11 := (blk_cell X11.out.1 1).trans rfl
                have ya0X20 := (blk_cell X20.out.1 0).trans rfl
                have ya1X20 := (blk_cell X20.out.1 1).trans rfl
                go_region_held3 (fun w' => w'.cell? ⟨gq, 0, none⟩ = some (.bool s20) ∧ w'.cell? ⟨gq, 1, none⟩ = some (.slice A20 d20.length c20) ∧ w'.cell? ⟨gm, 0, none⟩ = some (.bool s11) ∧ w'.cell? ⟨gm, 1, none⟩ = some (.slice A11 d11.length c11)) (go_keep) (first | (go_at_call 24; go_loud ((with_reducible refine (plus_w k2 _ _ _ X20.out.wh X20.out.wh E21.out).mono ?_); rintro e wp ⟨A21, c21, rfl, hr, hb⟩; have n_ := Aside0.mk (below_step HB.out hb); clear HB; have HB := n_; clear n_; have n_ := Aside0.mk (X11.out.below hb); clear X11; have X11 := n_; clear n_; have n_ := Aside0.mk (X20.out.below hb); clear X20; have X20 := n_; clear n_; have R21 := Aside0.mk hr; clear hr hb; have yb0X11 := (blk_cell X11.out.1 0).trans rfl; have yb1X11 := (blk_cell X11.out.1 1).trans rfl; have yb0X20 := (blk_cell X20.out.1 0).trans rfl; have yb1X20 := (blk_cell X20.out.1 1).trans rfl)) | (go_at_call 26; go_loud ((with_reducible refine (cmp_w k2 cq _ (wh_R R21.out) X11.out.wh E22.out).mono ?_); rintro e wz ⟨rfl, hb⟩; have n_ := Aside0.mk (below_step HB.out hb); clear HB; have HB := n_; clear n_; have n_ := Aside0.mk (X11.out.below hb); clear X11; have X11 := n_; clear n_; have n_ := Aside0.mk (X20.out.below hb); clear X20; have X20 := n_; clear n_; clear hb R21; have yc0X11 := (blk_cell X11.out.1 0).trans rfl; have yc1X11 := (blk_cell X11.out.1 1).trans rfl; have yc0X20 := (blk_cell X20.out.1 0).trans rfl; have yc1X20 := (blk_cell X20.out.1 1).trans rfl)))
                have h := H.out
                clear H
                by_cases cz : cq ≥ 0
                · rw [if_pos cz] at h
                  have cd : decide (0 ≤ cq) = true := decide_eq_true cz
                  go_wp2
                  all_goals (first | (exfalso; exact absurd ‹cq < 0› (Int.not_lt.mpr cz)) | skip)
                  go_roundg k2
                  case measure => have := HK2.out; omega
                  case rel => exact ⟨x11, xm, rfl, rfl, ⟨h⟩, ⟨by have := HK2.out; omega⟩, X11, HB⟩
                · rw [if_neg cz] at h
                  have cd : decide (0 ≤ cq) = false := decide_eq_false cz
                  go_wp2
                  all_goals (first | (exfalso; exact cz ‹cq ≥ 0›) | (exfalso; exact cz ‹0 ≤ cq›) | (exfalso; exact cz (Int.not_lt.mp ‹¬ cq < 0›)) | skip)
                  go_roundg k2
                  case measure => have := HK2.out; omega
                  case rel => exact ⟨wrap64 (xm + 1), x12, rfl, rfl, ⟨h⟩, ⟨by have := HK2.out; omega⟩, X11, HB⟩
              · rw [if_neg cl] at h
                have cb : decide (x11 < x12) = false := decide_eq_false cl
                clear cl
                obtain rfl := Option.some.inj h
                go_wp2
                go_ret
                exact ⟨rfl, HB.out⟩
