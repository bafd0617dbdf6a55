-- WRITTEN BY wip/tools/aprint.py of this claim's repository over the kit's words: not typed by hand
import Derived.Test.YtmmlahckcgjofaaPPowerRisesx0
import Derived.Test.YtmmlahckcgjofaaPPowerRisesx3
namespace Go.Proofs.Ytmmlahckcgjofaa.PPowerRises
open Go.RowKit Go.Proofs.YtmmlahckcgjofaaW.PrintWords Go.Proofs.YtmmlahckcgjofaaW.PrintLast Go.Proofs.YtmmlahckcgjofaaW.PrintMore
attribute [local go_sem] max2_int min2_int max_two min_two max_three min_three max_four min_four   -- for this text's walks alone
set_option linter.unusedVariables false
set_option linter.unusedSimpArgs false

/-- A battery at block g of W, with a row of its own, older than it. -/
def IsS63 (w0 W : World) (g : Nat) (f0 : List Int) (f1 : Int) (f2 : Bool) (f3 : Int) (f4 : Int) : Prop := ∃ A0 c0, W.heap[g]? = some (.cells #[.slice A0 f0.length c0, .int .i64 f1, .bool f2, .int .i64 f3, .int .i64 f4] 63 (0, 0)) ∧ w0.heap.size ≤ g ∧ Kd.R (Kd.int .i64) 3 W w0.heap.size (fun k => k < g) (.slice A0 f0.length c0) f0
section
variable {w0 W : World} {g : Nat} {f0 : List Int} {f1 : Int} {f2 : Bool} {f3 f4 : Int}
theorem IsS63.below {W1 : World} (h : IsS63 w0 W g f0 f1 f2 f3 f4) (hw : Below W.heap.size W W1) : IsS63 w0 W1 g f0 f1 f2 f3 f4 := by
  obtain ⟨A0, c0, hb, hg, hr0⟩ := h
  exact ⟨A0, c0, blk_below hb hw, hg, Kd.R_below hr0 hw⟩
theorem IsS63.fresh (h : IsS63 w0 W g f0 f1 f2 f3 f4) : ∀ k, W.heap.size ≤ k → k ≠ g := by
  obtain ⟨A0, c0, hb, hg, hr0⟩ := h
  exact Kd.freshB hb
theorem IsS63.alloc (h : IsS63 w0 W g f0 f1 f2 f3 f4) (o : Obj) : IsS63 w0 (W.alloc o) g f0 f1 f2 f3 f4 := h.below (below_alloc (Below.refl _ _) o)
theorem IsS63.drewN (h : IsS63 w0 W g f0 f1 f2 f3 f4) (m : Nat) : IsS63 w0 (W.drewN m) g f0 f1 f2 f3 f4 := h.below (pw_below_drewN (Below.refl _ _) m)
theorem IsS63.drew (h : IsS63 w0 W g f0 f1 f2 f3 f4) : IsS63 w0 W.drew g f0 f1 f2 f3 f4 := h.below (below_drew1 (Below.refl _ _))
theorem IsS63.at_ {w' : World} {m : Nat} (hq : W.drewN m = w') (h : IsS63 w0 W g f0 f1 f2 f3 f4) : IsS63 w0 w' g f0 f1 f2 f3 f4 := by subst hq; exact IsS63.drewN h m
theorem IsS63.apart {α : Type} {d : Kd α} {e : Nat} {base : Nat} {ok : Nat → Prop} {v : Value} {xs : List α} (h : IsS63 w0 W g f0 f1 f2 f3 f4) (ho : d.R e W base ok v xs) (ht : ∀ q, q ∈ e :: d.E → q ≠ 63) : d.R e W base (fun k => ok k ∧ k ≠ g) v xs := by
  obtain ⟨A0, c0, hb, hg, hr0⟩ := h
  exact Kd.R_types ho hb ht
theorem IsS63.own_ne {α : Type} {d : Kd α} {e : Nat} {base : Nat} {ok : Nat → Prop} {v : Value} {xs : List α} (h : IsS63 w0 W g f0 f1 f2 f3 f4) (ho : d.R e W base ok v xs) (ht : e ≠ 63) : some g ≠ v.ownBlock := by
  obtain ⟨A0, c0, hb, hg, hr0⟩ := h
  exact Kd.R_ne ho hb ht
theorem IsS63.apartS {α : Type} {d : Kd α} {e : Nat} {base : Nat} {ok : Nat → Prop} {v : Value} {xs : List α} (h : IsS63 w0 W g f0 f1 f2 f3 f4) (ho : d.S e W base ok v xs) (ht : ∀ q, q ∈ e :: d.E → q ≠ 63) : d.S e W base (fun k => ok k ∧ k ≠ g) v xs := by
  obtain ⟨A0, c0, hb, hg, hr0⟩ := h
  exact Kd.S_types ho hb ht
theorem IsS63.own_neS {α : Type} {d : Kd α} {e : Nat} {base : Nat} {ok : Nat → Prop} {v : Value} {xs : List α} (h : IsS63 w0 W g f0 f1 f2 f3 f4) (ho : d.S e W base ok v xs) (ht : e ≠ 63) : some g ≠ v.ownBlock := by
  obtain ⟨A0, c0, hb, hg, hr0⟩ := h
  exact Kd.S_ne ho hb ht
theorem IsS63.lt (h : IsS63 w0 W g f0 f1 f2 f3 f4) : g < W.heap.size := by
  obtain ⟨A0, c0, hb, hg, hr0⟩ := h
  exact blk_lt hb
theorem IsS63.ge (h : IsS63 w0 W g f0 f1 f2 f3 f4) : w0.heap.size ≤ g := by
  obtain ⟨A0, c0, hb, hg, hr0⟩ := h
  exact hg
theorem IsS63.far {p : Addr} (h : IsS63 w0 W g f0 f1 f2 f3 f4) (hne : g < p.block) (u : Value) : IsS63 w0 (W.setCell p u) g f0 f1 f2 f3 f4 := by
  obtain ⟨A0, c0, hb, hg, hr0⟩ := h
  exact ⟨A0, c0, blk_far hb (Nat.ne_of_lt hne) u, hg, Kd.R_far hr0 (fun k hk => Nat.ne_of_lt (Nat.lt_trans hk hne)) u⟩
theorem IsS63.farb {b_ o_ : Nat} {u : Value} (hne : g < b_) (h : IsS63 w0 W g f0 f1 f2 f3 f4) : IsS63 w0 (W.setCell ⟨b_, o_, none⟩ u) g f0 f1 f2 f3 f4 := h.far hne u
theorem IsS63.set_1 (h : IsS63 w0 W g f0 f1 f2 f3 f4) (x : Int) : IsS63 w0 (W.setCell ⟨g, 1, none⟩ (.int .i64 x)) g f0 x f2 f3 f4 := by
  obtain ⟨A0, c0, hb, hg, hr0⟩ := h
  exact ⟨A0, c0, by simpa using blk_set hb 1 (.int .i64 x), hg, Kd.R_far hr0 (fun k hk => Nat.ne_of_lt hk) _⟩
theorem IsS63.set_2 (h : IsS63 w0 W g f0 f1 f2 f3 f4) (x : Bool) : IsS63 w0 (W.setCell ⟨g, 2, none⟩ (.bool x)) g f0 f1 x f3 f4 := by
  obtain ⟨A0, c0, hb, hg, hr0⟩ := h
  exact ⟨A0, c0, by simpa using blk_set hb 2 (.bool x), hg, Kd.R_far hr0 (fun k hk => Nat.ne_of_lt hk) _⟩
theorem IsS63.set_3 (h : IsS63 w0 W g f0 f1 f2 f3 f4) (x : Int) : IsS63 w0 (W.setCell ⟨g, 3, none⟩ (.int .i64 x)) g f0 f1 f2 x f4 := by
  obtain ⟨A0, c0, hb, hg, hr0⟩ := h
  exact ⟨A0, c0, by simpa using blk_set hb 3 (.int .i64 x), hg, Kd.R_far hr0 (fun k hk => Nat.ne_of_lt hk) _⟩
theorem IsS63.set_4 (h : IsS63 w0 W g f0 f1 f2 f3 f4) (x : Int) : IsS63 w0 (W.setCell ⟨g, 4, none⟩ (.int .i64 x)) g f0 f1 f2 f3 x := by
  obtain ⟨A0, c0, hb, hg, hr0⟩ := h
  exact ⟨A0, c0, by simpa using blk_set hb 4 (.int .i64 x), hg, Kd.R_far hr0 (fun k hk => Nat.ne_of_lt hk) _⟩
theorem IsS63.keep {W1 : World} {g2 : Nat} {e0 : List Int} {e1 : Int} {e2 : Bool} {e3 e4 : Int} (h : IsS63 w0 W g f0 f1 f2 f3 f4) (h2 : IsS63 w0 W g2 e0 e1 e2 e3 e4) (hk : KeepBut W W1 g2 none) (hne : g ≠ g2) : IsS63 w0 W1 g f0 f1 f2 f3 f4 := by
  obtain ⟨A0, c0, hb, hg, hr0⟩ := h
  obtain ⟨A2, c2, hb2, _, _⟩ := h2
  exact ⟨A0, c0, KeepBut.blk hk hb hne (by simp), hg, Kd.R_mono (Kd.R_keep (Kd.R_types hr0 hb2 (by decide)) hk (fun _ h => h.2)) (fun _ h => h.1)⟩
end
/-! ### power_New: function 8, by hand -/
def power_New.f (k : Nat) (l0 : List Int) : Option (List Int × Int × Bool × Int × Int × Int) := (params_Margins.f k l0).bind fun m => if m.2.2.2.2.2.2 = 0 then (if l0.length < 17592186044416 then some (l0, m.2.2.2.2.2.1, false, 0, 0, 0) else none) else some ([], 0, false, 0, 0, m.2.2.2.2.2.2)
theorem power_New.mono : ∀ a0 k, LeO (power_New.f k a0) (power_New.f (k + 1) a0) := by
  intro a0 k
  unfold power_New.f
  exact LeO.bind (params_Margins.mono _ _) (fun _ => LeO.refl _)
set_option maxHeartbeats 8000000 in
set_option maxRecDepth 100000 in
theorem power_New.callsNil (k : Nat) (A0 : Option Addr) (c0 : Nat) (l0 : List Int) (r1 : List Int) (r2 : Int) (r3 : Bool) (r4 r5 r6 : Int) (w : World) (hr0 : Kd.C (Kd.int .i64) w A0 l0.length l0) (hc0 : l0.length ≤ c0) (h : power_New.f k l0 = some (r1, r2, r3, r4, r5, r6)) (hz : (r6 == 0) = false) :
    Calls Try.prog 8 #[.slice A0 l0.length c0] w fun e w' => e = .returned (.tuple #[.pointer none, .int .i64 r6]) ∧ Below w.heap.size w w' := by
  replace hz := beq_eq_false_iff_ne.mp hz
  unfold power_New.f at h
  replace h := Option.bind_eq_some_iff.mp h
  obtain ⟨⟨t1, t2, t3, t4, t5, t6, t7⟩, e0, h⟩ := h
  dsimp only at h
  by_cases c : t7 = 0
  · rw [if_pos c] at h
    by_cases c6 : l0.length < 17592186044416
    · rw [if_pos c6] at h
      simp only [Option.some.injEq, Prod.mk.injEq] at h
      exact absurd h.2.2.2.2.2.symm hz
    · rw [if_neg c6] at h; cases h
  · rw [if_neg c] at h
    simp only [Option.some.injEq, Prod.mk.injEq] at h
    obtain ⟨rfl, rfl, rfl, rfl, rfl, rfl⟩ := h
    have E0 := Aside0.mk e0
    have cb : (t7 != 0) = true := bne_iff_ne.mpr c
    have HR0 := Aside0.mk hr0
    have HC0 := Aside0.mk hc0
    have hu54 := Try.underlying54
    have HB := Aside0.mk (Below.refl w.heap.size w)
    clear hr0 hc0 e0 c hz
    go_enter Try.func8, Try.ntmps8
    go_wp2_with (first | (go_at_call 18; (with_reducible refine (params_Margins.calls k A0 c0 l0 t1 t2 t3 t4 t5 t6 t7 _ (Kd.C_below HR0.out HB.out) HC0.out E0.out).mono ?_); rintro e w3 ⟨rfl, hb⟩; have n0_ := Aside0.mk (below_step HB.out hb); clear HB; have HB := n0_; clear n0_ hb) | ((with_reducible refine gate_dst (N := 4) rfl ?_); refine box_event ?hg (N := 4) ?hd (cs := #[.int .i64 0, .int .i64 0, .int .i64 0, .int .i64 0, .int .i64 0, .int .i64 0]) (t := 54) ?hr ?_; (case hd => rfl); (case hg => rfl); (case hr => first | (go_simp; done) | (go_simp; rfl)); intro gm hg w4 hbox hb; have n0_ := Aside0.mk (below_step HB.out hb); have GM := Aside0.mk (show w.heap.size ≤ gm by rw [hg]; exact HB.out.size); clear HB; have HB := n0_; clear n0_; have BK := Aside0.mk hbox; clear hb hbox hg; have hcz := blk_cells6 (w := w4) (g := gm) BK.out; have hfz := blk_frozen BK.out))
    go_ret2
    exact ⟨rfl, by repeat (first | (with_reducible first | exact HB.out | apply below_alloc | apply pw_below_drewN | apply below_drew1 | refine below_set ?_ GM.out) | exact HB.out)⟩
set_option maxHeartbeats 8000000 in
set_option maxRecDepth 100000 in
theorem power_New.callsNew (k : Nat) (A0 : Option Addr) (c0 : Nat) (l0 : List Int) (r1 : List Int) (r2 : Int) (r3 : Bool) (r4 r5 r6 : Int) (w0 w : World) (hB : Below w0.heap.size w0 w) (hr0 : Kd.C (Kd.int .i64) w A0 l0.length l0) (hc0 : l0.length ≤ c0) (h : power_New.f k l0 = some (r1, r2, r3, r4, r5, r6)) (hz : (r6 == 0) = true) :
    Calls Try.prog 8 #[.slice A0 l0.length c0] w fun e w' => ∃ g_ : Nat, e = .returned (.tuple #[.pointer (some ⟨g_, 0, none⟩), .int .i64 r6]) ∧ IsS63 w0 w' g_ r1 r2 r3 r4 r5 ∧ Below w0.heap.size w0 w' ∧ Below w.heap.size w w' ∧ w.heap.size ≤ g_ := by
  obtain rfl := beq_iff_eq.mp hz
  clear hz
  unfold power_New.f at h
  replace h := Option.bind_eq_some_iff.mp h
  obtain ⟨⟨t1, t2, t3, t4, t5, t6, t7⟩, e0, h⟩ := h
  dsimp only at h
  by_cases c : t7 = 0
  · rw [if_pos c] at h
    by_cases c6 : l0.length < 17592186044416
    · rw [if_pos c6] at h
      simp only [Option.some.injEq, Prod.mk.injEq] at h
      obtain ⟨rfl, rfl, rfl, rfl, rfl, _⟩ := h
      have E0 := Aside0.mk e0
      have cb : (t7 != 0) = false := bne_eq_false_iff_eq.mpr c
      have HR0 := Aside0.mk hr0
      have HC0 := Aside0.mk hc0
      have HB0 := Aside0.mk hB
      have HL := Aside0.mk c6
      have hu54 := Try.underlying54
      have hu63 := Try.underlying63
      have HB := Aside0.mk (Below.refl w.heap.size w)
      clear hr0 hc0 e0 c hB c6
      go_enter Try.func8, Try.ntmps8
      go_wp2_with (first | (go_at_call 18; (with_reducible refine (params_Margins.calls k A0 c0 l0 t1 t2 t3 t4 t5 t6 t7 _ (Kd.C_below HR0.out HB.out) HC0.out E0.out).mono ?_); rintro e w3 ⟨rfl, hb⟩; have n0_ := Aside0.mk (below_step HB.out hb); clear HB; have HB := n0_; clear n0_ hb) | ((with_reducible refine gate_dst (N := 4) rfl ?_); refine box_event ?hg (N := 4) ?hd (cs := #[.int .i64 0, .int .i64 0, .int .i64 0, .int .i64 0, .int .i64 0, .int .i64 0]) (t := 54) ?hr ?_; (case hd => rfl); (case hg => rfl); (case hr => first | (go_simp; done) | (go_simp; rfl)); intro gm hg w4 hbox hb; have n0_ := Aside0.mk (below_step HB.out hb); have GM := Aside0.mk (show w.heap.size ≤ gm by rw [hg]; exact HB.out.size); clear HB; have HB := n0_; clear n0_; have BK := Aside0.mk hbox; clear hb hbox hg; have hcz := blk_cells6 (w := w4) (g := gm) BK.out; have hfz := blk_frozen BK.out)
        )
      clear hcz hfz
      obtain ⟨W, hW⟩ : ∃ W, W = ((((((w4.setCell ⟨gm, 0, none⟩ (.int .i64 t1)).setCell ⟨gm, 1, none⟩ (.int .i64 t2)).setCell ⟨gm, 2, none⟩ (.int .i64 t3)).setCell ⟨gm, 3, none⟩ (.int .i64 t4)).setCell ⟨gm, 4, none⟩ (.int .i64 t5)).setCell ⟨gm, 5, none⟩ (.int .i64 t6)) := ⟨_, rfl⟩
      rw [← hW]
      have B2 := Aside0.mk (show W.heap[gm]? = some (.cells #[.int .i64 t1, .int .i64 t2, .int .i64 t3, .int .i64 t4, .int .i64 t5, .int .i64 t6] 54 (0, 0)) from by rw [hW]; exact blk_put (blk_put (blk_put (blk_put (blk_put (blk_put BK.out 0 _ rfl) 1 _ rfl) 2 _ rfl) 3 _ rfl) 4 _ rfl) 5 _ rfl)
      have HBW := Aside0.mk (show Below w.heap.size w W from by rw [hW]; exact below_set (below_set (below_set (below_set (below_set (below_set HB.out GM.out) GM.out) GM.out) GM.out) GM.out) GM.out)
      clear hW BK HB
      have x5 : W.cell? ⟨gm, 5, none⟩ = some (.int .i64 t6) := (blk_cell B2.out 5).trans rfl
      have HOL := Aside0.mk (show Kd.R (Kd.int .i64) 3 (W.alloc (.cells #[] 3)) w.heap.size (fun _ => True) (.slice (some ⟨W.heap.size, 0, none⟩) 0 0) ([] : List Int) from ⟨fun _ _ => trivial, [], by simpa using World.ownsRow_made (e := 3) W (base := w.heap.size) (size := (Kd.int .i64).sz) #[] 0 HBW.out.size (by simp [maxLen]) (by simp), ⟨by simp, fun j p hj => by simp at hj⟩⟩)
      have HBL := Aside0.mk (show Below w.heap.size w (W.alloc (.cells #[] 3)) from below_alloc HBW.out _)
      have B2L := Aside0.mk (blk_alloc B2.out (.cells #[] 3))
      go_region_held3 (fun w' => w'.cell? ⟨gm, 5, none⟩ = some (.int .i64 t6)) (go_keep)
        (first
        | ((refine Kd.R_append_rows_step (Kd.int .i64) (w0 := w) w.heap.size (by rfl) (.tmp 14) (.tmp 15) 22 3 (.int .i64 0) 8 rfl Try.underlying22 info3 rfl (by decide) (by omega) _ ([] : List Int) l0 _ _ _ (fun _ => True) (fun _ => False) rfl rfl ?aO ?aR (fun _ _ h => h) (fun _ h => h.elim) ?aF ?aB ?aS ?aL ?_); (case aO => (with_reducible repeat (first | apply Kd.R_drewN | apply Kd.R_drew)); exact HOL.out); (case aR => exact Kd.C_below HR0.out (below_drew1 HBL.out)); (case aF => exact (fun _ _ => trivial)); (case aB => exact below_drew1 HBL.out); (case aS => exact below_size (below_drew1 HBL.out)); (case aL => have := HL.out; simp only [List.length_nil]; omega); intro va wa ho hb hg hat; rw [List.nil_append] at ho; have HBA := Aside0.mk hb; have B3 := Aside0.mk (blk_grown (g := gm) (o := .cells #[.int .i64 t1, .int .i64 t2, .int .i64 t3, .int .i64 t4, .int .i64 t5, .int .i64 t6] 54 (0, 0)) (by (with_reducible repeat (first | refine blk_drewN ?_ _ | refine blk_drew ?_)); exact B2L.out) hg (Kd.R_ne HOL.out B2L.out (by decide))); obtain ⟨Ao, co, eo⟩ := Kd.R_slice ho; subst eo; have HOA := Aside0.mk ho; clear ho hb hg hat; have x5a : wa.cell? ⟨gm, 5, none⟩ = some (.int .i64 t6) := (blk_cell B3.out 5).trans rfl)
        )
      all_goals (try go_wp2)
      go_ret2
      exact ⟨_, rfl, ⟨_, _, by simpa using heap_alloc_new wa _, Nat.le_trans HB0.out.size (below_size HBA.out), Kd.R_lower (Kd.R_flat (fun h_ => h_) (Kd.R_alloc HOA.out _) (fun k hk _ => Kd.R_lt HOA.out k hk)) HB0.out.size⟩, below_step HB0.out (below_alloc HBA.out _), below_alloc HBA.out _, below_size HBA.out⟩
    · rw [if_neg c6] at h; cases h
  · rw [if_neg c] at h
    simp only [Option.some.injEq, Prod.mk.injEq] at h
    exact absurd h.2.2.2.2.2 c


/-! ### fix_Sub: function 23 -/
def fix_Sub.j0 : Nat → Int → Int → Int → Bool → Option (Int)
  | 0, _, _, _, _ => none
  | k + 1, x0, x1, x5, x9 => if x9 = true then (some 9223372036854775807) else (if x0 < 0 then (if x1 > 0 then (if x5 ≥ 0 then (some (-9223372036854775808)) else (some x5)) else (some x5)) else (some x5))
def fix_Sub.f (k : Nat) (a0 : Int) (a1 : Int) : Option (Int) := if a0 ≥ 0 then (if a1 < 0 then (fix_Sub.j0 k a0 a1 (wrap64 (a0 - a1)) (decide ((wrap64 (a0 - a1)) < 0))) else (fix_Sub.j0 k a0 a1 (wrap64 (a0 - a1)) false)) else (fix_Sub.j0 k a0 a1 (wrap64 (a0 - a1)) false)
theorem fix_Sub.mono_l : ∀ k, (∀ y0 y1 y2 y3, LeO (fix_Sub.j0 k y0 y1 y2 y3) (fix_Sub.j0 (k + 1) y0 y1 y2 y3))
  | 0 => fun _ _ _ _ r h => by simp [fix_Sub.j0] at h
  | k + 1 => by
    have ih0 := fix_Sub.mono_l k
    · intro y0 y1 y2 y3
      unfold fix_Sub.j0
      repeat' first
      | (with_reducible exact ih0 _ _ _ _)
      | (with_reducible exact LeO.refl _)
      | (with_reducible exact LeO.none _)
      | (with_reducible refine LeO.ite ?_ ?_)
      | (with_reducible refine LeO.bind ?_ (fun _ => ?_))
      | exact ih0 _ _ _ _
      | exact LeO.none _
      | refine LeO.ite ?_ ?_
      | refine LeO.bind ?_ (fun _ => ?_)
theorem fix_Sub.mono : ∀ a0 a1 k, LeO (fix_Sub.f k a0 a1) (fix_Sub.f (k + 1) a0 a1) := by
  intro a0 a1 k
  have ih0 := fix_Sub.mono_l k
  unfold fix_Sub.f
  repeat' first
      | (with_reducible exact ih0 _ _ _ _)
      | (with_reducible exact LeO.refl _)
      | (with_reducible exact LeO.none _)
      | (with_reducible refine LeO.ite ?_ ?_)
      | (with_reducible refine LeO.bind ?_ (fun _ => ?_))
      | exact ih0 _ _ _ _
      | exact LeO.none _
      | refine LeO.ite ?_ ?_
      | refine LeO.bind ?_ (fun _ => ?_)
set_option maxHeartbeats 8000000 in
set_option maxRecDepth 100000 in
theorem fix_Sub.calls (k : Nat) (a0 : Int) (a1 : Int) (r : Int) (w : World) (h : fix_Sub.f k a0 a1 = some r) :
    Calls Try.prog 23 #[.int .i64 a0, .int .i64 a1] w fun e w' => e = .returned (.int .i64 r) ∧ Drawn0 w w' := by
  have H : (if a0 ≥ 0 then (if a1 < 0 then (fix_Sub.j0 k a0 a1 (wrap64 (a0 - a1)) (decide ((wrap64 (a0 - a1)) < 0))) else (fix_Sub.j0 k a0 a1 (wrap64 (a0 - a1)) false)) else (fix_Sub.j0 k a0 a1 (wrap64 (a0 - a1)) false)) = some r := h
  clear h
  have HC3 := Aside0.mk H
  clear H
  go_enter Try.func23, Try.ntmps23
  go_upto_region 2 with (fail)
  go_cut [9] (fun v9 wc => ∃ (kq : Nat) (x9_2 : Bool), v9 = .bool x9_2 ∧ Aside0 (fix_Sub.j0 kq a0 a1 (wrap64 (a0 - a1)) x9_2 = some r) ∧ Aside0 (kq ≤ k) ∧ Drawn0 w wc)
  case first =>
    have H := HC3.out
    clear HC3
    by_cases c4 : a0 ≥ 0
    · rw [if_pos c4] at H
      have c4b0 : decide (0 ≤ a0) = true := decide_eq_true c4
      clear c4
      (first | rw [c4b0] | (simp only [i64_w, i32_w]; rw [c4b0]) | skip)
      by_cases c5 : a1 < 0
      · rw [if_pos c5] at H
        have c5b0 : decide (a1 < 0) = true := decide_eq_true c5
        clear c5
        have H' := Aside0.mk H
        clear H
        go_wp2
        go_meet
        case rel => exact ⟨_, (decide ((wrap64 (a0 - a1)) < 0)), (by first | rfl | (simp; done) | (simp [*]; done)), H', ⟨by first | omega | exact Nat.le_refl _⟩, by repeat (first | exact Drawn0.refl _ | apply Drawn0.step)⟩
      · rw [if_neg c5] at H
        have c5b0 : decide (a1 < 0) = false := decide_eq_false c5
        clear c5
        have H' := Aside0.mk H
        clear H
        go_wp2
        go_meet
        case rel => exact ⟨_, (false), (by first | rfl | (simp; done) | (simp [*]; done)), H', ⟨by first | omega | exact Nat.le_refl _⟩, by repeat (first | exact Drawn0.refl _ | apply Drawn0.step)⟩
    · rw [if_neg c4] at H
      have c4b0 : decide (0 ≤ a0) = false := decide_eq_false c4
      clear c4
      (first | rw [c4b0] | (simp only [i64_w, i32_w]; rw [c4b0]) | skip)
      have H' := Aside0.mk H
      clear H
      go_wp2
      go_meet
      case rel => exact ⟨_, (false), (by first | rfl | (simp; done) | (simp [*]; done)), H', ⟨by first | omega | exact Nat.le_refl _⟩, by repeat (first | exact Drawn0.refl _ | apply Drawn0.step)⟩
  case rest =>
    clear HC3
    try clear c2
    try clear p2
    try clear c4
    try clear c4b0
    try clear c5
    try clear c5b0
    obtain ⟨kq, x9_2, rfl, HA, HJ2, ⟨mc2, rfl⟩⟩ := hcut
    cases kq with
    | zero => exact absurd HA.out (by simp [fix_Sub.j0])
    | succ kj2 =>
      have H := HA.out
      clear HA
      simp only [fix_Sub.j0] at H
      by_cases c6 : x9_2 = true
      · subst c6
        have H1 : (some 9223372036854775807) = some r := by rw [if_pos rfl] at H; exact H
        clear H
        have H := H1
        clear H1
        obtain rfl := Option.some.inj H
        go_wp2
        go_ret
        exact ⟨by first | rfl | (simp; done) | (simp [*]; done), by repeat (first | exact Drawn0.refl _ | apply Drawn0.step)⟩
      · replace c6 := Bool.eq_false_iff.mpr c6
        subst c6
        have H1 : (if a0 < 0 then (if a1 > 0 then (if (wrap64 (a0 - a1)) ≥ 0 then (some (-9223372036854775808)) else (some (wrap64 (a0 - a1)))) else (some (wrap64 (a0 - a1)))) else (some (wrap64 (a0 - a1)))) = some r := by rw [if_neg (show ¬ (false = true) by decide)] at H; exact H
        clear H
        have H := H1
        clear H1
        by_cases c7 : a0 < 0
        · rw [if_pos c7] at H
          have c7b0 : decide (a0 < 0) = true := decide_eq_true c7
          clear c7
          by_cases c8 : a1 > 0
          · rw [if_pos c8] at H
            have c8b0 : decide (0 < a1) = true := decide_eq_true c8
            clear c8
            by_cases c9 : (wrap64 (a0 - a1)) ≥ 0
            · rw [if_pos c9] at H
              have c9b0 : decide (0 ≤ (wrap64 (a0 - a1))) = true := decide_eq_true c9
              clear c9
              obtain rfl := Option.some.inj H
              go_wp2
              go_ret
              exact ⟨by first | rfl | (simp; done) | (simp [*]; done), by repeat (first | exact Drawn0.refl _ | apply Drawn0.step)⟩
            · rw [if_neg c9] at H
              have c9b0 : decide (0 ≤ (wrap64 (a0 - a1))) = false := decide_eq_false c9
              clear c9
              obtain rfl := Option.some.inj H
              go_wp2
              go_ret
              exact ⟨by first | rfl | (simp; done) | (simp [*]; done), by repeat (first | exact Drawn0.refl _ | apply Drawn0.step)⟩
          · rw [if_neg c8] at H
            have c8b0 : decide (0 < a1) = false := decide_eq_false c8
            clear c8
            obtain rfl := Option.some.inj H
            go_wp2
            go_ret
            exact ⟨by first | rfl | (simp; done) | (simp [*]; done), by repeat (first | exact Drawn0.refl _ | apply Drawn0.step)⟩
        · rw [if_neg c7] at H
          have c7b0 : decide (a0 < 0) = false := decide_eq_false c7
          clear c7
          obtain rfl := Option.some.inj H
          go_wp2
          go_ret
          exact ⟨by first | rfl | (simp; done) | (simp [*]; done), by repeat (first | exact Drawn0.refl _ | apply Drawn0.step)⟩

/-! ### fix_Add: function 24 -/
def fix_Add.j0 : Nat → Int → Int → Int → Bool → Option (Int)
  | 0, _, _, _, _ => none
  | k + 1, x0, x1, x5, x9 => if x9 = true then (some 9223372036854775807) else (if x0 < 0 then (if x1 < 0 then (if x5 ≥ 0 then (some (-9223372036854775808)) else (some x5)) else (some x5)) else (some x5))
def fix_Add.f (k : Nat) (a0 : Int) (a1 : Int) : Option (Int) := if a0 > 0 then (if a1 > 0 then (fix_Add.j0 k a0 a1 (wrap64 (a0 + a1)) (decide ((wrap64 (a0 + a1)) < 0))) else (fix_Add.j0 k a0 a1 (wrap64 (a0 + a1)) false)) else (fix_Add.j0 k a0 a1 (wrap64 (a0 + a1)) false)
theorem fix_Add.mono_l : ∀ k, (∀ y0 y1 y2 y3, LeO (fix_Add.j0 k y0 y1 y2 y3) (fix_Add.j0 (k + 1) y0 y1 y2 y3))
  | 0 => fun _ _ _ _ r h => by simp [fix_Add.j0] at h
  | k + 1 => by
    have ih0 := fix_Add.mono_l k
    · intro y0 y1 y2 y3
      unfold fix_Add.j0
      repeat' first
      | (with_reducible exact ih0 _ _ _ _)
      | (with_reducible exact LeO.refl _)
      | (with_reducible exact LeO.none _)
      | (with_reducible refine LeO.ite ?_ ?_)
      | (with_reducible refine LeO.bind ?_ (fun _ => ?_))
      | exact ih0 _ _ _ _
      | exact LeO.none _
      | refine LeO.ite ?_ ?_
      | refine LeO.bind ?_ (fun _ => ?_)
theorem fix_Add.mono : ∀ a0 a1 k, LeO (fix_Add.f k a0 a1) (fix_Add.f (k + 1) a0 a1) := by
  intro a0 a1 k
  have ih0 := fix_Add.mono_l k
  unfold fix_Add.f
  repeat' first
      | (with_reducible exact ih0 _ _ _ _)
      | (with_reducible exact LeO.refl _)
      | (with_reducible exact LeO.none _)
      | (with_reducible refine LeO.ite ?_ ?_)
      | (with_reducible refine LeO.bind ?_ (fun _ => ?_))
      | exact ih0 _ _ _ _
      | exact LeO.none _
      | refine LeO.ite ?_ ?_
      | refine LeO.bind ?_ (fun _ => ?_)
set_option maxHeartbeats 8000000 in
set_option maxRecDepth 100000 in
theorem fix_Add.calls (k : Nat) (a0 : Int) (a1 : Int) (r : Int) (w : World) (h : fix_Add.f k a0 a1 = some r) :
    Calls Try.prog 24 #[.int .i64 a0, .int .i64 a1] w fun e w' => e = .returned (.int .i64 r) ∧ Drawn0 w w' := by
  have H : (if a0 > 0 then (if a1 > 0 then (fix_Add.j0 k a0 a1 (wrap64 (a0 + a1)) (decide ((wrap64 (a0 + a1)) < 0))) else (fix_Add.j0 k a0 a1 (wrap64 (a0 + a1)) false)) else (fix_Add.j0 k a0 a1 (wrap64 (a0 + a1)) false)) = some r := h
  clear h
  have HC3 := Aside0.mk H
  clear H
  go_enter Try.func24, Try.ntmps24
  go_upto_region 2 with (fail)
  go_cut [9] (fun v9 wc => ∃ (kq : Nat) (x9_2 : Bool), v9 = .bool x9_2 ∧ Aside0 (fix_Add.j0 kq a0 a1 (wrap64 (a0 + a1)) x9_2 = some r) ∧ Aside0 (kq ≤ k) ∧ Drawn0 w wc)
  case first =>
    have H := HC3.out
    clear HC3
    by_cases c4 : a0 > 0
    · rw [if_pos c4] at H
      have c4b0 : decide (0 < a0) = true := decide_eq_true c4
      clear c4
      (first | rw [c4b0] | (simp only [i64_w, i32_w]; rw [c4b0]) | skip)
      by_cases c5 : a1 > 0
      · rw [if_pos c5] at H
        have c5b0 : decide (0 < a1) = true := decide_eq_true c5
        clear c5
        have H' := Aside0.mk H
        clear H
        go_wp2
        go_meet
        case rel => exact ⟨_, (decide ((wrap64 (a0 + a1)) < 0)), (by first | rfl | (simp; done) | (simp [*]; done)), H', ⟨by first | omega | exact Nat.le_refl _⟩, by repeat (first | exact Drawn0.refl _ | apply Drawn0.step)⟩
      · rw [if_neg c5] at H
        have c5b0 : decide (0 < a1) = false := decide_eq_false c5
        clear c5
        have H' := Aside0.mk H
        clear H
        go_wp2
        go_meet
        case rel => exact ⟨_, (false), (by first | rfl | (simp; done) | (simp [*]; done)), H', ⟨by first | omega | exact Nat.le_refl _⟩, by repeat (first | exact Drawn0.refl _ | apply Drawn0.step)⟩
    · rw [if_neg c4] at H
      have c4b0 : decide (0 < a0) = false := decide_eq_false c4
      clear c4
      (first | rw [c4b0] | (simp only [i64_w, i32_w]; rw [c4b0]) | skip)
      have H' := Aside0.mk H
      clear H
      go_wp2
      go_meet
      case rel => exact ⟨_, (false), (by first | rfl | (simp; done) | (simp [*]; done)), H', ⟨by first | omega | exact Nat.le_refl _⟩, by repeat (first | exact Drawn0.refl _ | apply Drawn0.step)⟩
  case rest =>
    clear HC3
    try clear c2
    try clear p2
    try clear c4
    try clear c4b0
    try clear c5
    try clear c5b0
    obtain ⟨kq, x9_2, rfl, HA, HJ2, ⟨mc2, rfl⟩⟩ := hcut
    cases kq with
    | zero => exact absurd HA.out (by simp [fix_Add.j0])
    | succ kj2 =>
      have H := HA.out
      clear HA
      simp only [fix_Add.j0] at H
      by_cases c6 : x9_2 = true
      · subst c6
        have H1 : (some 9223372036854775807) = some r := by rw [if_pos rfl] at H; exact H
        clear H
        have H := H1
        clear H1
        obtain rfl := Option.some.inj H
        go_wp2
        go_ret
        exact ⟨by first | rfl | (simp; done) | (simp [*]; done), by repeat (first | exact Drawn0.refl _ | apply Drawn0.step)⟩
      · replace c6 := Bool.eq_false_iff.mpr c6
        subst c6
        have H1 : (if a0 < 0 then (if a1 < 0 then (if (wrap64 (a0 + a1)) ≥ 0 then (some (-9223372036854775808)) else (some (wrap64 (a0 + a1)))) else (some (wrap64 (a0 + a1)))) else (some (wrap64 (a0 + a1)))) = some r := by rw [if_neg (show ¬ (false = true) by decide)] at H; exact H
        clear H
        have H := H1
        clear H1
        by_cases c7 : a0 < 0
        · rw [if_pos c7] at H
          have c7b0 : decide (a0 < 0) = true := decide_eq_true c7
          clear c7
          by_cases c8 : a1 < 0
          · rw [if_pos c8] at H
            have c8b0 : decide (a1 < 0) = true := decide_eq_true c8
            clear c8
            by_cases c9 : (wrap64 (a0 + a1)) ≥ 0
            · rw [if_pos c9] at H
              have c9b0 : decide (0 ≤ (wrap64 (a0 + a1))) = true := decide_eq_true c9
              clear c9
              obtain rfl := Option.some.inj H
              go_wp2
              go_ret
              exact ⟨by first | rfl | (simp; done) | (simp [*]; done), by repeat (first | exact Drawn0.refl _ | apply Drawn0.step)⟩
            · rw [if_neg c9] at H
              have c9b0 : decide (0 ≤ (wrap64 (a0 + a1))) = false := decide_eq_false c9
              clear c9
              obtain rfl := Option.some.inj H
              go_wp2
              go_ret
              exact ⟨by first | rfl | (simp; done) | (simp [*]; done), by repeat (first | exact Drawn0.refl _ | apply Drawn0.step)⟩
          · rw [if_neg c8] at H
            have c8b0 : decide (a1 < 0) = false := decide_eq_false c8
            clear c8
            obtain rfl := Option.some.inj H
            go_wp2
            go_ret
            exact ⟨by first | rfl | (simp; done) | (simp [*]; done), by repeat (first | exact Drawn0.refl _ | apply Drawn0.step)⟩
        · rw [if_neg c7] at H
          have c7b0 : decide (a0 < 0) = false := decide_eq_false c7
          clear c7
          obtain rfl := Option.some.inj H
          go_wp2
          go_ret
          exact ⟨by first | rfl | (simp; done) | (simp [*]; done), by repeat (first | exact Drawn0.refl _ | apply Drawn0.step)⟩

/-! ### power_Battery_Step: function 13, by hand -/
def power_Battery_Step.off (k : Nat) (s0_0 : List Int) (s0_1 : Int) (s0_2 : Bool) (lo s0_4 : Int) (a1_0 : Bool) (a1_1 : Int) : Option (Int × Bool × Int × Int) := if a1_0 = true then (if 18 < s0_0.length then ((fix_Sub.f k a1_1 (rd s0_0 18)).bind fun sl => (fix_Add.f k a1_1 (rd s0_0 18)).bind fun sh => if s0_2 = true ∧ mx sl lo ≤ mn sh s0_4 then some (s0_1, true, mx sl lo, mn sh s0_4) else some (s0_1, true, sl, sh)) else none) else some (s0_1, s0_2, lo, s0_4)
def power_Battery_Step.f (k : Nat) (s0_0 : List Int) (s0_1 : Int) (s0_2 : Bool) (s0_3 : Int) (s0_4 : Int) (a1_0 : Bool) (a1_1 : Int) : Option (Int × Bool × Int × Int) := if s0_2 = true then ((fix_Sub.f k s0_3 s0_1).bind fun lo => power_Battery_Step.off k s0_0 s0_1 s0_2 lo s0_4 a1_0 a1_1) else power_Battery_Step.off k s0_0 s0_1 s0_2 s0_3 s0_4 a1_0 a1_1
theorem power_Battery_Step.at17 {w : World} {ad : Addr} {l : List Int} (j : Nat) (hj : j ≠ 0) (h : Kd.C (Kd.int .i64) w (some ad) l.length l) (hl : j < l.length) : w.cell? ⟨ad.block, ad.off + j, none⟩ = some (.int .i64 (rd l (j : Int))) := by
  obtain ⟨ad', e, hx⟩ := Kd.at_int h (j : Int) (by omega) (by omega)
  obtain rfl : ad = ad' := by injection e
  rw [show ((j : Nat) : Int).toNat = j from by omega] at hx
  have h0 : ad.add j = ⟨ad.block, ad.off + j, none⟩ := by
    unfold Addr.add
    rw [if_neg hj]
  rw [h0] at hx
  exact hx
theorem power_Battery_Step.mono : ∀ a0 a1 a2 a3 a4 a5 a6 k, LeO (power_Battery_Step.f k a0 a1 a2 a3 a4 a5 a6) (power_Battery_Step.f (k + 1) a0 a1 a2 a3 a4 a5 a6) := by
  intro a0 a1 a2 a3 a4 a5 a6 k
  have ho : ∀ lo, LeO (power_Battery_Step.off k a0 a1 a2 lo a4 a5 a6) (power_Battery_Step.off (k + 1) a0 a1 a2 lo a4 a5 a6) := by
    intro lo
    unfold power_Battery_Step.off
    refine LeO.ite ?_ (LeO.refl _)
    refine LeO.ite ?_ (LeO.refl _)
    refine LeO.bind (fix_Sub.mono _ _ _) (fun _ => ?_)
    exact LeO.bind (fix_Add.mono _ _ _) (fun _ => LeO.refl _)
  unfold power_Battery_Step.f
  refine LeO.ite ?_ (ho _)
  exact LeO.bind (fix_Sub.mono _ _ _) (fun _ => ho _)
set_option maxHeartbeats 8000000 in
set_option maxRecDepth 100000 in
theorem power_Battery_Step.calls (k : Nat) (g : Nat) (s0_0 : List Int) (s0_1 : Int) (s0_2 : Bool) (s0_3 : Int) (s0_4 : Int) (a1_0 : Bool) (a1_1 : Int) (r1 : Int) (r2 : Bool) (r3 r4 : Int) (w0 w : World) (hI : IsS63 w0 w g s0_0 s0_1 s0_2 s0_3 s0_4) (hB : Below w0.heap.size w0 w) (h : power_Battery_Step.f k s0_0 s0_1 s0_2 s0_3 s0_4 a1_0 a1_1 = some (r1, r2, r3, r4)) :
    Calls Try.prog 13 #[.pointer (some ⟨g, 0, none⟩), .agg #[.bool a1_0, .int .i64 a1_1]] w fun e w' => e = .returned (.tuple #[]) ∧ IsS63 w0 w' g s0_0 r1 r2 r3 r4 ∧ Below w0.heap.size w0 w' ∧ KeepBut w w' g none := by
  have hu63 := Try.underlying63
  have hu31 := Try.underlying31
  have hu42 := Try.underlying42
  unfold power_Battery_Step.f at h
  have HK := Aside0.mk (KeepBut.refl w g none)
  have HB := Aside0.mk hB
  have HL := Aside0.mk (IsS63.lt hI)
  have HI := Aside0.mk hI
  obtain ⟨Aq, cq, hblk, _, hrow⟩ := id hI
  have BS0 := Aside0.mk hblk
  have HR0 := Aside0.mk (Kd.R_reads' hrow)
  clear hB hI hblk hrow
  cases s0_2 with
  | false =>
    rw [if_neg (by decide)] at h
    unfold power_Battery_Step.off at h
    cases a1_0 with
    | false =>
      rw [if_neg (by decide)] at h
      simp only [Option.some.injEq, Prod.mk.injEq] at h
      obtain ⟨rfl, rfl, rfl, rfl⟩ := h
      go_enter Try.func13, Try.ntmps13
      go_wp2_with (first | ((with_reducible refine gate_dst (N := 3) rfl ?_); refine box_event ?hg (N := 3) ?hd (cs := #[.bool false, .int .i64 a1_1]) (t := 42) ?hr ?_; (case hd => rfl); (case hg => rfl); (case hr => first | (go_simp; done) | (go_simp; rfl)); intro gt hg w4 hbox hb; have hb_ := hb; have BT := Aside0.mk hbox; have n0_ := Aside0.mk (IsS63.below HI.out hb); have n1_ := Aside0.mk (below_step HB.out hb); have GW := Aside0.mk (show w.heap.size ≤ gt by rw [hg]; exact Nat.le_refl _); have NL := Aside0.mk (show g < gt by rw [hg]; exact HL.out); have n2_ := Aside0.mk (show KeepBut w w4 g none from HK.out.trans (KeepBut.of_below hb g none) (.inl rfl)); clear HI HB HK; have HI := n0_; have HB := n1_; have HK := n2_; clear n0_ n1_ n2_ hb hbox hg; have BS := Aside0.mk (blk_below BS0.out hb_); have HR := Aside0.mk (Kd.C_below HR0.out.2.2 hb_); clear hb_; have hcs := blk_cells5 (w := w4) (g := g) BS.out; have hct := blk_cells2 (w := w4) (g := gt) BT.out))
      refine bodyPost_ret (results_none rfl _ _ _) rfl ?_
      exact ⟨rfl, HI.out, HB.out, HK.out⟩
    | true =>
      rw [if_pos rfl] at h
      by_cases c18 : 18 < s0_0.length
      case neg => rw [if_neg c18] at h; cases h
      rw [if_pos c18] at h
      have HC := Aside0.mk c18
      replace h := Option.bind_eq_some_iff.mp h
      obtain ⟨sl, e1, h⟩ := h
      replace h := Option.bind_eq_some_iff.mp h
      obtain ⟨sh, e2, h⟩ := h
      have E1 := Aside0.mk e1
      have E2 := Aside0.mk e2
      have H := Aside0.mk h
      obtain ⟨ad, ea, _⟩ := Kd.at_int HR0.out.2.2 0 (by decide) (by omega)
      subst ea
      have b18 : (18 < s0_0.length) = True := eq_true c18
      have g18 : ((18 : Int) < (s0_0.length : Int)) = True := eq_true (by omega)
      have d18 : decide (18 < s0_0.length) = true := decide_eq_true c18
      have f18 : decide ((18 : Int) < (s0_0.length : Int)) = true := decide_eq_true (by omega)
      clear e1 e2 h c18
      go_enter Try.func13, Try.ntmps13
      go_wp2_with (first | ((with_reducible refine gate_dst (N := 3) rfl ?_); refine box_event ?hg (N := 3) ?hd (cs := #[.bool true, .int .i64 a1_1]) (t := 42) ?hr ?_; (case hd => rfl); (case hg => rfl); (case hr => first | (go_simp; done) | (go_simp; rfl)); intro gt hg w4 hbox hb; have hb_ := hb; have BT := Aside0.mk hbox; have n0_ := Aside0.mk (IsS63.below HI.out hb); have n1_ := Aside0.mk (below_step HB.out hb); have GW := Aside0.mk (show w.heap.size ≤ gt by rw [hg]; exact Nat.le_refl _); have NL := Aside0.mk (show g < gt by rw [hg]; exact HL.out); have n2_ := Aside0.mk (show KeepBut w w4 g none from HK.out.trans (KeepBut.of_below hb g none) (.inl rfl)); clear HI HB HK; have HI := n0_; have HB := n1_; have HK := n2_; clear n0_ n1_ n2_ hb hbox hg; have BS := Aside0.mk (blk_below BS0.out hb_); have HR := Aside0.mk (Kd.C_below HR0.out.2.2 hb_); clear hb_; have hcs := blk_cells5 (w := w4) (g := g) BS.out; have hy18 := power_Battery_Step.at17 18 (by decide) HR.out HC.out; have hct := blk_cells2 (w := w4) (g := gt) BT.out))
      clear hcs hct hy18
      have egt : w4.heap.size ≠ gt := Nat.ne_of_gt (blk_lt BT.out)
      have egg : w4.heap.size ≠ g := Nat.ne_of_gt (blk_lt BS.out)
      have y1 : _ := (blk_cell BT.out 1).trans rfl
      have hnew : ∀ m, ((w4.drewN m).alloc (.cells #[.int .i64 0, .int .i64 0] 31)).heap[w4.heap.size]? = some (.cells #[.int .i64 0, .int .i64 0] 31 (0, 0)) := fun m => blk_new (w4.drewN m) _
      have hn0 : ∀ m, ((w4.drewN m).alloc (.cells #[.int .i64 0, .int .i64 0] 31)).cell? ⟨w4.heap.size, 0, none⟩ = some (.int .i64 0) := fun m => (blk_cell (hnew m) 0).trans rfl
      have hn1 : ∀ m, ((w4.drewN m).alloc (.cells #[.int .i64 0, .int .i64 0] 31)).cell? ⟨w4.heap.size, 1, none⟩ = some (.int .i64 0) := fun m => (blk_cell (hnew m) 1).trans rfl
      have hz0 : ∀ m, ((w4.drewN m).alloc (.cells #[.int .i64 0, .int .i64 0] 31)).frozen? ⟨w4.heap.size, 0, none⟩ = false := fun m => blk_frozen (hnew m) 0
      have hz1 : ∀ m, ((w4.drewN m).alloc (.cells #[.int .i64 0, .int .i64 0] 31)).frozen? ⟨w4.heap.size, 1, none⟩ = false := fun m => blk_frozen (hnew m) 1
      have HNEW := Aside0.mk hnew
      clear hnew
      go_region_held3 (fun w' => w'.cell? ⟨gt, 1, none⟩ = some (.int .i64 a1_1)) (go_keep)
        (first
          | (go_at_call 23; (with_reducible refine (fix_Sub.calls k a1_1 (rd s0_0 18) sl _ E1.out).mono ?_); rintro e w' ⟨rfl, ⟨nd, rfl⟩⟩)
          | (go_at_call 24; (with_reducible refine (fix_Add.calls k a1_1 (rd s0_0 18) sh _ E2.out).mono ?_); rintro e w' ⟨rfl, ⟨nd, rfl⟩⟩))
      all_goals
        generalize hW : World.setCell (World.setCell _ ⟨w4.heap.size, 0, none⟩ _) ⟨w4.heap.size, 1, none⟩ _ = W5
        have hlt : g < w4.heap.size := blk_lt BS.out
        have B5 := Aside0.mk (show W5.heap[w4.heap.size]? = some (.cells #[.int .i64 sl, .int .i64 sh] 31 (0, 0)) from by
          rw [← hW]
          refine blk_put (cs := #[.int .i64 sl, .int .i64 0]) ?_ 1 _ rfl
          refine blk_put (cs := #[.int .i64 0, .int .i64 0]) ?_ 0 _ rfl
          first | exact HNEW.out _ | (refine blk_drewN ?_ _; first | exact HNEW.out _ | exact blk_new w4 _))
        have BS5 := Aside0.mk (show W5.heap[g]? = some (.cells #[.slice (some ad) s0_0.length cq, .int .i64 s0_1, .bool false, .int .i64 s0_3, .int .i64 s0_4] 63 (0, 0)) from by
          rw [← hW]
          refine blk_far (blk_far ?_ (Nat.ne_of_lt hlt) _) (Nat.ne_of_lt hlt) _
          repeat (first | exact BS.out | refine blk_drewN ?_ _ | refine blk_alloc ?_ _))
        have HI5 := Aside0.mk (show IsS63 w0 W5 g s0_0 s0_1 false s0_3 s0_4 from by
          rw [← hW]
          refine IsS63.far (IsS63.far ?_ hlt _) hlt _
          repeat (first | exact HI.out | apply IsS63.drewN | apply IsS63.alloc))
        have HB5 := Aside0.mk (show Below w0.heap.size w0 W5 from by
          rw [← hW]
          refine below_set (below_set ?_ HB.out.size) HB.out.size
          repeat (first | exact HB.out | apply pw_below_drewN | apply below_alloc))
        have HK5 := Aside0.mk (show KeepBut w W5 g none from by
          rw [← hW]
          refine keep_far (keep_far ?_ (keep_size HK.out) _) (keep_size HK.out) _
          repeat (first | exact HK.out | apply keep_drewN | apply keep_alloc))
        clear hn0 hn1 hz0 hz1 hW y1
        obtain ⟨n5, hn5⟩ : ∃ n, w4.heap.size = n := ⟨_, rfl⟩
        rw [hn5] at B5 hlt egg egt ⊢
        have HN5 := Aside0.mk hn5
        clear hn5
        have v0 : _ := (blk_cell B5.out 0).trans rfl
        have v1 : _ := (blk_cell B5.out 1).trans rfl
        have v3 : _ := (blk_cell BS5.out 3).trans rfl
        have v4 : _ := (blk_cell BS5.out 4).trans rfl
        obtain ⟨MX, hmx⟩ : ∃ m, (if sl < s0_3 then s0_3 else sl) = m := ⟨_, rfl⟩
        obtain ⟨MN, hmn⟩ : ∃ m, (if s0_4 < sh then s0_4 else sh) = m := ⟨_, rfl⟩
        go_wp2
        go_region_held3 (fun w' => w'.cell? ⟨n5, 0, none⟩ = some (.int .i64 sl) ∧ w'.cell? ⟨n5, 1, none⟩ = some (.int .i64 sh) ∧ w'.cell? ⟨g, 3, none⟩ = some (.int .i64 s0_3) ∧ w'.cell? ⟨g, 4, none⟩ = some (.int .i64 s0_4)) (go_keep) (fail)
        all_goals
          have v2 : _ := (blk_cell BS5.out 2).trans rfl
          have hf2 : _ := blk_frozen BS5.out 2
          have hf3 : _ := blk_frozen BS5.out 3
          have hf4 : _ := blk_frozen BS5.out 4
          go_wp2
          (first | go_end0 | ((try simp only [Exit.inBlock, Exit.then]); refine bodyPost_ret (results_none rfl _ _ _) rfl ?_))
          replace H := H.out
          rw [if_neg (by simp)] at H
          simp only [Option.some.injEq, Prod.mk.injEq] at H
          obtain ⟨rfl, rfl, rfl, rfl⟩ := H
          have GE5 := Aside0.mk (IsS63.ge HI5.out)
          exact ⟨rfl, (((HI5.out.set_3 sl).set_4 sh).set_2 true).drew, below_drew1 (below_set (below_set (below_set HB5.out GE5.out) GE5.out) GE5.out), keep_drew (((HK5.out.set_ 3 _).set_ 4 _).set_ 2 _)⟩
  | true =>
    rw [if_pos rfl] at h
    replace h := Option.bind_eq_some_iff.mp h
    obtain ⟨lo, e0, h⟩ := h
    have E0 := Aside0.mk e0
    clear e0
    unfold power_Battery_Step.off at h
    cases a1_0 with
    | false =>
      rw [if_neg (by decide)] at h
      simp only [Option.some.injEq, Prod.mk.injEq] at h
      obtain ⟨rfl, rfl, rfl, rfl⟩ := h
      go_enter Try.func13, Try.ntmps13
      go_wp2_with (first | ((with_reducible refine gate_dst (N := 3) rfl ?_); refine box_event ?hg (N := 3) ?hd (cs := #[.bool false, .int .i64 a1_1]) (t := 42) ?hr ?_; (case hd => rfl); (case hg => rfl); (case hr => first | (go_simp; done) | (go_simp; rfl)); intro gt hg w4 hbox hb; have hb_ := hb; have BT := Aside0.mk hbox; have n0_ := Aside0.mk (IsS63.below HI.out hb); have n1_ := Aside0.mk (below_step HB.out hb); have GW := Aside0.mk (show w.heap.size ≤ gt by rw [hg]; exact Nat.le_refl _); have NL := Aside0.mk (show g < gt by rw [hg]; exact HL.out); have n2_ := Aside0.mk (show KeepBut w w4 g none from HK.out.trans (KeepBut.of_below hb g none) (.inl rfl)); clear HI HB HK; have HI := n0_; have HB := n1_; have HK := n2_; clear n0_ n1_ n2_ hb hbox hg; have BS := Aside0.mk (blk_below BS0.out hb_); have HR := Aside0.mk (Kd.C_below HR0.out.2.2 hb_); clear hb_; have hcs := blk_cells5 (w := w4) (g := g) BS.out; have hct := blk_cells2 (w := w4) (g := gt) BT.out))
      have hf3_ : _ := blk_frozen BS.out 3
      go_region_with (first | (go_at_call 23; (with_reducible refine (fix_Sub.calls k s0_3 s0_1 lo _ E0.out).mono ?_); rintro e w' ⟨rfl, ⟨nd, rfl⟩⟩))
      all_goals
        generalize hW3 : World.setCell _ ⟨g, 3, none⟩ _ = W3
        have HI3 := Aside0.mk (show IsS63 w0 W3 g s0_0 s0_1 true lo s0_4 from by
          rw [← hW3]
          exact (IsS63.drewN HI.out _).set_3 lo)
        have BS3 := Aside0.mk (show W3.heap[g]? = some (.cells #[.slice Aq s0_0.length cq, .int .i64 s0_1, .bool true, .int .i64 lo, .int .i64 s0_4] 63 (0, 0)) from by
          rw [← hW3]
          exact blk_put (blk_drewN BS.out _) 3 _ rfl)
        have BT3 := Aside0.mk (show W3.heap[gt]? = some (.cells #[.bool false, .int .i64 a1_1] 42 (0, 0)) from by
          rw [← hW3]
          exact blk_far (blk_drewN BT.out _) (Nat.ne_of_gt NL.out) _)
        have HB3 := Aside0.mk (show Below w0.heap.size w0 W3 from by
          rw [← hW3]
          exact below_set (pw_below_drewN HB.out _) (IsS63.ge HI.out))
        have HK3 := Aside0.mk (show KeepBut w W3 g none from by
          rw [← hW3]
          exact (keep_drewN HK.out _).set_ 3 _)
        clear hcs hct hf3_ hW3 HI BS BT HB HK 
        have HI := HI3
        have BS := BS3
        have BT := BT3
        have HB := HB3
        have HK := HK3
        have hcs := blk_cells5 (w := W3) (g := g) BS.out
        have hct := blk_cells2 (w := W3) (g := gt) BT.out
        go_wp2
        (first | go_end0 | ((try simp only [Exit.inBlock, Exit.then]); refine bodyPost_ret (results_none rfl _ _ _) rfl ?_))
        exact ⟨rfl, HI.out, HB.out, HK.out⟩
    | true =>
      rw [if_pos rfl] at h
      by_cases c18 : 18 < s0_0.length
      case neg => rw [if_neg c18] at h; cases h
      rw [if_pos c18] at h
      have HC := Aside0.mk c18
      replace h := Option.bind_eq_some_iff.mp h
      obtain ⟨sl, e1, h⟩ := h
      replace h := Option.bind_eq_some_iff.mp h
      obtain ⟨sh, e2, h⟩ := h
      have E1 := Aside0.mk e1
      have E2 := Aside0.mk e2
      have H := Aside0.mk h
      obtain ⟨ad, ea, _⟩ := Kd.at_int HR0.out.2.2 0 (by decide) (by omega)
      subst ea
      have b18 : (18 < s0_0.length) = True := eq_true c18
      have g18 : ((18 : Int) < (s0_0.length : Int)) = True := eq_true (by omega)
      have d18 : decide (18 < s0_0.length) = true := decide_eq_true c18
      have f18 : decide ((18 : Int) < (s0_0.length : Int)) = true := decide_eq_true (by omega)
      clear e1 e2 h c18
      go_enter Try.func13, Try.ntmps13
      go_wp2_with (first | ((with_reducible refine gate_dst (N := 3) rfl ?_); refine box_event ?hg (N := 3) ?hd (cs := #[.bool true, .int .i64 a1_1]) (t := 42) ?hr ?_; (case hd => rfl); (case hg => rfl); (case hr => first | (go_simp; done) | (go_simp; rfl)); intro gt hg w4 hbox hb; have hb_ := hb; have BT := Aside0.mk hbox; have n0_ := Aside0.mk (IsS63.below HI.out hb); have n1_ := Aside0.mk (below_step HB.out hb); have GW := Aside0.mk (show w.heap.size ≤ gt by rw [hg]; exact Nat.le_refl _); have NL := Aside0.mk (show g < gt by rw [hg]; exact HL.out); have n2_ := Aside0.mk (show KeepBut w w4 g none from HK.out.trans (KeepBut.of_below hb g none) (.inl rfl)); clear HI HB HK; have HI := n0_; have HB := n1_; have HK := n2_; clear n0_ n1_ n2_ hb hbox hg; have BS := Aside0.mk (blk_below BS0.out hb_); have HR := Aside0.mk (Kd.C_below HR0.out.2.2 hb_); clear hb_; have hcs := blk_cells5 (w := w4) (g := g) BS.out; have hct := blk_cells2 (w := w4) (g := gt) BT.out))
      have hf3_ : _ := blk_frozen BS.out 3
      go_region_with (first | (go_at_call 23; (with_reducible refine (fix_Sub.calls k s0_3 s0_1 lo _ E0.out).mono ?_); rintro e w' ⟨rfl, ⟨nd, rfl⟩⟩))
      all_goals
        generalize hW3 : World.setCell _ ⟨g, 3, none⟩ _ = W3
        have HI3 := Aside0.mk (show IsS63 w0 W3 g s0_0 s0_1 true lo s0_4 from by
          rw [← hW3]
          exact (IsS63.drewN HI.out _).set_3 lo)
        have BS3 := Aside0.mk (show W3.heap[g]? = some (.cells #[.slice (some ad) s0_0.length cq, .int .i64 s0_1, .bool true, .int .i64 lo, .int .i64 s0_4] 63 (0, 0)) from by
          rw [← hW3]
          exact blk_put (blk_drewN BS.out _) 3 _ rfl)
        have BT3 := Aside0.mk (show W3.heap[gt]? = some (.cells #[.bool true, .int .i64 a1_1] 42 (0, 0)) from by
          rw [← hW3]
          exact blk_far (blk_drewN BT.out _) (Nat.ne_of_gt NL.out) _)
        have HB3 := Aside0.mk (show Below w0.heap.size w0 W3 from by
          rw [← hW3]
          exact below_set (pw_below_drewN HB.out _) (IsS63.ge HI.out))
        have HK3 := Aside0.mk (show KeepBut w W3 g none from by
          rw [← hW3]
          exact (keep_drewN HK.out _).set_ 3 _)
        have HR3 := Aside0.mk (show Kd.C (Kd.int .i64) W3 (some ad) s0_0.length s0_0 from by
          obtain ⟨A2, c2, hb2, _, hr2⟩ := HI3.out
          have e2 := hb2.symm.trans BS3.out
          have e3 : A2 = some ad := by simp at e2; exact e2.1
          rw [← e3]
          exact (Kd.R_reads' hr2).2.2)
        clear hcs hct hf3_ hW3 HI BS BT HB HK HR
        have HI := HI3
        have BS := BS3
        have BT := BT3
        have HB := HB3
        have HK := HK3
        have hcs := blk_cells5 (w := W3) (g := g) BS.out
        have hct := blk_cells2 (w := W3) (g := gt) BT.out
        have HR := HR3
        have hy18 := power_Battery_Step.at17 18 (by decide) HR.out HC.out
        go_wp2
        clear hcs hct hy18
        have egt : W3.heap.size ≠ gt := Nat.ne_of_gt (blk_lt BT.out)
        have egg : W3.heap.size ≠ g := Nat.ne_of_gt (blk_lt BS.out)
        have y1 : _ := (blk_cell BT.out 1).trans rfl
        have hnew : ∀ m, ((W3.drewN m).alloc (.cells #[.int .i64 0, .int .i64 0] 31)).heap[W3.heap.size]? = some (.cells #[.int .i64 0, .int .i64 0] 31 (0, 0)) := fun m => blk_new (W3.drewN m) _
        have hn0 : ∀ m, ((W3.drewN m).alloc (.cells #[.int .i64 0, .int .i64 0] 31)).cell? ⟨W3.heap.size, 0, none⟩ = some (.int .i64 0) := fun m => (blk_cell (hnew m) 0).trans rfl
        have hn1 : ∀ m, ((W3.drewN m).alloc (.cells #[.int .i64 0, .int .i64 0] 31)).cell? ⟨W3.heap.size, 1, none⟩ = some (.int .i64 0) := fun m => (blk_cell (hnew m) 1).trans rfl
        have hz0 : ∀ m, ((W3.drewN m).alloc (.cells #[.int .i64 0, .int .i64 0] 31)).frozen? ⟨W3.heap.size, 0, none⟩ = false := fun m => blk_frozen (hnew m) 0
        have hz1 : ∀ m, ((W3.drewN m).alloc (.cells #[.int .i64 0, .int .i64 0] 31)).frozen? ⟨W3.heap.size, 1, none⟩ = false := fun m => blk_frozen (hnew m) 1
        have HNEW := Aside0.mk hnew
        clear hnew
        go_region_held3 (fun w' => w'.cell? ⟨gt, 1, none⟩ = some (.int .i64 a1_1)) (go_keep)
          (first
            | (go_at_call 23; (with_reducible refine (fix_Sub.calls k a1_1 (rd s0_0 18) sl _ E1.out).mono ?_); rintro e w' ⟨rfl, ⟨nd, rfl⟩⟩)
            | (go_at_call 24; (with_reducible refine (fix_Add.calls k a1_1 (rd s0_0 18) sh _ E2.out).mono ?_); rintro e w' ⟨rfl, ⟨nd, rfl⟩⟩))
        all_goals
          generalize hW : World.setCell (World.setCell _ ⟨W3.heap.size, 0, none⟩ _) ⟨W3.heap.size, 1, none⟩ _ = W5
          have hlt : g < W3.heap.size := blk_lt BS.out
          have B5 := Aside0.mk (show W5.heap[W3.heap.size]? = some (.cells #[.int .i64 sl, .int .i64 sh] 31 (0, 0)) from by
            rw [← hW]
            refine blk_put (cs := #[.int .i64 sl, .int .i64 0]) ?_ 1 _ rfl
            refine blk_put (cs := #[.int .i64 0, .int .i64 0]) ?_ 0 _ rfl
            first | exact HNEW.out _ | (refine blk_drewN ?_ _; first | exact HNEW.out _ | exact blk_new W3 _))
          have BS5 := Aside0.mk (show W5.heap[g]? = some (.cells #[.slice (some ad) s0_0.length cq, .int .i64 s0_1, .bool true, .int .i64 lo, .int .i64 s0_4] 63 (0, 0)) from by
            rw [← hW]
            refine blk_far (blk_far ?_ (Nat.ne_of_lt hlt) _) (Nat.ne_of_lt hlt) _
            repeat (first | exact BS.out | refine blk_drewN ?_ _ | refine blk_alloc ?_ _))
          have HI5 := Aside0.mk (show IsS63 w0 W5 g s0_0 s0_1 true lo s0_4 from by
            rw [← hW]
            refine IsS63.far (IsS63.far ?_ hlt _) hlt _
            repeat (first | exact HI.out | apply IsS63.drewN | apply IsS63.alloc))
          have HB5 := Aside0.mk (show Below w0.heap.size w0 W5 from by
            rw [← hW]
            refine below_set (below_set ?_ HB.out.size) HB.out.size
            repeat (first | exact HB.out | apply pw_below_drewN | apply below_alloc))
          have HK5 := Aside0.mk (show KeepBut w W5 g none from by
            rw [← hW]
            refine keep_far (keep_far ?_ (keep_size HK.out) _) (keep_size HK.out) _
            repeat (first | exact HK.out | apply keep_drewN | apply keep_alloc))
          clear hn0 hn1 hz0 hz1 hW y1
          obtain ⟨n5, hn5⟩ : ∃ n, W3.heap.size = n := ⟨_, rfl⟩
          rw [hn5] at B5 hlt egg egt ⊢
          have HN5 := Aside0.mk hn5
          clear hn5
          have v0 : _ := (blk_cell B5.out 0).trans rfl
          have v1 : _ := (blk_cell B5.out 1).trans rfl
          have v3 : _ := (blk_cell BS5.out 3).trans rfl
          have v4 : _ := (blk_cell BS5.out 4).trans rfl
          obtain ⟨MX, hmx⟩ : ∃ m, (if sl < lo then lo else sl) = m := ⟨_, rfl⟩
          obtain ⟨MN, hmn⟩ : ∃ m, (if s0_4 < sh then s0_4 else sh) = m := ⟨_, rfl⟩
          go_wp2
          go_region_held3 (fun w' => w'.cell? ⟨n5, 0, none⟩ = some (.int .i64 sl) ∧ w'.cell? ⟨n5, 1, none⟩ = some (.int .i64 sh) ∧ w'.cell? ⟨g, 3, none⟩ = some (.int .i64 lo) ∧ w'.cell? ⟨g, 4, none⟩ = some (.int .i64 s0_4)) (go_keep) (fail)
          all_goals
            have v2 : _ := (blk_cell BS5.out 2).trans rfl
            have hf2 : _ := blk_frozen BS5.out 2
            have hf3 : _ := blk_frozen BS5.out 3
            have hf4 : _ := blk_frozen BS5.out 4
            have hfn0 : _ := blk_frozen B5.out 0
            have hfn1 : _ := blk_frozen B5.out 1
            have HMX := Aside0.mk (show mx sl lo = MX from hmx)
            have HMN := Aside0.mk (show mn sh s0_4 = MN from hmn)
            have hgn : g ≠ n5 := Nat.ne_of_lt hlt
            have hng : n5 ≠ g := Nat.ne_of_gt hlt
            clear hmx hmn
            replace H := H.out
            rw [HMX.out, HMN.out] at H
            have GE5 := Aside0.mk (IsS63.ge HI5.out)
            have GN5 := Aside0.mk (show w0.heap.size ≤ n5 from Nat.le_trans GE5.out (Nat.le_of_lt hlt))
            by_cases cM : MX ≤ MN
            · rw [if_pos (by first | exact ⟨rfl, cM⟩ | exact ⟨trivial, cM⟩)] at H
              simp only [Option.some.injEq, Prod.mk.injEq] at H
              obtain ⟨rfl, rfl, rfl, rfl⟩ := H
              have cMb : decide (MX ≤ MN) = true := decide_eq_true cM
              go_wp2
              (first | go_end0 | ((try simp only [Exit.inBlock, Exit.then]); refine bodyPost_ret (results_none rfl _ _ _) rfl ?_))
              have GW5 : w.heap.size ≤ n5 := by rw [← HN5.out]; exact keep_size HK.out
              exact ⟨rfl, (((((HI5.out.far hlt _).far hlt _).set_3 MX).set_4 MN).set_2 true).drew, below_drew1 (below_set (below_set (below_set (below_set (below_set HB5.out GN5.out) GN5.out) GE5.out) GE5.out) GE5.out), keep_drew ((((keep_far (keep_far HK5.out GW5 _) GW5 _).set_ 3 _).set_ 4 _).set_ 2 _)⟩
            · rw [if_neg (fun h_ => cM h_.2)] at H
              simp only [Option.some.injEq, Prod.mk.injEq] at H
              obtain ⟨rfl, rfl, rfl, rfl⟩ := H
              have cMb : decide (MX ≤ MN) = false := decide_eq_false cM
              go_wp2
              (first | go_end0 | ((try simp only [Exit.inBlock, Exit.then]); refine bodyPost_ret (results_none rfl _ _ _) rfl ?_))
              exact ⟨rfl, (((HI5.out.set_3 sl).set_4 sh).set_2 true).drew, below_drew1 (below_set (below_set (below_set HB5.out GE5.out) GE5.out) GE5.out), keep_drew (((HK5.out.set_ 3 _).set_ 4 _).set_ 2 _)⟩


/-! ### power_Battery_Left: function 15, by hand -/
def power_Battery_Left.f (s0_0 : List Int) (s0_1 : Int) (s0_2 : Bool) (s0_3 : Int) (s0_4 : Int) : Option (Int × Int × Bool × Int × Bool × Int × Int) := some (s0_3, s0_4, s0_2, s0_1, s0_2, s0_3, s0_4)
set_option maxHeartbeats 8000000 in
set_option maxRecDepth 100000 in
theorem power_Battery_Left.calls (g : Nat) (s0_0 : List Int) (s0_1 : Int) (s0_2 : Bool) (s0_3 : Int) (s0_4 : Int) (r1 r2 : Int) (r3 : Bool) (r4 : Int) (r5 : Bool) (r6 r7 : Int) (w0 w : World) (hI : IsS63 w0 w g s0_0 s0_1 s0_2 s0_3 s0_4) (hB : Below w0.heap.size w0 w) (h : power_Battery_Left.f s0_0 s0_1 s0_2 s0_3 s0_4 = some (r1, r2, r3, r4, r5, r6, r7)) :
    Calls Try.prog 15 #[.pointer (some ⟨g, 0, none⟩)] w fun e w' => e = .returned (.tuple #[.agg #[.int .i64 r1, .int .i64 r2], .bool r3]) ∧ IsS63 w0 w' g s0_0 r4 r5 r6 r7 ∧ Below w0.heap.size w0 w' ∧ KeepBut w w' g none := by
  simp only [power_Battery_Left.f, Option.some.injEq, Prod.mk.injEq] at h
  obtain ⟨rfl, rfl, rfl, rfl, rfl, rfl, rfl⟩ := h
  have hu31 := Try.underlying31
  have hu63 := Try.underlying63
  have HK := Aside0.mk (KeepBut.refl w g none)
  have HB := Aside0.mk hB
  have HL := Aside0.mk (IsS63.lt hI)
  have HI := Aside0.mk hI
  clear hI hB
  go_enter Try.func15, Try.ntmps15
  go_wp2_with (first | ((with_reducible refine gate_dst (N := 2) rfl ?_); refine box_event ?hg (N := 2) ?hd (cs := #[.int .i64 0, .int .i64 0]) (t := 31) ?hr ?_; (case hd => rfl); (case hg => rfl); (case hr => first | (go_simp; done) | (go_simp; rfl)); intro gm hg w4 hbox hb; have BK := Aside0.mk hbox; have n0_ := Aside0.mk (IsS63.below HI.out hb); have n1_ := Aside0.mk (below_step HB.out hb); have GW := Aside0.mk (show w.heap.size ≤ gm by rw [hg]; exact Nat.le_refl _); have NL := Aside0.mk (show g < gm by rw [hg]; exact HL.out); have n2_ := Aside0.mk (show KeepBut w w4 g none from HK.out.trans (KeepBut.of_below hb g none) (.inl rfl)); clear HI HB HK; have HI := n0_; have HB := n1_; have HK := n2_; clear n0_ n1_ n2_ hb hbox hg; obtain ⟨Aq, cq, hblk, _, hrow⟩ := HI.out; have BS := Aside0.mk hblk; clear hblk hrow; have hcs := blk_cells5 (w := w4) (g := g) BS.out; have hcz := blk_cells2 (w := w4) (g := gm) BK.out; have hfz := blk_frozen BK.out; have hng := Nat.ne_of_lt NL.out; have hnh := Nat.ne_of_gt NL.out))
  have q2 : _ := (blk_cell BS.out 2).trans rfl
  have q3 : _ := (blk_cell BS.out 3).trans rfl
  have q4 : _ := (blk_cell BS.out 4).trans rfl
  clear hcs
  go_region_held3 (fun w' => w'.cell? ⟨g, 2, none⟩ = some (.bool s0_2) ∧ w'.cell? ⟨g, 3, none⟩ = some (.int .i64 s0_3) ∧ w'.cell? ⟨g, 4, none⟩ = some (.int .i64 s0_4)) (go_keep) (fail)
  all_goals go_wp2
  refine bodyPost_ret (results_ct rfl _ _ gm 31 #[.int .i64 s0_3, .int .i64 s0_4] (0, 0) _ rfl (blk_drew (blk_put (blk_put BK.out 0 _ rfl) 1 _ rfl)) Try.underlying31 rfl (by kernel_rfl)) rfl ?_
  have GE := Aside0.mk (show w0.heap.size ≤ gm from Nat.le_trans (IsS63.ge HI.out) (Nat.le_of_lt NL.out))
  exact ⟨rfl, ((HI.out.far NL.out _).far NL.out _).drew, below_drew1 (below_set (below_set HB.out GE.out) GE.out), keep_drew (keep_far (keep_far HK.out GW.out _) GW.out _)⟩


/-! ### fix_Clamp: function 27 -/
def fix_Clamp.f (a0 : Int) (a1 : Int) (a2 : Int) : Option (Int) := if a0 < a1 then (some a1) else (if a0 > a2 then (some a2) else (some a0))
set_option maxHeartbeats 8000000 in
set_option maxRecDepth 100000 in
theorem fix_Clamp.calls (a0 : Int) (a1 : Int) (a2 : Int) (r : Int) (w : World) (h : fix_Clamp.f a0 a1 a2 = some r) :
    Calls Try.prog 27 #[.int .i64 a0, .int .i64 a1, .int .i64 a2] w fun e w' => e = .returned (.int .i64 r) ∧ Drawn0 w w' := by
  have H : (if a0 < a1 then (some a1) else (if a0 > a2 then (some a2) else (some a0))) = some r := h
  clear h
  by_cases c4 : a0 < a1
  · rw [if_pos c4] at H
    have c4b0 : decide (a0 < a1) = true := decide_eq_true c4
    clear c4
    obtain rfl := Option.some.inj H
    go_enter Try.func27, Try.ntmps27
    go_wp2
    go_ret
    exact ⟨by first | rfl | (simp; done) | (simp [*]; done), by repeat (first | exact Drawn0.refl _ | apply Drawn0.step)⟩
  · rw [if_neg c4] at H
    have c4b0 : decide (a0 < a1) = false := decide_eq_false c4
    clear c4
    by_cases c5 : a0 > a2
    · rw [if_pos c5] at H
      have c5b0 : decide (a2 < a0) = true := decide_eq_true c5
      clear c5
      obtain rfl := Option.some.inj H
      go_enter Try.func27, Try.ntmps27
      go_wp2
      go_ret
      exact ⟨by first | rfl | (simp; done) | (simp [*]; done), by repeat (first | exact Drawn0.refl _ | apply Drawn0.step)⟩
    · rw [if_neg c5] at H
      have c5b0 : decide (a2 < a0) = false := decide_eq_false c5
      clear c5
      obtain rfl := Option.some.inj H
      go_enter Try.func27, Try.ntmps27
      go_wp2
      go_ret
      exact ⟨by first | rfl | (simp; done) | (simp [*]; done), by repeat (first | exact Drawn0.refl _ | apply Drawn0.step)⟩

/-! ### params_outside: function 42 -/
def params_outside.f (a0 : Int) : Option (Bool) := if a0 < 0 then (some true) else (some (decide (a0 > 536870912)))
set_option maxHeartbeats 8000000 in
set_option maxRecDepth 100000 in
theorem params_outside.calls (a0 : Int) (r : Bool) (w : World) (h : params_outside.f a0 = some r) :
    Calls Try.prog 42 #[.int .i64 a0] w fun e w' => e = .returned (.bool r) ∧ Drawn0 w w' := by
  have H : (if a0 < 0 then (some true) else (some (decide (a0 > 536870912)))) = some r := h
  clear h
  by_cases c2 : a0 < 0
  · rw [if_pos c2] at H
    have c2b0 : decide (a0 < 0) = true := decide_eq_true c2
    clear c2
    obtain rfl := Option.some.inj H
    go_enter Try.func42, Try.ntmps42
    go_wp2
    go_ret
    exact ⟨by first | rfl | (simp; done) | (simp [*]; done), by repeat (first | exact Drawn0.refl _ | apply Drawn0.step)⟩
  · rw [if_neg c2] at H
    have c2b0 : decide (a0 < 0) = false := decide_eq_false c2
    clear c2
    obtain rfl := Option.some.inj H
    go_enter Try.func42, Try.ntmps42
    go_wp2
    go_ret
    exact ⟨by first | rfl | (simp; done) | (simp [*]; done), by repeat (first | exact Drawn0.refl _ | apply Drawn0.step)⟩

end Go.Proofs.Ytmmlahckcgjofaa.PPowerRises
