-- WRITTEN BY wip/tools/aprint.py of this claim's repository over the kit's words: not typed by hand
import Derived.Test.YtmmlahckcgjofaaPPowerFollowsx0
import Derived.Test.YtmmlahckcgjofaaPPowerFollowsx3
namespace Go.Proofs.Ytmmlahckcgjofaa.PPowerFollows
open Go.RowKit Go.Proofs.YtmmlahckcgjofaaW.PrintWords Go.Proofs.YtmmlahckcgjofaaW.PrintLast Go.Proofs.YtmmlahckcgjofaaW.PrintMore
attribute [local go_sem] max2_int min2_int max_two min_two max_three min_three max_four min_four   -- for this text's walks alone
set_option linter.unusedVariables false
set_option linter.unusedSimpArgs false

/-- A battery at block g of W, with a row of its own, older than it. -/
def IsS63 (w0 W : World) (g : Nat) (f0 : List Int) (f1 : Int) (f2 : Bool) (f3 : Int) (f4 : Int) : Prop := ∃ A0 c0, W.heap[g]? = some (.cells #[.slice A0 f0.length c0, .int .i64 f1, .bool f2, .int .i64 f3, .int .i64 f4] 63 (0, 0)) ∧ w0.heap.size ≤ g ∧ Kd.R (Kd.int .i64) 3 W w0.heap.size (fun k => k < g) (.slice A0 f0.length c0) f0
section
variable {w0 W : World} {g : Nat} {f0 : List Int} {f1 : Int} {f2 : Bool} {f3 f4 : Int}
theorem IsS63.below {W1 : World} (h : IsS63 w0 W g f0 f1 f2 f3 f4) (hw : Below W.heap.size W W1) : IsS63 w0 W1 g f0 f1 f2 f3 f4 := by
 obtain ⟨A0, c0, hb, hg, hr0⟩ := h
 exact ⟨A0, c0, blk_below hb hw, hg, Kd.R_below hr0 hw⟩
theorem IsS63.fresh (h : IsS63 w0 W g f0 f1 f2 f3 f4) : ∀ k, W.heap.size ≤ k → k ≠ g := by
 obtain ⟨A0, c0, hb, hg, hr0⟩ := h
 exact Kd.freshB hb
theorem IsS63.alloc (h : IsS63 w0 W g f0 f1 f2 f3 f4) (o : Obj) : IsS63 w0 (W.alloc o) g f0 f1 f2 f3 f4 := h.below (below_alloc (Below.refl _ _) o)
theorem IsS63.drewN (h : IsS63 w0 W g f0 f1 f2 f3 f4) (m : Nat) : IsS63 w0 (W.drewN m) g f0 f1 f2 f3 f4 := h.below (pw_below_drewN (Below.refl _ _) m)
theorem IsS63.drew (h : IsS63 w0 W g f0 f1 f2 f3 f4) : IsS63 w0 W.drew g f0 f1 f2 f3 f4 := h.below (below_drew1 (Below.refl _ _))
theorem IsS63.at_ {w' : World} {m : Nat} (hq : W.drewN m = w') (h : IsS63 w0 W g f0 f1 f2 f3 f4) : IsS63 w0 w' g f0 f1 f2 f3 f4 := by subst hq; exact IsS63.drewN h m
theorem IsS63.apart {α : Type} {d : Kd α} {e : Nat} {base : Nat} {ok : Nat → Prop} {v : Value} {xs : List α} (h : IsS63 w0 W g f0 f1 f2 f3 f4) (ho : d.R e W base ok v xs) (ht : ∀ q, q ∈ e :: d.E → q ≠ 63) : d.R e W base (fun k => ok k ∧ k ≠ g) v xs := by
 obtain ⟨A0, c0, hb, hg, hr0⟩ := h
 exact Kd.R_types ho hb ht
theorem IsS63.own_ne {α : Type} {d : Kd α} {e : Nat} {base : Nat} {ok : Nat → Prop} {v : Value} {xs : List α} (h : IsS63 w0 W g f0 f1 f2 f3 f4) (ho : d.R e W base ok v xs) (ht : e ≠ 63) : some g ≠ v.ownBlock := by
 obtain ⟨A0, c0, hb, hg, hr0⟩ := h
 exact Kd.R_ne ho hb ht
theorem IsS63.apartS {α : Type} {d : Kd α} {e : Nat} {base : Nat} {ok : Nat → Prop} {v : Value} {xs : List α} (h : IsS63 w0 W g f0 f1 f2 f3 f4) (ho : d.S e W base ok v xs) (ht : ∀ q, q ∈ e :: d.E → q ≠ 63) : d.S e W base (fun k => ok k ∧ k ≠ g) v xs := by
 obtain ⟨A0, c0, hb, hg, hr0⟩ := h
 exact Kd.S_types ho hb ht
theorem IsS63.own_neS {α : Type} {d : Kd α} {e : Nat} {base : Nat} {ok : Nat → Prop} {v : Value} {xs : List α} (h : IsS63 w0 W g f0 f1 f2 f3 f4) (ho : d.S e W base ok v xs) (ht : e ≠ 63) : some g ≠ v.ownBlock := by
 obtain ⟨A0, c0, hb, hg, hr0⟩ := h
 exact Kd.S_ne ho hb ht
theorem IsS63.lt (h : IsS63 w0 W g f0 f1 f2 f3 f4) : g < W.heap.size := by
 obtain ⟨A0, c0, hb, hg, hr0⟩ := h
 exact blk_lt hb
theorem IsS63.ge (h : IsS63 w0 W g f0 f1 f2 f3 f4) : w0.heap.size ≤ g := by
 obtain ⟨A0, c0, hb, hg, hr0⟩ := h
 exact hg
theorem IsS63.far {p : Addr} (h : IsS63 w0 W g f0 f1 f2 f3 f4) (hne : g < p.block) (u : Value) : IsS63 w0 (W.setCell p u) g f0 f1 f2 f3 f4 := by
 obtain ⟨A0, c0, hb, hg, hr0⟩ := h
 exact ⟨A0, c0, blk_far hb (Nat.ne_of_lt hne) u, hg, Kd.R_far hr0 (fun k hk => Nat.ne_of_lt (Nat.lt_trans hk hne)) u⟩
theorem IsS63.farb {b_ o_ : Nat} {u : Value} (hne : g < b_) (h : IsS63 w0 W g f0 f1 f2 f3 f4) : IsS63 w0 (W.setCell ⟨b_, o_, none⟩ u) g f0 f1 f2 f3 f4 := h.far hne u
theorem IsS63.set_1 (h : IsS63 w0 W g f0 f1 f2 f3 f4) (x : Int) : IsS63 w0 (W.setCell ⟨g, 1, none⟩ (.int .i64 x)) g f0 x f2 f3 f4 := by
 obtain ⟨A0, c0, hb, hg, hr0⟩ := h
 exact ⟨A0, c0, by simpa using blk_set hb 1 (.int .i64 x), hg, Kd.R_far hr0 (fun k hk => Nat.ne_of_lt hk) _⟩
theorem IsS63.set_2 (h : IsS63 w0 W g f0 f1 f2 f3 f4) (x : Bool) : IsS63 w0 (W.setCell ⟨g, 2, none⟩ (.bool x)) g f0 f1 x f3 f4 := by
 obtain ⟨A0, c0, hb, hg, hr0⟩ := h
 exact ⟨A0, c0, by simpa using blk_set hb 2 (.bool x), hg, Kd.R_far hr0 (fun k hk => Nat.ne_of_lt hk) _⟩
theorem IsS63.set_3 (h : IsS63 w0 W g f0 f1 f2 f3 f4) (x : Int) : IsS63 w0 (W.setCell ⟨g, 3, none⟩ (.int .i64 x)) g f0 f1 f2 x f4 := by
 obtain ⟨A0, c0, hb, hg, hr0⟩ := h
 exact ⟨A0, c0, by simpa using blk_set hb 3 (.int .i64 x), hg, Kd.R_far hr0 (fun k hk => Nat.ne_of_lt hk) _⟩
theorem IsS63.set_4 (h : IsS63 w0 W g f0 f1 f2 f3 f4) (x : Int) : IsS63 w0 (W.setCell ⟨g, 4, none⟩ (.int .i64 x)) g f0 f1 f2 f3 x := by
 obtain ⟨A0, c0, hb, hg, hr0⟩ := h
 exact ⟨A0, c0, by simpa using blk_set hb 4 (.int .i64 x), hg, Kd.R_far hr0 (fun k hk => Nat.ne_of_lt hk) _⟩
theorem IsS63.keep {W1 : World} {g2 : Nat} {e0 : List Int} {e1 : Int} {e2 : Bool} {e3 e4 : Int} (h : IsS63 w0 W g f0 f1 f2 f3 f4) (h2 : IsS63 w0 W g2 e0 e1 e2 e3 e4) (hk : KeepBut W W1 g2 none) (hne : g ≠ g2) : IsS63 w0 W1 g f0 f1 f2 f3 f4 := by
 obtain ⟨A0, c0, hb, hg, hr0⟩ := h; obtain ⟨A2, c2, hb2, _, _⟩ := h2
 exact ⟨A0, c0, KeepBut.blk hk hb hne (by simp), hg, Kd.R_mono (Kd.R_keep (Kd.R_types hr0 hb2 (by decide)) hk (fun _ h => h.2)) (fun _ h => h.1)⟩
end
/-! ### power_New: function 8, by hand -/
def power_New.f (k : Nat) (l0 : List Int) : Option (List Int × Int × Bool × Int × Int × Int) := (params_Margins.f k l0).bind fun m => if m.2.2.2.2.2.2 = 0 then (if l0.length < 17592186044416 then some (l0, m.2.2.2.2.2.1, false, 0, 0, 0) else none) else some ([], 0, false, 0, 0, m.2.2.2.2.2.2)
theorem power_New.mono : ∀ a0 k, LeO (power_New.f k a0) (power_New.f (k + 1) a0) := by
 intro a0 k; unfold power_New.f
 exact LeO.bind (params_Margins.mono _ _) (fun _ => LeO.refl _)
set_option maxHeartbeats 8000000 in
set_option maxRecDepth 100000 in
theorem power_New.callsNil (k : Nat) (A0 : Option Addr) (c0 : Nat) (l0 : List Int) (r1 : List Int) (r2 : Int) (r3 : Bool) (r4 r5 r6 : Int) (w : World) (hr0 : Kd.C (Kd.int .i64) w A0 l0.length l0) (hc0 : l0.length ≤ c0) (h : power_New.f k l0 = some (r1, r2, r3, r4, r5, r6)) (hz : (r6 == 0) = false) :
  Calls Try.prog 8 #[.slice A0 l0.length c0] w fun e w' => e = .returned (.tuple #[.pointer none, .int .i64 r6]) ∧ Below w.heap.size w w' := by
 replace hz := beq_eq_false_iff_ne.mp hz; unfold power_New.f at h; replace h := Option.bind_eq_some_iff.mp h; obtain ⟨⟨t1, t2, t3, t4, t5, t6, t7⟩, e0, h⟩ := h; dsimp only at h
 by_cases c : t7 = 0
 ·rw [if_pos c] at h
  by_cases c6 : l0.length < 17592186044416
  ·rw [if_pos c6] at h
   simp only [Option.some.injEq, Prod.mk.injEq] at h
   exact absurd h.2.2.2.2.2.symm hz
  ·rw [if_neg c6] at h; cases h
 ·rw [if_neg c] at h
  simp only [Option.some.injEq, Prod.mk.injEq] at h; obtain ⟨rfl, rfl, rfl, rfl, rfl, rfl⟩ := h; have E0 := Aside0.mk e0; have cb : (t7 != 0) = true := bne_iff_ne.mpr c; have HR0 := Aside0.mk hr0; have HC0 := Aside0.mk hc0; have hu54 := Try.underlying54; have HB := Aside0.mk (Below.refl w.heap.size w); clear hr0 hc0 e0 c hz; go_enter Try.func8, Try.ntmps8
  go_wp2_with (first | (go_at_call 18; (with_reducible refine (params_Margins.calls k A0 c0 l0 t1 t2 t3 t4 t5 t6 t7 _ (Kd.C_below HR0.out HB.out) HC0.out E0.out).mono ?_); rintro e w3 ⟨rfl, hb⟩; have n0_ := Aside0.mk (below_step HB.out hb); clear HB; have HB := n0_; clear n0_ hb) | ((with_reducible refine gate_dst (N := 4) rfl ?_); refine box_event ?hg (N := 4) ?hd (cs := #[.int .i64 0, .int .i64 0, .int .i64 0, .int .i64 0, .int .i64 0, .int .i64 0]) (t := 54) ?hr ?_; (case hd => rfl); (case hg => rfl); (case hr => first | (go_simp; done) | (go_simp; rfl)); intro gm hg w4 hbox hb; have n0_ := Aside0.mk (below_step HB.out hb); have GM := Aside0.mk (show w.heap.size ≤ gm by rw [hg]; exact HB.out.size); clear HB; have HB := n0_; clear n0_; have BK := Aside0.mk hbox; clear hb hbox hg; have hcz := blk_cells6 (w := w4) (g := gm) BK.out; have hfz := blk_frozen BK.out))
  go_ret2
  exact ⟨rfl, by repeat (first | (with_reducible first | exact HB.out | apply below_alloc | apply pw_below_drewN | apply below_drew1 | refine below_set ?_ GM.out) | exact HB.out)⟩
set_option maxHeartbeats 8000000 in
set_option maxRecDepth 100000 in
theorem power_New.callsNew (k : Nat) (A0 : Option Addr) (c0 : Nat) (l0 : List Int) (r1 : List Int) (r2 : Int) (r3 : Bool) (r4 r5 r6 : Int) (w0 w : World) (hB : Below w0.heap.size w0 w) (hr0 : Kd.C (Kd.int .i64) w A0 l0.length l0) (hc0 : l0.length ≤ c0) (h : power_New.f k l0 = some (r1, r2, r3, r4, r5, r6)) (hz : (r6 == 0) = true) :
  Calls Try.prog 8 #[.slice A0 l0.length c0] w fun e w' => ∃ g_ : Nat, e = .returned (.tuple #[.pointer (some ⟨g_, 0, none⟩), .int .i64 r6]) ∧ IsS63 w0 w' g_ r1 r2 r3 r4 r5 ∧ Below w0.heap.size w0 w' ∧ Below w.heap.size w w' ∧ w.heap.size ≤ g_ := by
 obtain rfl := beq_iff_eq.mp hz; clear hz; unfold power_New.f at h; replace h := Option.bind_eq_some_iff.mp h; obtain ⟨⟨t1, t2, t3, t4, t5, t6, t7⟩, e0, h⟩ := h; dsimp only at h
 by_cases c : t7 = 0
 ·rw [if_pos c] at h
  by_cases c6 : l0.length < 17592186044416
  ·rw [if_pos c6] at h
   simp only [Option.some.injEq, Prod.mk.injEq] at h; obtain ⟨rfl, rfl, rfl, rfl, rfl, _⟩ := h; have E0 := Aside0.mk e0; have cb : (t7 != 0) = false := bne_eq_false_iff_eq.mpr c; have HR0 := Aside0.mk hr0; have HC0 := Aside0.mk hc0; have HB0 := Aside0.mk hB; have HL := Aside0.mk c6; have hu54 := Try.underlying54; have hu63 := Try.underlying63; have HB := Aside0.mk (Below.refl w.heap.size w); clear hr0 hc0 e0 c hB c6; go_enter Try.func8, Try.ntmps8
   go_wp2_with (first | (go_at_call 18; (with_reducible refine (params_Margins.calls k A0 c0 l0 t1 t2 t3 t4 t5 t6 t7 _ (Kd.C_below HR0.out HB.out) HC0.out E0.out).mono ?_); rintro e w3 ⟨rfl, hb⟩; have n0_ := Aside0.mk (below_step HB.out hb); clear HB; have HB := n0_; clear n0_ hb) | ((with_reducible refine gate_dst (N := 4) rfl ?_); refine box_event ?hg (N := 4) ?hd (cs := #[.int .i64 0, .int .i64 0, .int .i64 0, .int .i64 0, .int .i64 0, .int .i64 0]) (t := 54) ?hr ?_; (case hd => rfl); (case hg => rfl); (case hr => first | (go_simp; done) | (go_simp; rfl)); intro gm hg w4 hbox hb; have n0_ := Aside0.mk (below_step HB.out hb); have GM := Aside0.mk (show w.heap.size ≤ gm by rw [hg]; exact HB.out.size); clear HB; have HB := n0_; clear n0_; have BK := Aside0.mk hbox; clear hb hbox hg; have hcz := blk_cells6 (w := w4) (g := gm) BK.out; have hfz := blk_frozen BK.out)
    )
   clear hcz hfz; obtain ⟨W, hW⟩ : ∃ W, W = ((((((w4.setCell ⟨gm, 0, none⟩ (.int .i64 t1)).setCell ⟨gm, 1, none⟩ (.int .i64 t2)).setCell ⟨gm, 2, none⟩ (.int .i64 t3)).setCell ⟨gm, 3, none⟩ (.int .i64 t4)).setCell ⟨gm, 4, none⟩ (.int .i64 t5)).setCell ⟨gm, 5, none⟩ (.int .i64 t6)) := ⟨_, rfl⟩; rw [← hW]; have B2 := Aside0.mk (show W.heap[gm]? = some (.cells #[.int .i64 t1, .int .i64 t2, .int .i64 t3, .int .i64 t4, .int .i64 t5, .int .i64 t6] 54 (0, 0)) from by rw [hW]; exact blk_put (blk_put (blk_put (blk_put (blk_put (blk_put BK.out 0 _ rfl) 1 _ rfl) 2 _ rfl) 3 _ rfl) 4 _ rfl) 5 _ rfl); have HBW := Aside0.mk (show Below w.heap.size w W from by rw [hW]; exact below_set (below_set (below_set (below_set (below_set (below_set HB.out GM.out) GM.out) GM.out) GM.out) GM.out) GM.out); clear hW BK HB; have x5 : W.cell? ⟨gm, 5, none⟩ = some (.int .i64 t6) := (blk_cell B2.out 5).trans rfl; have HOL := Aside0.mk (show Kd.R (Kd.int .i64) 3 (W.alloc (.cells #[] 3)) w.heap.size (fun _ => True) (.slice (some ⟨W.heap.size, 0, none⟩) 0 0) ([] : List Int) from ⟨fun _ _ => trivial, [], by simpa using World.ownsRow_made (e := 3) W (base := w.heap.size) (size := (Kd.int .i64).sz) #[] 0 HBW.out.size (by simp [maxLen]) (by simp), ⟨by simp, fun j p hj => by simp at hj⟩⟩); have HBL := Aside0.mk (show Below w.heap.size w (W.alloc (.cells #[] 3)) from below_alloc HBW.out _); have B2L := Aside0.mk (blk_alloc B2.out (.cells #[] 3))
   go_region_held3 (fun w' => w'.cell? ⟨gm, 5, none⟩ = some (.int .i64 t6)) (go_keep)
    (first
    | ((refine Kd.R_append_rows_step (Kd.int .i64) (w0 := w) w.heap.size (by rfl) (.tmp 14) (.tmp 15) 22 3 (.int .i64 0) 8 rfl Try.underlying22 info3 rfl (by decide) (by omega) _ ([] : List Int) l0 _ _ _ (fun _ => True) (fun _ => False) rfl rfl ?aO ?aR (fun _ _ h => h) (fun _ h => h.elim) ?aF ?aB ?aS ?aL ?_); (case aO => (with_reducible repeat (first | apply Kd.R_drewN | apply Kd.R_drew)); exact HOL.out); (case aR => exact Kd.C_below HR0.out (below_drew1 HBL.out)); (case aF => exact (fun _ _ => trivial)); (case aB => exact below_drew1 HBL.out); (case aS => exact below_size (below_drew1 HBL.out)); (case aL => have := HL.out; simp only [List.length_nil]; omega); intro va wa ho hb hg hat; rw [List.nil_append] at ho; have HBA := Aside0.mk hb; have B3 := Aside0.mk (blk_grown (g := gm) (o := .cells #[.int .i64 t1, .int .i64 t2, .int .i64 t3, .int .i64 t4, .int .i64 t5, .int .i64 t6] 54 (0, 0)) (by (with_reducible repeat (first | refine blk_drewN ?_ _ | refine blk_drew ?_)); exact B2L.out) hg (Kd.R_ne HOL.out B2L.out (by decide))); obtain ⟨Ao, co, eo⟩ := Kd.R_slice ho; subst eo; have HOA := Aside0.mk ho; clear ho hb hg hat; have x5a : wa.cell? ⟨gm, 5, none⟩ = some (.int .i64 t6) := (blk_cell B3.out 5).trans rfl)
    )
   all_goals (try go_wp2)
   go_ret2
   exact ⟨_, rfl, ⟨_, _, by simpa using heap_alloc_new wa _, Nat.le_trans HB0.out.size (below_size HBA.out), Kd.R_lower (Kd.R_flat (fun h_ => h_) (Kd.R_alloc HOA.out _) (fun k hk _ => Kd.R_lt HOA.out k hk)) HB0.out.size⟩, below_step HB0.out (below_alloc HBA.out _), below_alloc HBA.out _, below_size HBA.out⟩
  ·rw [if_neg c6] at h; cases h
 ·rw [if_neg c] at h
  simp only [Option.some.injEq, Prod.mk.injEq] at h
  exact absurd h.2.2.2.2.2 c


/-! ### windhoverref08_lows: function 48 -/
def windhoverref08_lows.f  : Option (List Int) := some (([0, 1, 0, 1, 0, 0, 4, 1600, 1600, 2000, 1000, 500, 200, 100, 40, 40, 1, 0, 0, 0, 0, 1, 0, 16] : List Int))
set_option maxHeartbeats 8000000 in
set_option maxRecDepth 100000 in
theorem windhoverref08_lows.calls  (r : List Int) (w : World) (h : windhoverref08_lows.f  = some r) :
  Calls Try.prog 48 #[] w fun e w' => ∃ v0_ : Value, e = .returned (v0_) ∧ Kd.R (Kd.int .i64) 3 w' w.heap.size (fun _ => True) v0_ r ∧ Below w.heap.size w w' := by
 have HB := Aside0.mk (Below.refl w.heap.size w); have H : (some (([0, 1, 0, 1, 0, 0, 4, 1600, 1600, 2000, 1000, 500, 200, 100, 40, 40, 1, 0, 0, 0, 0, 1, 0, 16] : List Int))) = some r := h; clear h; obtain ⟨y216, hy216⟩ : ∃ y_ : List Int, y_ = (([0, 1, 0, 1, 0, 0, 4, 1600, 1600, 2000, 1000, 500, 200, 100, 40, 40, 1, 0, 0, 0, 0, 1, 0, 16] : List Int)) := ⟨_, rfl⟩; replace H : (some y216) = some r := by first | (rw [hy216]; with_reducible exact H) | (have H2_ := (Option.bind_some _ _).symm.trans H; rw [hy216]; with_reducible exact H2_) | (have H2_ := (Option.bind_some _ _).symm.trans H; with_reducible exact H2_) | with_reducible exact H | (rw [hy216]; exact H) | exact H
 have Ny216 := Aside0.mk hy216; clear hy216; obtain rfl := Option.some.inj H; go_enter Try.func48, Try.ntmps48
 go_wp2_with (first | ((with_reducible refine gate_dst (N := 1) rfl ?_); refine Kd.R_lit (Kd.int .i64) _ 3 ?hg (N := 1) ?hd (xs := ([0, 1, 0, 1, 0, 0, 4, 1600, 1600, 2000, 1000, 500, 200, 100, 40, 40, 1, 0, 0, 0, 0, 1, 0, 16] : List Int)) (inner := [.int .i64 0, .int .i64 1, .int .i64 0, .int .i64 1, .int .i64 0, .int .i64 0, .int .i64 4, .int .i64 1600, .int .i64 1600, .int .i64 2000, .int .i64 1000, .int .i64 500, .int .i64 200, .int .i64 100, .int .i64 40, .int .i64 40, .int .i64 1, .int .i64 0, .int .i64 0, .int .i64 0, .int .i64 0, .int .i64 1, .int .i64 0, .int .i64 16]) (ok := fun _ => True) (okp := fun _ => True) ?hr ?hp (fun _ hk => hk) trivial (Below.refl _ _) (Nat.le_refl _) (by simp) ?_; (case hd => rfl); (case hg => rfl); (case hr => first | (go_simp; done) | (go_simp; rfl)); (case hp => exact (Reps.one (show Kd.M (Kd.int .i64) _ _ _ 0 [.int .i64 0] from rfl) (Reps.one (show Kd.M (Kd.int .i64) _ _ _ 1 [.int .i64 1] from rfl) (Reps.one (show Kd.M (Kd.int .i64) _ _ _ 0 [.int .i64 0] from rfl) (Reps.one (show Kd.M (Kd.int .i64) _ _ _ 1 [.int .i64 1] from rfl) (Reps.one (show Kd.M (Kd.int .i64) _ _ _ 0 [.int .i64 0] from rfl) (Reps.one (show Kd.M (Kd.int .i64) _ _ _ 0 [.int .i64 0] from rfl) (Reps.one (show Kd.M (Kd.int .i64) _ _ _ 4 [.int .i64 4] from rfl) (Reps.one (show Kd.M (Kd.int .i64) _ _ _ 1600 [.int .i64 1600] from rfl) (Reps.one (show Kd.M (Kd.int .i64) _ _ _ 1600 [.int .i64 1600] from rfl) (Reps.one (show Kd.M (Kd.int .i64) _ _ _ 2000 [.int .i64 2000] from rfl) (Reps.one (show Kd.M (Kd.int .i64) _ _ _ 1000 [.int .i64 1000] from rfl) (Reps.one (show Kd.M (Kd.int .i64) _ _ _ 500 [.int .i64 500] from rfl) (Reps.one (show Kd.M (Kd.int .i64) _ _ _ 200 [.int .i64 200] from rfl) (Reps.one (show Kd.M (Kd.int .i64) _ _ _ 100 [.int .i64 100] from rfl) (Reps.one (show Kd.M (Kd.int .i64) _ _ _ 40 [.int .i64 40] from rfl) (Reps.one (show Kd.M (Kd.int .i64) _ _ _ 40 [.int .i64 40] from rfl) (Reps.one (show Kd.M (Kd.int .i64) _ _ _ 1 [.int .i64 1] from rfl) (Reps.one (show Kd.M (Kd.int .i64) _ _ _ 0 [.int .i64 0] from rfl) (Reps.one (show Kd.M (Kd.int .i64) _ _ _ 0 [.int .i64 0] from rfl) (Reps.one (show Kd.M (Kd.int .i64) _ _ _ 0 [.int .i64 0] from rfl) (Reps.one (show Kd.M (Kd.int .i64) _ _ _ 0 [.int .i64 0] from rfl) (Reps.one (show Kd.M (Kd.int .i64) _ _ _ 1 [.int .i64 1] from rfl) (Reps.one (show Kd.M (Kd.int .i64) _ _ _ 0 [.int .i64 0] from rfl) (Reps.one (show Kd.M (Kd.int .i64) _ _ _ 16 [.int .i64 16] from rfl) (Reps.none _ _)))))))))))))))))))))))))); intro v217 w1 ho2 hb hg_ hnew_; clear hg_ hnew_; (first | rw [← Ny216.out] at ho2 | (simp only [Int.reduceToNat] at ho2; rw [← Ny216.out] at ho2)); have n0_ := Aside0.mk (Kd.R_lower ho2 (below_size (by repeat (first | (with_reducible first | exact HB.out | apply below_alloc | apply pw_below_drewN | apply below_drew1) | exact HB.out)))); have n1_ := Aside0.mk (below_step (by repeat (first | (with_reducible first | exact HB.out | apply below_alloc | apply pw_below_drewN | apply below_drew1) | exact HB.out)) hb); clear HB; have HO218 := n0_; have HB := n1_; clear n0_ n1_; clear hb ho2))
 go_ret
 exact ⟨_, by first | rfl | (simp [errW_none, errW_some] <;> rfl) | (simp [*, errW_none, errW_some] <;> rfl), by (with_reducible repeat (first | apply Kd.R_alloc | apply Kd.R_drewN | apply Kd.R_drew)); exact HO218.out, by repeat (first | (with_reducible first | exact HB.out | apply below_alloc | apply pw_below_drewN | apply below_drew1) | exact HB.out)⟩

/-! ### windhoverref08_highs: function 49 -/
def windhoverref08_highs.f  : Option (List Int) := some (([16, 200, 16, 200, 16, 4, 32, 64000, 32000, 16000, 120000, 120000, 10000, 10000, 40000, 40000, 40, 1000000000, 1000000, 1000, 1000, 10000, 16384, 3200] : List Int))
set_option maxHeartbeats 8000000 in
set_option maxRecDepth 100000 in
theorem windhoverref08_highs.calls  (r : List Int) (w : World) (h : windhoverref08_highs.f  = some r) :
  Calls Try.prog 49 #[] w fun e w' => ∃ v0_ : Value, e = .returned (v0_) ∧ Kd.R (Kd.int .i64) 3 w' w.heap.size (fun _ => True) v0_ r ∧ Below w.heap.size w w' := by
 have HB := Aside0.mk (Below.refl w.heap.size w); have H : (some (([16, 200, 16, 200, 16, 4, 32, 64000, 32000, 16000, 120000, 120000, 10000, 10000, 40000, 40000, 40, 1000000000, 1000000, 1000, 1000, 10000, 16384, 3200] : List Int))) = some r := h; clear h; obtain ⟨y219, hy219⟩ : ∃ y_ : List Int, y_ = (([16, 200, 16, 200, 16, 4, 32, 64000, 32000, 16000, 120000, 120000, 10000, 10000, 40000, 40000, 40, 1000000000, 1000000, 1000, 1000, 10000, 16384, 3200] : List Int)) := ⟨_, rfl⟩; replace H : (some y219) = some r := by first | (rw [hy219]; with_reducible exact H) | (have H2_ := (Option.bind_some _ _).symm.trans H; rw [hy219]; with_reducible exact H2_) | (have H2_ := (Option.bind_some _ _).symm.trans H; with_reducible exact H2_) | with_reducible exact H | (rw [hy219]; exact H) | exact H
 have Ny219 := Aside0.mk hy219; clear hy219; obtain rfl := Option.some.inj H; go_enter Try.func49, Try.ntmps49
 go_wp2_with (first | ((with_reducible refine gate_dst (N := 1) rfl ?_); refine Kd.R_lit (Kd.int .i64) _ 3 ?hg (N := 1) ?hd (xs := ([16, 200, 16, 200, 16, 4, 32, 64000, 32000, 16000, 120000, 120000, 10000, 10000, 40000, 40000, 40, 1000000000, 1000000, 1000, 1000, 10000, 16384, 3200] : List Int)) (inner := [.int .i64 16, .int .i64 200, .int .i64 16, .int .i64 200, .int .i64 16, .int .i64 4, .int .i64 32, .int .i64 64000, .int .i64 32000, .int .i64 16000, .int .i64 120000, .int .i64 120000, .int .i64 10000, .int .i64 10000, .int .i64 40000, .int .i64 40000, .int .i64 40, .int .i64 1000000000, .int .i64 1000000, .int .i64 1000, .int .i64 1000, .int .i64 10000, .int .i64 16384, .int .i64 3200]) (ok := fun _ => True) (okp := fun _ => True) ?hr ?hp (fun _ hk => hk) trivial (Below.refl _ _) (Nat.le_refl _) (by simp) ?_; (case hd => rfl); (case hg => rfl); (case hr => first | (go_simp; done) | (go_simp; rfl)); (case hp => exact (Reps.one (show Kd.M (Kd.int .i64) _ _ _ 16 [.int .i64 16] from rfl) (Reps.one (show Kd.M (Kd.int .i64) _ _ _ 200 [.int .i64 200] from rfl) (Reps.one (show Kd.M (Kd.int .i64) _ _ _ 16 [.int .i64 16] from rfl) (Reps.one (show Kd.M (Kd.int .i64) _ _ _ 200 [.int .i64 200] from rfl) (Reps.one (show Kd.M (Kd.int .i64) _ _ _ 16 [.int .i64 16] from rfl) (Reps.one (show Kd.M (Kd.int .i64) _ _ _ 4 [.int .i64 4] from rfl) (Reps.one (show Kd.M (Kd.int .i64) _ _ _ 32 [.int .i64 32] from rfl) (Reps.one (show Kd.M (Kd.int .i64) _ _ _ 64000 [.int .i64 64000] from rfl) (Reps.one (show Kd.M (Kd.int .i64) _ _ _ 32000 [.int .i64 32000] from rfl) (Reps.one (show Kd.M (Kd.int .i64) _ _ _ 16000 [.int .i64 16000] from rfl) (Reps.one (show Kd.M (Kd.int .i64) _ _ _ 120000 [.int .i64 120000] from rfl) (Reps.one (show Kd.M (Kd.int .i64) _ _ _ 120000 [.int .i64 120000] from rfl) (Reps.one (show Kd.M (Kd.int .i64) _ _ _ 10000 [.int .i64 10000] from rfl) (Reps.one (show Kd.M (Kd.int .i64) _ _ _ 10000 [.int .i64 10000] from rfl) (Reps.one (show Kd.M (Kd.int .i64) _ _ _ 40000 [.int .i64 40000] from rfl) (Reps.one (show Kd.M (Kd.int .i64) _ _ _ 40000 [.int .i64 40000] from rfl) (Reps.one (show Kd.M (Kd.int .i64) _ _ _ 40 [.int .i64 40] from rfl) (Reps.one (show Kd.M (Kd.int .i64) _ _ _ 1000000000 [.int .i64 1000000000] from rfl) (Reps.one (show Kd.M (Kd.int .i64) _ _ _ 1000000 [.int .i64 1000000] from rfl) (Reps.one (show Kd.M (Kd.int .i64) _ _ _ 1000 [.int .i64 1000] from rfl) (Reps.one (show Kd.M (Kd.int .i64) _ _ _ 1000 [.int .i64 1000] from rfl) (Reps.one (show Kd.M (Kd.int .i64) _ _ _ 10000 [.int .i64 10000] from rfl) (Reps.one (show Kd.M (Kd.int .i64) _ _ _ 16384 [.int .i64 16384] from rfl) (Reps.one (show Kd.M (Kd.int .i64) _ _ _ 3200 [.int .i64 3200] from rfl) (Reps.none _ _)))))))))))))))))))))))))); intro v220 w1 ho2 hb hg_ hnew_; clear hg_ hnew_; (first | rw [← Ny219.out] at ho2 | (simp only [Int.reduceToNat] at ho2; rw [← Ny219.out] at ho2)); have n0_ := Aside0.mk (Kd.R_lower ho2 (below_size (by repeat (first | (with_reducible first | exact HB.out | apply below_alloc | apply pw_below_drewN | apply below_drew1) | exact HB.out)))); have n1_ := Aside0.mk (below_step (by repeat (first | (with_reducible first | exact HB.out | apply below_alloc | apply pw_below_drewN | apply below_drew1) | exact HB.out)) hb); clear HB; have HO221 := n0_; have HB := n1_; clear n0_ n1_; clear hb ho2))
 go_ret
 exact ⟨_, by first | rfl | (simp [errW_none, errW_some] <;> rfl) | (simp [*, errW_none, errW_some] <;> rfl), by (with_reducible repeat (first | apply Kd.R_alloc | apply Kd.R_drewN | apply Kd.R_drew)); exact HO221.out, by repeat (first | (with_reducible first | exact HB.out | apply below_alloc | apply pw_below_drewN | apply below_drew1) | exact HB.out)⟩

/-! ### windhoverref08_rules: function 50 -/
def windhoverref08_rules.f (l0 : List Int) : Option (Bool) := if 2 < (l0.length : Int) then (if 4 < (l0.length : Int) then (if 1 < (l0.length : Int) then (if 3 < (l0.length : Int) then (if 0 < (l0.length : Int) then (if 6 < (l0.length : Int) then (if (wrap64 ((wrap64 ((wrap64 ((rd l0 0) + (rd l0 6))) + (wrap64 (2 * (mx (rd l0 2) (rd l0 4)))))) + 4)) ≤ 64 then (if 12 < (l0.length : Int) then (if (rd l0 12) ≥ (wrap64 ((wrap64 (8 * (mx (rd l0 1) (rd l0 3)))) + 100)) then (if 11 < (l0.length : Int) then (if 10 < (l0.length : Int) then (some (decide ((rd l0 11) ≤ (rd l0 10)))) else (none)) else (none)) else (some false)) else (none)) else (some false)) else (none)) else (none)) else (none)) else (none)) else (none)) else (none)
set_option maxHeartbeats 8000000 in
set_option maxRecDepth 100000 in
theorem windhoverref08_rules.calls (A0 : Option Addr) (c0 : Nat) (l0 : List Int) (r : Bool) (w : World) (hr0 : Kd.C (Kd.int .i64) w A0 l0.length l0) (hc0 : l0.length ≤ c0) (h : windhoverref08_rules.f l0 = some r) :
  Calls Try.prog 50 #[.slice A0 l0.length c0] w fun e w' => e = .returned (.bool r) ∧ Below w.heap.size w w' := by
 have HR0 := Aside0.mk hr0; have HC0 := Aside0.mk hc0; clear hr0 hc0; have HB := Aside0.mk (Below.refl w.heap.size w); have H : (if 2 < (l0.length : Int) then (if 4 < (l0.length : Int) then (if 1 < (l0.length : Int) then (if 3 < (l0.length : Int) then (if 0 < (l0.length : Int) then (if 6 < (l0.length : Int) then (if (wrap64 ((wrap64 ((wrap64 ((rd l0 0) + (rd l0 6))) + (wrap64 (2 * (mx (rd l0 2) (rd l0 4)))))) + 4)) ≤ 64 then (if 12 < (l0.length : Int) then (if (rd l0 12) ≥ (wrap64 ((wrap64 (8 * (mx (rd l0 1) (rd l0 3)))) + 100)) then (if 11 < (l0.length : Int) then (if 10 < (l0.length : Int) then (some (decide ((rd l0 11) ≤ (rd l0 10)))) else (none)) else (none)) else (some false)) else (none)) else (some false)) else (none)) else (none)) else (none)) else (none)) else (none)) else (none)) = some r := h; clear h
 by_cases c2 : 2 < (l0.length : Int)
 ·rw [if_pos c2] at H
  have c2b0 : decide (2 < (l0.length : Int)) = true := decide_eq_true c2; have c2b1 : decide (2 < l0.length) = true := decide_eq_true (by omega); clear c2
  by_cases c3 : 4 < (l0.length : Int)
  ·rw [if_pos c3] at H
   have c3b0 : decide (4 < (l0.length : Int)) = true := decide_eq_true c3; have c3b1 : decide (4 < l0.length) = true := decide_eq_true (by omega); clear c3; obtain ⟨ji4, hji4⟩ : ∃ j_ : Int, (mx (rd l0 2) (rd l0 4)) = j_ := ⟨_, rfl⟩; replace H : (if 1 < (l0.length : Int) then (if 3 < (l0.length : Int) then (if 0 < (l0.length : Int) then (if 6 < (l0.length : Int) then (if (wrap64 ((wrap64 ((wrap64 ((rd l0 0) + (rd l0 6))) + (wrap64 (2 * (ji4))))) + 4)) ≤ 64 then (if 12 < (l0.length : Int) then (if (rd l0 12) ≥ (wrap64 ((wrap64 (8 * (mx (rd l0 1) (rd l0 3)))) + 100)) then (if 11 < (l0.length : Int) then (if 10 < (l0.length : Int) then (some (decide ((rd l0 11) ≤ (rd l0 10)))) else (none)) else (none)) else (some false)) else (none)) else (some false)) else (none)) else (none)) else (none)) else (none)) = some r := by first | (rw [hji4] at H; exact H) | (simp only [hji4] at H ⊢; exact H)
   have hji4_ : (if (rd l0 2) < (rd l0 4) then (rd l0 4) else (rd l0 2)) = ji4 := hji4
   by_cases c5 : 1 < (l0.length : Int)
   ·rw [if_pos c5] at H
    have c5b0 : decide (1 < (l0.length : Int)) = true := decide_eq_true c5; have c5b1 : decide (1 < l0.length) = true := decide_eq_true (by omega); clear c5
    by_cases c6 : 3 < (l0.length : Int)
    ·rw [if_pos c6] at H
     have c6b0 : decide (3 < (l0.length : Int)) = true := decide_eq_true c6; have c6b1 : decide (3 < l0.length) = true := decide_eq_true (by omega); clear c6; obtain ⟨ji7, hji7⟩ : ∃ j_ : Int, (mx (rd l0 1) (rd l0 3)) = j_ := ⟨_, rfl⟩; replace H : (if 0 < (l0.length : Int) then (if 6 < (l0.length : Int) then (if (wrap64 ((wrap64 ((wrap64 ((rd l0 0) + (rd l0 6))) + (wrap64 (2 * (ji4))))) + 4)) ≤ 64 then (if 12 < (l0.length : Int) then (if (rd l0 12) ≥ (wrap64 ((wrap64 (8 * (ji7))) + 100)) then (if 11 < (l0.length : Int) then (if 10 < (l0.length : Int) then (some (decide ((rd l0 11) ≤ (rd l0 10)))) else (none)) else (none)) else (some false)) else (none)) else (some false)) else (none)) else (none)) = some r := by first | (rw [hji7] at H; exact H) | (simp only [hji7] at H ⊢; exact H)
     have hji7_ : (if (rd l0 1) < (rd l0 3) then (rd l0 3) else (rd l0 1)) = ji7 := hji7
     by_cases c8 : 0 < (l0.length : Int)
     ·rw [if_pos c8] at H
      have c8b0 : decide (0 < (l0.length : Int)) = true := decide_eq_true c8; have c8b1 : decide (0 < l0.length) = true := decide_eq_true (by omega); clear c8
      by_cases c9 : 6 < (l0.length : Int)
      ·rw [if_pos c9] at H
       have c9b0 : decide (6 < (l0.length : Int)) = true := decide_eq_true c9; have c9b1 : decide (6 < l0.length) = true := decide_eq_true (by omega); clear c9
       by_cases c10 : (wrap64 ((wrap64 ((wrap64 ((rd l0 0) + (rd l0 6))) + (wrap64 (2 * (ji4))))) + 4)) ≤ 64
       ·rw [if_pos c10] at H
        have c10b0 : decide ((wrap64 ((wrap64 ((wrap64 ((rd l0 0) + (rd l0 6))) + (wrap64 (2 * (ji4))))) + 4)) ≤ 64) = true := decide_eq_true c10; clear c10
        by_cases c11 : 12 < (l0.length : Int)
        ·rw [if_pos c11] at H
         have c11b0 : decide (12 < (l0.length : Int)) = true := decide_eq_true c11; have c11b1 : decide (12 < l0.length) = true := decide_eq_true (by omega); clear c11
         by_cases c12 : (rd l0 12) ≥ (wrap64 ((wrap64 (8 * (ji7))) + 100))
         ·rw [if_pos c12] at H
          have c12b0 : decide ((wrap64 ((wrap64 (8 * (ji7))) + 100)) ≤ (rd l0 12)) = true := decide_eq_true c12; clear c12
          by_cases c13 : 11 < (l0.length : Int)
          ·rw [if_pos c13] at H
           have c13b0 : decide (11 < (l0.length : Int)) = true := decide_eq_true c13; have c13b1 : decide (11 < l0.length) = true := decide_eq_true (by omega); clear c13
           by_cases c14 : 10 < (l0.length : Int)
           ·rw [if_pos c14] at H
            have c14b0 : decide (10 < (l0.length : Int)) = true := decide_eq_true c14; have c14b1 : decide (10 < l0.length) = true := decide_eq_true (by omega); clear c14; obtain rfl := Option.some.inj H; have p222 : 0 ≤ (2 : Int) := (by omega); have q222 : 2 < (l0.length : Int) := of_decide_eq_true (by with_reducible assumption); obtain ⟨ad222, e222, hx222_0⟩ := Kd.at_int HR0.out 2 p222 q222; cases e222; (try simp only [show (2 : Int).toNat = 2 from rfl, Nat.reduceMul, Nat.reduceEqDiff, Go.Addr.add, ↓reduceIte] at hx222_0); have qi222 : (2 < l0.length) = True := eq_true (by omega); replace p222 := eq_true p222; replace q222 := eq_true q222; have p223 : 0 ≤ (4 : Int) := (by omega); have q223 : 4 < (l0.length : Int) := of_decide_eq_true (by with_reducible assumption); obtain ⟨ad223, e223, hx223_0⟩ := Kd.at_int HR0.out 4 p223 q223
            obtain rfl : ad222 = ad223 := (by injection e223)
            (try simp only [show (4 : Int).toNat = 4 from rfl, Nat.reduceMul, Nat.reduceEqDiff, Go.Addr.add, ↓reduceIte] at hx223_0); have qi223 : (4 < l0.length) = True := eq_true (by omega); replace p223 := eq_true p223; replace q223 := eq_true q223; have p224 : 0 ≤ (1 : Int) := (by omega); have q224 : 1 < (l0.length : Int) := of_decide_eq_true (by with_reducible assumption); obtain ⟨ad224, e224, hx224_0⟩ := Kd.at_int HR0.out 1 p224 q224
            obtain rfl : ad222 = ad224 := (by injection e224)
            (try simp only [show (1 : Int).toNat = 1 from rfl, Nat.reduceMul, Nat.reduceEqDiff, Go.Addr.add, ↓reduceIte] at hx224_0); have qi224 : (1 < l0.length) = True := eq_true (by omega); replace p224 := eq_true p224; replace q224 := eq_true q224; have p225 : 0 ≤ (3 : Int) := (by omega); have q225 : 3 < (l0.length : Int) := of_decide_eq_true (by with_reducible assumption); obtain ⟨ad225, e225, hx225_0⟩ := Kd.at_int HR0.out 3 p225 q225
            obtain rfl : ad222 = ad225 := (by injection e225)
            (try simp only [show (3 : Int).toNat = 3 from rfl, Nat.reduceMul, Nat.reduceEqDiff, Go.Addr.add, ↓reduceIte] at hx225_0); have qi225 : (3 < l0.length) = True := eq_true (by omega); replace p225 := eq_true p225; replace q225 := eq_true q225; have p226 : 0 ≤ (0 : Int) := (by omega); have q226 : 0 < (l0.length : Int) := of_decide_eq_true (by with_reducible assumption); obtain ⟨ad226, e226, hx226_0⟩ := Kd.at_int HR0.out 0 p226 q226
            obtain rfl : ad222 = ad226 := (by injection e226)
            have qi226 : (0 < l0.length) = True := eq_true (by omega); (try rw [show ((0 : Int)).toNat = 0 from rfl] at hx226_0); (try rw [Addr.add_zero'] at hx226_0); replace p226 := eq_true p226; replace q226 := eq_true q226; have p227 : 0 ≤ (6 : Int) := (by omega); have q227 : 6 < (l0.length : Int) := of_decide_eq_true (by with_reducible assumption); obtain ⟨ad227, e227, hx227_0⟩ := Kd.at_int HR0.out 6 p227 q227
            obtain rfl : ad222 = ad227 := (by injection e227)
            (try simp only [show (6 : Int).toNat = 6 from rfl, Nat.reduceMul, Nat.reduceEqDiff, Go.Addr.add, ↓reduceIte] at hx227_0); have qi227 : (6 < l0.length) = True := eq_true (by omega); replace p227 := eq_true p227; replace q227 := eq_true q227; have p228 : 0 ≤ (12 : Int) := (by omega); have q228 : 12 < (l0.length : Int) := of_decide_eq_true (by with_reducible assumption); obtain ⟨ad228, e228, hx228_0⟩ := Kd.at_int HR0.out 12 p228 q228
            obtain rfl : ad222 = ad228 := (by injection e228)
            (try simp only [show (12 : Int).toNat = 12 from rfl, Nat.reduceMul, Nat.reduceEqDiff, Go.Addr.add, ↓reduceIte] at hx228_0); have qi228 : (12 < l0.length) = True := eq_true (by omega); replace p228 := eq_true p228; replace q228 := eq_true q228; have p229 : 0 ≤ (11 : Int) := (by omega); have q229 : 11 < (l0.length : Int) := of_decide_eq_true (by with_reducible assumption); obtain ⟨ad229, e229, hx229_0⟩ := Kd.at_int HR0.out 11 p229 q229
            obtain rfl : ad222 = ad229 := (by injection e229)
            (try simp only [show (11 : Int).toNat = 11 from rfl, Nat.reduceMul, Nat.reduceEqDiff, Go.Addr.add, ↓reduceIte] at hx229_0); have qi229 : (11 < l0.length) = True := eq_true (by omega); replace p229 := eq_true p229; replace q229 := eq_true q229; have p230 : 0 ≤ (10 : Int) := (by omega); have q230 : 10 < (l0.length : Int) := of_decide_eq_true (by with_reducible assumption); obtain ⟨ad230, e230, hx230_0⟩ := Kd.at_int HR0.out 10 p230 q230
            obtain rfl : ad222 = ad230 := (by injection e230)
            (try simp only [show (10 : Int).toNat = 10 from rfl, Nat.reduceMul, Nat.reduceEqDiff, Go.Addr.add, ↓reduceIte] at hx230_0); have qi230 : (10 < l0.length) = True := eq_true (by omega); replace p230 := eq_true p230; replace q230 := eq_true q230; go_enter Try.func50, Try.ntmps50
            go_wp2
            repeat (go_quiet (fail); try go_wp2)
            go_ret
            exact ⟨by first | rfl | (simp [errW_none, errW_some] <;> rfl) | (simp only [← hji4, ← hji7]; first | rfl | (simp [errW_none, errW_some] <;> rfl)) | (simp [*, errW_none, errW_some] <;> rfl), by repeat (first | (with_reducible first | exact HB.out | apply below_alloc | apply pw_below_drewN | apply below_drew1) | exact HB.out)⟩
           ·rw [if_neg c14] at H
            exact absurd H (by simp)
          ·rw [if_neg c13] at H
           exact absurd H (by simp)
         ·rw [if_neg c12] at H
          have c12b0 : decide ((wrap64 ((wrap64 (8 * (ji7))) + 100)) ≤ (rd l0 12)) = false := decide_eq_false c12; clear c12; obtain rfl := Option.some.inj H; have p222 : 0 ≤ (2 : Int) := (by omega); have q222 : 2 < (l0.length : Int) := of_decide_eq_true (by with_reducible assumption); obtain ⟨ad222, e222, hx222_0⟩ := Kd.at_int HR0.out 2 p222 q222; cases e222; (try simp only [show (2 : Int).toNat = 2 from rfl, Nat.reduceMul, Nat.reduceEqDiff, Go.Addr.add, ↓reduceIte] at hx222_0); have qi222 : (2 < l0.length) = True := eq_true (by omega); replace p222 := eq_true p222; replace q222 := eq_true q222; have p223 : 0 ≤ (4 : Int) := (by omega); have q223 : 4 < (l0.length : Int) := of_decide_eq_true (by with_reducible assumption); obtain ⟨ad223, e223, hx223_0⟩ := Kd.at_int HR0.out 4 p223 q223
          obtain rfl : ad222 = ad223 := (by injection e223)
          (try simp only [show (4 : Int).toNat = 4 from rfl, Nat.reduceMul, Nat.reduceEqDiff, Go.Addr.add, ↓reduceIte] at hx223_0); have qi223 : (4 < l0.length) = True := eq_true (by omega); replace p223 := eq_true p223; replace q223 := eq_true q223; have p224 : 0 ≤ (1 : Int) := (by omega); have q224 : 1 < (l0.length : Int) := of_decide_eq_true (by with_reducible assumption); obtain ⟨ad224, e224, hx224_0⟩ := Kd.at_int HR0.out 1 p224 q224
          obtain rfl : ad222 = ad224 := (by injection e224)
          (try simp only [show (1 : Int).toNat = 1 from rfl, Nat.reduceMul, Nat.reduceEqDiff, Go.Addr.add, ↓reduceIte] at hx224_0); have qi224 : (1 < l0.length) = True := eq_true (by omega); replace p224 := eq_true p224; replace q224 := eq_true q224; have p225 : 0 ≤ (3 : Int) := (by omega); have q225 : 3 < (l0.length : Int) := of_decide_eq_true (by with_reducible assumption); obtain ⟨ad225, e225, hx225_0⟩ := Kd.at_int HR0.out 3 p225 q225
          obtain rfl : ad222 = ad225 := (by injection e225)
          (try simp only [show (3 : Int).toNat = 3 from rfl, Nat.reduceMul, Nat.reduceEqDiff, Go.Addr.add, ↓reduceIte] at hx225_0); have qi225 : (3 < l0.length) = True := eq_true (by omega); replace p225 := eq_true p225; replace q225 := eq_true q225; have p226 : 0 ≤ (0 : Int) := (by omega); have q226 : 0 < (l0.length : Int) := of_decide_eq_true (by with_reducible assumption); obtain ⟨ad226, e226, hx226_0⟩ := Kd.at_int HR0.out 0 p226 q226
          obtain rfl : ad222 = ad226 := (by injection e226)
          have qi226 : (0 < l0.length) = True := eq_true (by omega); (try rw [show ((0 : Int)).toNat = 0 from rfl] at hx226_0); (try rw [Addr.add_zero'] at hx226_0); replace p226 := eq_true p226; replace q226 := eq_true q226; have p227 : 0 ≤ (6 : Int) := (by omega); have q227 : 6 < (l0.length : Int) := of_decide_eq_true (by with_reducible assumption); obtain ⟨ad227, e227, hx227_0⟩ := Kd.at_int HR0.out 6 p227 q227
          obtain rfl : ad222 = ad227 := (by injection e227)
          (try simp only [show (6 : Int).toNat = 6 from rfl, Nat.reduceMul, Nat.reduceEqDiff, Go.Addr.add, ↓reduceIte] at hx227_0); have qi227 : (6 < l0.length) = True := eq_true (by omega); replace p227 := eq_true p227; replace q227 := eq_true q227; have p228 : 0 ≤ (12 : Int) := (by omega); have q228 : 12 < (l0.length : Int) := of_decide_eq_true (by with_reducible assumption); obtain ⟨ad228, e228, hx228_0⟩ := Kd.at_int HR0.out 12 p228 q228
          obtain rfl : ad222 = ad228 := (by injection e228)
          (try simp only [show (12 : Int).toNat = 12 from rfl, Nat.reduceMul, Nat.reduceEqDiff, Go.Addr.add, ↓reduceIte] at hx228_0); have qi228 : (12 < l0.length) = True := eq_true (by omega); replace p228 := eq_true p228; replace q228 := eq_true q228; go_enter Try.func50, Try.ntmps50
          go_wp2
          repeat (go_quiet (fail); try go_wp2)
          go_ret
          exact ⟨by first | rfl | (simp [errW_none, errW_some] <;> rfl) | (simp only [← hji4, ← hji7]; first | rfl | (simp [errW_none, errW_some] <;> rfl)) | (simp [*, errW_none, errW_some] <;> rfl), by repeat (first | (with_reducible first | exact HB.out | apply below_alloc | apply pw_below_drewN | apply below_drew1) | exact HB.out)⟩
        ·rw [if_neg c11] at H
         exact absurd H (by simp)
       ·rw [if_neg c10] at H
        have c10b0 : decide ((wrap64 ((wrap64 ((wrap64 ((rd l0 0) + (rd l0 6))) + (wrap64 (2 * (ji4))))) + 4)) ≤ 64) = false := decide_eq_false c10; clear c10; obtain rfl := Option.some.inj H; have p222 : 0 ≤ (2 : Int) := (by omega); have q222 : 2 < (l0.length : Int) := of_decide_eq_true (by with_reducible assumption); obtain ⟨ad222, e222, hx222_0⟩ := Kd.at_int HR0.out 2 p222 q222; cases e222; (try simp only [show (2 : Int).toNat = 2 from rfl, Nat.reduceMul, Nat.reduceEqDiff, Go.Addr.add, ↓reduceIte] at hx222_0); have qi222 : (2 < l0.length) = True := eq_true (by omega); replace p222 := eq_true p222; replace q222 := eq_true q222; have p223 : 0 ≤ (4 : Int) := (by omega); have q223 : 4 < (l0.length : Int) := of_decide_eq_true (by with_reducible assumption); obtain ⟨ad223, e223, hx223_0⟩ := Kd.at_int HR0.out 4 p223 q223
        obtain rfl : ad222 = ad223 := (by injection e223)
        (try simp only [show (4 : Int).toNat = 4 from rfl, Nat.reduceMul, Nat.reduceEqDiff, Go.Addr.add, ↓reduceIte] at hx223_0); have qi223 : (4 < l0.length) = True := eq_true (by omega); replace p223 := eq_true p223; replace q223 := eq_true q223; have p224 : 0 ≤ (1 : Int) := (by omega); have q224 : 1 < (l0.length : Int) := of_decide_eq_true (by with_reducible assumption); obtain ⟨ad224, e224, hx224_0⟩ := Kd.at_int HR0.out 1 p224 q224
        obtain rfl : ad222 = ad224 := (by injection e224)
        (try simp only [show (1 : Int).toNat = 1 from rfl, Nat.reduceMul, Nat.reduceEqDiff, Go.Addr.add, ↓reduceIte] at hx224_0); have qi224 : (1 < l0.length) = True := eq_true (by omega); replace p224 := eq_true p224; replace q224 := eq_true q224; have p225 : 0 ≤ (3 : Int) := (by omega); have q225 : 3 < (l0.length : Int) := of_decide_eq_true (by with_reducible assumption); obtain ⟨ad225, e225, hx225_0⟩ := Kd.at_int HR0.out 3 p225 q225
        obtain rfl : ad222 = ad225 := (by injection e225)
        (try simp only [show (3 : Int).toNat = 3 from rfl, Nat.reduceMul, Nat.reduceEqDiff, Go.Addr.add, ↓reduceIte] at hx225_0); have qi225 : (3 < l0.length) = True := eq_true (by omega); replace p225 := eq_true p225; replace q225 := eq_true q225; have p226 : 0 ≤ (0 : Int) := (by omega); have q226 : 0 < (l0.length : Int) := of_decide_eq_true (by with_reducible assumption); obtain ⟨ad226, e226, hx226_0⟩ := Kd.at_int HR0.out 0 p226 q226
        obtain rfl : ad222 = ad226 := (by injection e226)
        have qi226 : (0 < l0.length) = True := eq_true (by omega); (try rw [show ((0 : Int)).toNat = 0 from rfl] at hx226_0); (try rw [Addr.add_zero'] at hx226_0); replace p226 := eq_true p226; replace q226 := eq_true q226; have p227 : 0 ≤ (6 : Int) := (by omega); have q227 : 6 < (l0.length : Int) := of_decide_eq_true (by with_reducible assumption); obtain ⟨ad227, e227, hx227_0⟩ := Kd.at_int HR0.out 6 p227 q227
        obtain rfl : ad222 = ad227 := (by injection e227)
        (try simp only [show (6 : Int).toNat = 6 from rfl, Nat.reduceMul, Nat.reduceEqDiff, Go.Addr.add, ↓reduceIte] at hx227_0); have qi227 : (6 < l0.length) = True := eq_true (by omega); replace p227 := eq_true p227; replace q227 := eq_true q227; go_enter Try.func50, Try.ntmps50
        go_wp2
        repeat (go_quiet (fail); try go_wp2)
        go_ret
        exact ⟨by first | rfl | (simp [errW_none, errW_some] <;> rfl) | (simp only [← hji4, ← hji7]; first | rfl | (simp [errW_none, errW_some] <;> rfl)) | (simp [*, errW_none, errW_some] <;> rfl), by repeat (first | (with_reducible first | exact HB.out | apply below_alloc | apply pw_below_drewN | apply below_drew1) | exact HB.out)⟩
      ·rw [if_neg c9] at H
       exact absurd H (by simp)
     ·rw [if_neg c8] at H
      exact absurd H (by simp)
    ·rw [if_neg c6] at H
     exact absurd H (by simp)
   ·rw [if_neg c5] at H
    exact absurd H (by simp)
  ·rw [if_neg c3] at H
   exact absurd H (by simp)
 ·rw [if_neg c2] at H
  exact absurd H (by simp)

end Go.Proofs.Ytmmlahckcgjofaa.PPowerFollows
