-- WRITTEN BY wip/tools/aprint.py of this claim's repository over the kit's words: not typed by hand
import Derived.Test.YtfpggoiopjlkiaaPGuardStopsx0
import Derived.Test.YtfpggoiopjlkiaaPGuardStopsx1
import Derived.Test.YtfpggoiopjlkiaaPGuardStopsx2
import Derived.Test.YtfpggoiopjlkiaaPGuardStopsx3
import Derived.Test.YtfpggoiopjlkiaaPGuardStopsx7
import Derived.Test.YtfpggoiopjlkiaaPGuardStopsx8
import Derived.Test.YtfpggoiopjlkiaaPGuardStopsx10
namespace Go.Proofs.Ytfpggoiopjlkiaa.PGuardStops
open Go.RowKit Go.Proofs.YtfpggoiopjlkiaaW.PrintWords Go.Proofs.YtfpggoiopjlkiaaW.PrintLast Go.Proofs.YtfpggoiopjlkiaaW.PrintMore
attribute [local go_sem] max2_int min2_int max_two min_two max_three min_three max_four min_four   -- for this text's walks alone
set_option linter.unusedVariables false
set_option linter.unusedSimpArgs false

attribute [local go_sem high] eqA36 eqA39
/-! ### fix_Clamp: function 41 -/
def fix_Clamp.f (a0 : Int) (a1 : Int) (a2 : Int) : Option (Int) := if a0 < a1 then (some a1) else (if a0 > a2 then (some a2) else (some a0))
set_option maxHeartbeats 8000000 in
set_option maxRecDepth 100000 in
theorem fix_Clamp.calls (a0 : Int) (a1 : Int) (a2 : Int) (r : Int) (w : World) (h : fix_Clamp.f a0 a1 a2 = some r) :
    Calls Try.prog 41 #[.int .i64 a0, .int .i64 a1, .int .i64 a2] w fun e w' => e = .returned (.int .i64 r) ∧ Drawn0 w w' := by
  have H : (if a0 < a1 then (some a1) else (if a0 > a2 then (some a2) else (some a0))) = some r := h
  clear h
  by_cases c4 : a0 < a1
  · rw [if_pos c4] at H
    have c4b0 : decide (a0 < a1) = true := decide_eq_true c4
    clear c4
    obtain rfl := Option.some.inj H
    go_enter Try.func41, Try.ntmps41
    go_wp2
    go_ret
    exact ⟨by first | rfl | (simp; done) | (simp [*]; done), by repeat (first | exact Drawn0.refl _ | apply Drawn0.step)⟩
  · rw [if_neg c4] at H
    have c4b0 : decide (a0 < a1) = false := decide_eq_false c4
    clear c4
    by_cases c5 : a0 > a2
    · rw [if_pos c5] at H
      have c5b0 : decide (a2 < a0) = true := decide_eq_true c5
      clear c5
      obtain rfl := Option.some.inj H
      go_enter Try.func41, Try.ntmps41
      go_wp2
      go_ret
      exact ⟨by first | rfl | (simp; done) | (simp [*]; done), by repeat (first | exact Drawn0.refl _ | apply Drawn0.step)⟩
    · rw [if_neg c5] at H
      have c5b0 : decide (a2 < a0) = false := decide_eq_false c5
      clear c5
      obtain rfl := Option.some.inj H
      go_enter Try.func41, Try.ntmps41
      go_wp2
      go_ret
      exact ⟨by first | rfl | (simp; done) | (simp [*]; done), by repeat (first | exact Drawn0.refl _ | apply Drawn0.step)⟩

/-- A state of type 70 at block g of W; what its slices lead to came in by w0. -/
def IsS70 (w0 W : World) (g : Nat) (f0 : Int) (f1 : Int) : Prop := W.heap[g]? = some (.cells #[.int .i64 f0, .func (.func 30) #[] #[]] 70 (0, 0)) ∧ w0.heap.size ≤ g
theorem IsS70.grown {w0 W : World} {g : Nat} {f0 : Int} {f1 : Int} {W1 : World} {row : Option Nat} (h : IsS70 w0 W g f0 f1) (hw : W.grownBy W1 row) (hne : some g ≠ row) : IsS70 w0 W1 g f0 f1 := by
  obtain ⟨hb, hg⟩ := h
  exact ⟨blk_grown hb hw hne, hg⟩
theorem IsS70.own_neN {w0 W : World} {g : Nat} {f0 : Int} {f1 : Int} {α : Type} {d : Kd α} {e : Nat} {base : Nat} {ok : Nat → Prop} {v : Value} {xs : List α} (h : IsS70 w0 W g f0 f1) (ho : Kd.N d e W base ok v xs) (ht : e ≠ 70) : some g ≠ v.ownBlock := by
  obtain ⟨hb, hg⟩ := h
  exact Kd.N_ne ho hb ht
theorem IsS70.fresh {w0 W : World} {g : Nat} {f0 : Int} {f1 : Int} (h : IsS70 w0 W g f0 f1) : ∀ k, W.heap.size ≤ k → k ≠ g := by
  obtain ⟨hb, hg⟩ := h
  exact Kd.freshB hb
theorem IsS70.kept {w0 W : World} {g : Nat} {f0 : Int} {f1 : Int} {W1 : World} {S : Nat → Prop} (h : IsS70 w0 W g f0 f1) (hk : Kept W W1 S) (hne : ¬ S g) : IsS70 w0 W1 g f0 f1 := by
  obtain ⟨hb, hg⟩ := h
  exact ⟨blk_kept hb hk hne, hg⟩
theorem IsS70.below {w0 W : World} {g : Nat} {f0 : Int} {f1 : Int} {W1 : World} (h : IsS70 w0 W g f0 f1) (hw : Below W.heap.size W W1) : IsS70 w0 W1 g f0 f1 := h.grown (grown_of_below hw none) (by simp)
theorem IsS70.alloc {w0 W : World} {g : Nat} {f0 : Int} {f1 : Int} (h : IsS70 w0 W g f0 f1) (o : Obj) : IsS70 w0 (W.alloc o) g f0 f1 := h.below (below_alloc (Below.refl _ _) o)
theorem IsS70.drewN {w0 W : World} {g : Nat} {f0 : Int} {f1 : Int} (h : IsS70 w0 W g f0 f1) (m : Nat) : IsS70 w0 (W.drewN m) g f0 f1 := h
theorem IsS70.drew {w0 W : World} {g : Nat} {f0 : Int} {f1 : Int} (h : IsS70 w0 W g f0 f1) : IsS70 w0 W.drew g f0 f1 := h
theorem IsS70.at_ {w0 W : World} {g : Nat} {f0 : Int} {f1 : Int} {w' : World} {m : Nat} (hq : W.drewN m = w') (h : IsS70 w0 W g f0 f1) : IsS70 w0 w' g f0 f1 := by subst hq; exact IsS70.drewN h m
theorem IsS70.apart {w0 W : World} {g : Nat} {f0 : Int} {f1 : Int} {α : Type} {d : Kd α} {e : Nat} {base : Nat} {ok : Nat → Prop} {v : Value} {xs : List α} (h : IsS70 w0 W g f0 f1) (ho : d.R e W base ok v xs) (ht : ∀ q, q ∈ e :: d.E → q ≠ 70) : d.R e W base (fun k => ok k ∧ k ≠ g) v xs := by
  obtain ⟨hb, hg⟩ := h
  exact Kd.R_types ho hb ht
theorem IsS70.own_ne {w0 W : World} {g : Nat} {f0 : Int} {f1 : Int} {α : Type} {d : Kd α} {e : Nat} {base : Nat} {ok : Nat → Prop} {v : Value} {xs : List α} (h : IsS70 w0 W g f0 f1) (ho : d.R e W base ok v xs) (ht : e ≠ 70) : some g ≠ v.ownBlock := by
  obtain ⟨hb, hg⟩ := h
  exact Kd.R_ne ho hb ht
theorem IsS70.apartQ {w0 W : World} {g : Nat} {f0 : Int} {f1 : Int} {α : Type} {d : Kd α} {e : Nat} {base : Nat} {ok : Nat → Prop} {v : Value} {xs : List α} (h : IsS70 w0 W g f0 f1) (ho : d.Q e W base ok v xs) (ht : ∀ q, q ∈ e :: d.E → q ≠ 70) : d.Q e W base (fun k => ok k ∧ k ≠ g) v xs := by
  obtain ⟨hb, hg⟩ := h
  exact Kd.Q_types ho hb ht
theorem IsS70.own_neQ {w0 W : World} {g : Nat} {f0 : Int} {f1 : Int} {α : Type} {d : Kd α} {e : Nat} {base : Nat} {ok : Nat → Prop} {v : Value} {xs : List α} (h : IsS70 w0 W g f0 f1) (ho : d.Q e W base ok v xs) (ht : e ≠ 70) : some g ≠ v.ownBlock := by
  obtain ⟨hb, hg⟩ := h
  exact Kd.Q_ne ho hb ht
theorem IsS70.apartS {w0 W : World} {g : Nat} {f0 : Int} {f1 : Int} {α : Type} {d : Kd α} {e : Nat} {base : Nat} {ok : Nat → Prop} {v : Value} {xs : List α} (h : IsS70 w0 W g f0 f1) (ho : d.S e W base ok v xs) (ht : ∀ q, q ∈ e :: d.E → q ≠ 70) : d.S e W base (fun k => ok k ∧ k ≠ g) v xs := by
  obtain ⟨hb, hg⟩ := h
  exact Kd.S_types ho hb ht
theorem IsS70.own_neS {w0 W : World} {g : Nat} {f0 : Int} {f1 : Int} {α : Type} {d : Kd α} {e : Nat} {base : Nat} {ok : Nat → Prop} {v : Value} {xs : List α} (h : IsS70 w0 W g f0 f1) (ho : d.S e W base ok v xs) (ht : e ≠ 70) : some g ≠ v.ownBlock := by
  obtain ⟨hb, hg⟩ := h
  exact Kd.S_ne ho hb ht
theorem IsS70.lt {w0 W : World} {g : Nat} {f0 : Int} {f1 : Int} (h : IsS70 w0 W g f0 f1) : g < W.heap.size := by
  obtain ⟨hb, hg⟩ := h
  exact blk_lt hb
theorem IsS70.ge {w0 W : World} {g : Nat} {f0 : Int} {f1 : Int} (h : IsS70 w0 W g f0 f1) : w0.heap.size ≤ g := by
  obtain ⟨hb, hg⟩ := h
  exact hg
theorem IsS70.ne_blk {w0 W : World} {g : Nat} {f0 : Int} {f1 : Int} {a : Nat} {cs : Array Value} {t : TypeId} {fr : Nat × Nat} (h : IsS70 w0 W g f0 f1) (hb2 : W.heap[a]? = some (.cells cs t fr)) (ht : t ≠ 70) : g ≠ a := by
  obtain ⟨hb, hg⟩ := h
  rintro rfl
  rw [hb] at hb2
  injection hb2 with hb2
  injection hb2 with _ ht2
  exact ht ht2.symm
theorem IsS70.far {w0 W : World} {g : Nat} {f0 : Int} {f1 : Int} {p : Addr} (h : IsS70 w0 W g f0 f1) (hne : g ≠ p.block) (u : Value) : IsS70 w0 (W.setCell p u) g f0 f1 := by
  obtain ⟨hb, hg⟩ := h
  exact ⟨blk_far hb hne u, hg⟩
theorem IsS70.farb {w0 W : World} {g : Nat} {f0 : Int} {f1 : Int} {b_ o_ : Nat} {u : Value} (hne : g ≠ b_) (h : IsS70 w0 W g f0 f1) : IsS70 w0 (W.setCell ⟨b_, o_, none⟩ u) g f0 f1 := h.far hne u
theorem cellS70_0 {W : World} {g : Nat} {f0 : Int} (h : W.heap[g]? = some (.cells #[.int .i64 f0, .func (.func 30) #[] #[]] 70 (0, 0))) : W.cell? ⟨g, 0, none⟩ = some (.int .i64 f0) := (blk_cell h 0).trans rfl
theorem IsS70.set_0 {w0 W : World} {g : Nat} {f0 : Int} {f1 : Int} (h : IsS70 w0 W g f0 f1) (x : Int) : IsS70 w0 (W.setCell ⟨g, 0, none⟩ (.int .i64 x)) g x f1 := by
  obtain ⟨hb, hg⟩ := h
  exact ⟨by simpa using blk_set hb 0 (.int .i64 x), hg⟩
theorem cellS70_1 {W : World} {g : Nat} {f0 : Int} (h : W.heap[g]? = some (.cells #[.int .i64 f0, .func (.func 30) #[] #[]] 70 (0, 0))) : W.cell? ⟨g, 1, none⟩ = some (.func (.func 30) #[] #[]) := (blk_cell h 1).trans rfl
theorem IsS70.set_1 {w0 W : World} {g : Nat} {f0 : Int} {f1 : Int} (h : IsS70 w0 W g f0 f1) (x : Int) : IsS70 w0 (W.setCell ⟨g, 1, none⟩ (.func (.func 30) #[] #[])) g f0 x := by
  obtain ⟨hb, hg⟩ := h
  exact ⟨by simpa using blk_set hb 1 (.func (.func 30) #[] #[]), hg⟩
theorem IsS70.new (w0 W : World) (f0 : Int) (f1 : Int) (hB : Below w0.heap.size w0 W) : IsS70 w0 (W.alloc (.cells #[.int .i64 f0, .func (.func 30) #[] #[]] 70)) W.heap.size f0 f1 := ⟨by simpa using heap_alloc_new W _, hB.size⟩

/-! ### guard_Backup_against: function 30 -/
def guard_Backup_against.f (k : Nat) (s0_0 : Int) (s0_1 : Int) (a1 : Int) (a2 : Int) : Option (Int × Int × Int) := (fix_Sub.f k a1 a2).bind fun t322 => ((fix_Clamp.f t322 (-64) 64).bind fun t323 => (some (t323, s0_0, s0_1)))
theorem guard_Backup_against.mono : ∀ a0 a1 a2 a3 k, LeO (guard_Backup_against.f k a0 a1 a2 a3) (guard_Backup_against.f (k + 1) a0 a1 a2 a3) := by
  intro a0 a1 a2 a3 k
  unfold guard_Backup_against.f
  repeat' first
      | (with_reducible exact fix_Sub.mono _ _ _)
      | (with_reducible exact LeO.refl _)
      | (with_reducible exact LeO.none _)
      | (with_reducible refine LeO.ite ?_ ?_)
      | (with_reducible refine LeO.bind ?_ (fun _ => ?_))
      | exact fix_Sub.mono _ _ _
      | exact LeO.none _
      | refine LeO.ite ?_ ?_
      | refine LeO.bind ?_ (fun _ => ?_)
theorem guard_Backup_against.same {k : Nat} {s0_0 : Int} {s0_1 : Int} {a1 : Int} {a2 : Int} {q0_ q1_ q2_} (h : guard_Backup_against.f k s0_0 s0_1 a1 a2 = some (q0_, q1_, q2_)) : s0_0 = q1_ ∧ s0_1 = q2_ := by
  unfold guard_Backup_against.f at h
  repeat' first
    | (cases h; done)
    | (replace h := Option.bind_eq_some_iff.mp h; obtain ⟨_, _, h⟩ := h)
    | split at h
  all_goals (simp only [Option.some.injEq, Prod.mk.injEq] at h; exact h.2)
set_option maxHeartbeats 8000000 in
set_option maxRecDepth 100000 in
theorem guard_Backup_against.calls (k : Nat) (g : Nat) (s0_0 : Int) (s0_1 : Int) (a1 : Int) (a2 : Int) (r1 : Int) (r2 : Int) (r3 : Int) (w0 w : World) (hI : IsS70 w0 w g s0_0 s0_1) (hB : Below w0.heap.size w0 w) (h : guard_Backup_against.f k s0_0 s0_1 a1 a2 = some (r1, r2, r3)) :
    Calls Try.prog 30 #[.pointer (some ⟨g, 0, none⟩), .int .i64 a1, .int .i64 a2] w fun e w' => e = .returned (.int .i64 r1) ∧ IsS70 w0 w' g r2 r3 ∧ Below w0.heap.size w0 w' ∧ KeepBut w w' g none := by
  have HI0 := Aside0.mk hI
  have HK := Aside0.mk (KeepBut.refl w g none)
  have HL := Aside0.mk hB.size
  clear hI
  have HW0 := Aside0.mk hB.size
  have HB := Aside0.mk hB
  clear hB
  have H : ((fix_Sub.f k a1 a2).bind fun t322 => ((fix_Clamp.f t322 (-64) 64).bind fun t323 => (some (t323, s0_0, s0_1)))) = some (r1, r2, r3) := h
  clear h
  replace H := Option.bind_eq_some_iff.mp H
  obtain ⟨t322, A40, H⟩ := H
  replace H : ((fix_Clamp.f t322 (-64) 64).bind fun t323 => (some (t323, s0_0, s0_1))) = some (r1, r2, r3) := H
  have A4 := Aside0.mk A40
  clear A40
  replace H := Option.bind_eq_some_iff.mp H
  obtain ⟨t323, A50, H⟩ := H
  replace H : (some (t323, s0_0, s0_1)) = some (r1, r2, r3) := H
  have A5 := Aside0.mk A50
  clear A50
  simp only [Option.some.injEq, Prod.mk.injEq] at H
  obtain ⟨rfl, rfl, rfl⟩ := H
  go_enter Try.func30, Try.ntmps30
  go_wp2_with (first | ((with_reducible refine gate_callee (f := 38) rfl ?_); refine goesL_ (some 9) rfl rfl Try.func38 (by kernel_rfl) rfl #[.int .i64 a1, .int .i64 a2] rfl (by (try simp only [List.map_toArray, List.map_cons, List.map_nil]); first | done | rfl | (simp only [List.length_drop, List.length_take]; rfl)) ?_; (with_reducible refine (fix_Sub.calls k a1 a2 t322 _ A4.out).mono ?_); rintro e w' ⟨rfl, ⟨nd, rfl⟩⟩; refine ⟨_, rfl, ?_⟩) | ((with_reducible refine gate_callee (f := 41) rfl ?_); refine goesL_ (some 10) rfl rfl Try.func41 (by kernel_rfl) rfl #[.int .i64 t322, .int .i64 (-64), .int .i64 64] rfl (by (try simp only [List.map_toArray, List.map_cons, List.map_nil]); first | done | rfl | (simp only [List.length_drop, List.length_take]; rfl)) ?_; (with_reducible refine (fix_Clamp.calls t322 (-64) 64 t323 _ A5.out).mono ?_); rintro e w' ⟨rfl, ⟨nd, rfl⟩⟩; refine ⟨_, rfl, ?_⟩))
  go_ret
  exact ⟨by first | rfl | (simp [errW_none, errW_some] <;> rfl) | (simp [*, errW_none, errW_some] <;> rfl), by repeat (first | (with_reducible first | exact HI0.out | apply IsS70.alloc | apply IsS70.drewN | apply IsS70.drew | apply IsS70.set_0 | apply IsS70.set_1) | exact HI0.out), by repeat (first | (with_reducible first | exact HB.out | apply below_alloc | apply pw_below_drewN | apply below_drew1 | refine below_set ?_ (IsS70.ge HI0.out)) | exact HB.out), by repeat (first | (with_reducible first | exact HK.out | apply KeepBut.set_ | apply keep_drewN | apply keep_drew | apply keep_alloc) | exact HK.out)⟩

/-! ### guard_NewBackup: function 14 -/
def guard_NewBackup.f  : Option (Int × Int) := some (0, 0)
set_option maxHeartbeats 8000000 in
set_option maxRecDepth 100000 in
theorem guard_NewBackup.calls  (r1 : Int) (r2 : Int) (w0 w : World) (hB : Below w0.heap.size w0 w) (h : guard_NewBackup.f  = some (r1, r2)) :
    Calls Try.prog 14 #[] w fun e w' => ∃ g_ : Nat, e = .returned (.pointer (some ⟨g_, 0, none⟩)) ∧ IsS70 w0 w' g_ r1 r2 ∧ Below w0.heap.size w0 w' ∧ Below w.heap.size w w' := by
  have hu70 := Try.underlying70
  have HBW := Aside0.mk (Below.refl w.heap.size w)
  have HW0 := Aside0.mk hB.size
  have HB := Aside0.mk hB
  clear hB
  have H : (some (0, 0)) = some (r1, r2) := h
  clear h
  simp only [Option.some.injEq, Prod.mk.injEq] at H
  obtain ⟨rfl, rfl⟩ := H
  go_enter Try.func14, Try.ntmps14
  go_wp2_with (first | ((with_reducible refine gate_dst (N := 2) rfl ?_); refine box_event ?hg (N := 2) ?hd (cs := #[.int .i64 0, .func (.func 30) #[] #[]]) (t := 70) ?hr ?_; (case hd => rfl); (case hg => rfl); (case hr => first | (go_simp; done) | (go_simp; rfl)); intro gb324 hg w1 hbox hb; have n0_ := Aside0.mk (below_step HBW.out hb); have n1_ := Aside0.mk (below_step (by repeat (first | (with_reducible first | exact HB.out | apply below_alloc | apply pw_below_drewN | apply below_drew1) | exact HB.out)) hb); have n2_ := Aside0.mk (hbox); have n3_ := Aside0.mk ((by rw [hg]; exact (below_size (by repeat (first | (with_reducible first | exact HBW.out | apply below_alloc | apply pw_below_drewN | apply below_drew1) | exact HBW.out))) : w.heap.size ≤ gb324)); have n4_ := Aside0.mk ((Nat.le_trans HW0.out (by rw [hg]; exact (below_size (by repeat (first | (with_reducible first | exact HBW.out | apply below_alloc | apply pw_below_drewN | apply below_drew1) | exact HBW.out))) : w.heap.size ≤ gb324) : w0.heap.size ≤ gb324)); clear HBW; clear HB; have HBW := n0_; have HB := n1_; have BK324 := n2_; have GW324 := n3_; have GE324 := n4_; clear n0_ n1_ n2_ n3_ n4_; clear hb hbox hg))
  go_ret
  exact ⟨_, rfl, (show IsS70 w0 _ gb324 0 0 from ⟨by (with_reducible repeat (first | refine blk_drewN ?_ _ | refine blk_drew ?_ | refine blk_alloc ?_ _)); exact BK324.out, GE324.out⟩), by repeat (first | (with_reducible first | exact HB.out | apply below_alloc | apply pw_below_drewN | apply below_drew1 | refine below_set ?_ GE324.out) | exact HB.out), by repeat (first | (with_reducible first | exact HBW.out | apply below_alloc | apply pw_below_drewN | apply below_drew1 | refine below_set ?_ GW324.out) | exact HBW.out)⟩

/-! ### guard_Backup_Step: function 16, by hand -/
def guard_Backup_Step.f (k : Nat) (s0_0 : Int) (s0_1 : Int) (a1 : Bool) (a2_0 : Int) (a2_1 : Int) (a2_2 : Int) (a3 : Int) : Option (Int × Int × Int × Int × Int) := (some (if a1 = true then mx (wrap64 (s0_0 - 32)) (wrap64 (-(mx a3 0))) else 0)).bind fun ref => (fix_Sub.f k 0 a2_0).bind fun t1 => (fix_Clamp.f t1 (-64) 64).bind fun r1 => (fix_Sub.f k 0 a2_1).bind fun t2 => (fix_Clamp.f t2 (-64) 64).bind fun r2 => (fix_Sub.f k ref a2_2).bind fun t3 => (fix_Clamp.f t3 (-64) 64).bind fun r3 => some (r1, r2, r3, ref, s0_1)
theorem guard_Backup_Step.mono : ∀ a0 a1 a2 a3 a4 a5 a6 k, LeO (guard_Backup_Step.f k a0 a1 a2 a3 a4 a5 a6) (guard_Backup_Step.f (k + 1) a0 a1 a2 a3 a4 a5 a6) := by
  intro a0 a1 a2 a3 a4 a5 a6 k
  unfold guard_Backup_Step.f
  repeat' first
      | (with_reducible exact fix_Sub.mono _ _ _)
      | (with_reducible exact LeO.refl _)
      | (with_reducible refine LeO.bind ?_ (fun _ => ?_))
theorem guard_Backup_Step.against_q (k : Nat) (p : Value) (a1 a2 t r : Int) (w : World) (h1 : fix_Sub.f k a1 a2 = some t) (h2 : fix_Clamp.f t (-64) 64 = some r) :
    Calls Try.prog 30 #[p, .int .i64 a1, .int .i64 a2] w fun e w' => e = .returned (.int .i64 r) ∧ ∃ n, w' = w.drewN n := by
  have A4 := Aside0.mk h1
  have A5 := Aside0.mk h2
  clear h1 h2
  go_enter Try.func30, Try.ntmps30
  go_wp2_with (first | ((with_reducible refine gate_callee (f := 38) rfl ?_); refine goesL_ (some 9) rfl rfl Try.func38 (by kernel_rfl) rfl #[.int .i64 a1, .int .i64 a2] rfl (by (try simp only [List.map_toArray, List.map_cons, List.map_nil]); first | done | rfl | (simp only [List.length_drop, List.length_take]; rfl)) ?_; (with_reducible refine (fix_Sub.calls k a1 a2 t _ A4.out).mono ?_); rintro e w' ⟨rfl, ⟨nd, rfl⟩⟩; refine ⟨_, rfl, ?_⟩) | ((with_reducible refine gate_callee (f := 41) rfl ?_); refine goesL_ (some 10) rfl rfl Try.func41 (by kernel_rfl) rfl #[.int .i64 t, .int .i64 (-64), .int .i64 64] rfl (by (try simp only [List.map_toArray, List.map_cons, List.map_nil]); first | done | rfl | (simp only [List.length_drop, List.length_take]; rfl)) ?_; (with_reducible refine (fix_Clamp.calls t (-64) 64 r _ A5.out).mono ?_); rintro e w' ⟨rfl, ⟨nd, rfl⟩⟩; refine ⟨_, rfl, ?_⟩))
  go_ret
  exact ⟨rfl, _, rfl⟩
set_option maxHeartbeats 8000000 in
set_option maxRecDepth 100000 in
theorem guard_Backup_Step.calls (k : Nat) (g : Nat) (s0_0 : Int) (s0_1 : Int) (a1 : Bool) (a2_0 a2_1 a2_2 : Int) (a3 : Int) (r1 r2 r3 r4 r5 : Int) (w0 w : World) (hI : IsS70 w0 w g s0_0 s0_1) (hB : Below w0.heap.size w0 w) (h : guard_Backup_Step.f k s0_0 s0_1 a1 a2_0 a2_1 a2_2 a3 = some (r1, r2, r3, r4, r5)) :
    Calls Try.prog 16 #[.pointer (some ⟨g, 0, none⟩), .bool a1, .agg #[.int .i64 a2_0, .int .i64 a2_1, .int .i64 a2_2], .int .i64 a3] w fun e w' => e = .returned (.agg #[.int .i64 r1, .int .i64 r2, .int .i64 r3]) ∧ IsS70 w0 w' g r4 r5 ∧ Below w0.heap.size w0 w' ∧ KeepBut w w' g none := by
  unfold guard_Backup_Step.f at h
  replace h := Option.bind_eq_some_iff.mp h
  obtain ⟨ref, hr, h⟩ := h
  replace h := Option.bind_eq_some_iff.mp h
  obtain ⟨t1, e1, h⟩ := h
  replace h := Option.bind_eq_some_iff.mp h
  obtain ⟨q1_, c1, h⟩ := h
  replace h := Option.bind_eq_some_iff.mp h
  obtain ⟨t2, e2, h⟩ := h
  replace h := Option.bind_eq_some_iff.mp h
  obtain ⟨q2_, c2, h⟩ := h
  replace h := Option.bind_eq_some_iff.mp h
  obtain ⟨t3, e3, h⟩ := h
  replace h := Option.bind_eq_some_iff.mp h
  obtain ⟨q3_, c3, h⟩ := h
  simp only [Option.some.injEq, Prod.mk.injEq] at h
  obtain ⟨rfl, rfl, rfl, rfl, rfl⟩ := h
  replace hr := Option.some.inj hr
  have E1 := Aside0.mk e1
  have E2 := Aside0.mk e2
  have C1 := Aside0.mk c1
  have C2 := Aside0.mk c2
  have C3 := Aside0.mk c3
  clear e1 e2 c1 c2 c3
  have hb : w.heap[g]? = some (.cells #[.int .i64 s0_0, .func (.func 30) #[] #[]] 70 (0, 0)) := hI.1
  have hlt : g < w.heap.size := IsS70.lt hI
  have q0 : w.cell? ⟨g, 0, none⟩ = some (.int .i64 s0_0) := (blk_cell hb 0).trans rfl
  have q1 : w.cell? ⟨g, 1, none⟩ = some (.func (.func 30) #[] #[]) := (blk_cell hb 1).trans rfl
  have z0 : w.frozen? ⟨g, 0, none⟩ = false := blk_frozen hb 0
  have hu39 := Try.underlying39
  have hu70 := Try.underlying70
  have hfn : ∀ W, (binOp .eql 68 (.func (.func 30) #[] #[]) .nilFunc).run Try.prog W = .ok (.bool false) W := fun W => by rfl
  have eg : w.heap.size ≠ g := by omega
  have eg1 : w.heap.size + 1 ≠ g := by omega
  cases a1 with
  | false =>
    rw [if_neg (by decide)] at hr
    subst hr
    have E3 := Aside0.mk e3
    clear e3
    go_enter Try.func16, Try.ntmps16
    go_wp2
    obtain ⟨W, hW⟩ : ∃ W, W = ((w.setCell ⟨g, 0, none⟩ (.int .i64 0)).alloc (.cells #[.int .i64 a2_0, .int .i64 a2_1, .int .i64 a2_2] 39)).alloc (.cells #[.int .i64 0, .int .i64 0, .int .i64 0] 39) := ⟨_, rfl⟩
    rw [← hW]
    have hs : (w.setCell ⟨g, 0, none⟩ (.int .i64 0)).heap.size = w.heap.size := by simp [World.setCell]
    have B0 : W.heap[g]? = some (.cells #[.int .i64 0, .func (.func 30) #[] #[]] 70 (0, 0)) := by rw [hW]; exact blk_alloc (blk_alloc (blk_put hb 0 _ rfl) _) _
    have B1 : W.heap[w.heap.size]? = some (.cells #[.int .i64 a2_0, .int .i64 a2_1, .int .i64 a2_2] 39 (0, 0)) := by rw [hW]; refine blk_alloc ?_ _; rw [← hs]; exact blk_new _ _
    have B2 : W.heap[w.heap.size + 1]? = some (.cells #[.int .i64 0, .int .i64 0, .int .i64 0] 39 (0, 0)) := by
      rw [hW]
      have h := blk_new ((w.setCell ⟨g, 0, none⟩ (.int .i64 0)).alloc (.cells #[.int .i64 a2_0, .int .i64 a2_1, .int .i64 a2_2] 39)) (.cells #[.int .i64 0, .int .i64 0, .int .i64 0] 39)
      rw [show ((w.setCell ⟨g, 0, none⟩ (.int .i64 0)).alloc (.cells #[.int .i64 a2_0, .int .i64 a2_1, .int .i64 a2_2] 39)).heap.size = w.heap.size + 1 by rw [World.size_alloc, hs]] at h
      exact h
    have HI := Aside0.mk (show IsS70 w0 W g 0 s0_1 from by rw [hW]; exact ((hI.set_0 0).alloc _).alloc _)
    have HB := Aside0.mk (show Below w0.heap.size w0 W from by rw [hW]; exact below_alloc (below_alloc (below_set hB (IsS70.ge hI)) _) _)
    have HK := Aside0.mk (show KeepBut w W g none from by rw [hW]; exact keep_alloc (keep_alloc ((KeepBut.refl w g none).set_ 0 _) _) _)
    have HG := Aside0.mk (show w0.heap.size ≤ w.heap.size + 1 from Nat.le_succ_of_le hB.size)
    have HN := Aside0.mk (show w.heap.size ≤ w.heap.size + 1 from Nat.le_succ _)
    have Q0 : W.cell? ⟨g, 0, none⟩ = some (.int .i64 0) := (blk_cell B0 0).trans rfl
    have Q1 : W.cell? ⟨g, 1, none⟩ = some (.func (.func 30) #[] #[]) := (blk_cell B0 1).trans rfl
    have X0 : W.cell? ⟨w.heap.size, 0, none⟩ = some (.int .i64 a2_0) := (blk_cell B1 0).trans rfl
    have X1 : W.cell? ⟨w.heap.size, 1, none⟩ = some (.int .i64 a2_1) := (blk_cell B1 1).trans rfl
    have X2 : W.cell? ⟨w.heap.size, 2, none⟩ = some (.int .i64 a2_2) := (blk_cell B1 2).trans rfl
    have Y0 : W.cell? ⟨w.heap.size + 1, 0, none⟩ = some (.int .i64 0) := (blk_cell B2 0).trans rfl
    have Y1 : W.cell? ⟨w.heap.size + 1, 1, none⟩ = some (.int .i64 0) := (blk_cell B2 1).trans rfl
    have Y2 : W.cell? ⟨w.heap.size + 1, 2, none⟩ = some (.int .i64 0) := (blk_cell B2 2).trans rfl
    have F0 : W.frozen? ⟨w.heap.size + 1, 0, none⟩ = false := blk_frozen B2 0
    have F1 : W.frozen? ⟨w.heap.size + 1, 1, none⟩ = false := blk_frozen B2 1
    have F2 : W.frozen? ⟨w.heap.size + 1, 2, none⟩ = false := blk_frozen B2 2
    have HB2 := Aside0.mk B2
    clear q0 q1 z0 hb hI hB B0 B1 B2 hs
    clear hW
    obtain ⟨n, hn⟩ : ∃ n, w.heap.size = n := ⟨_, rfl⟩
    rw [hn] at X0 X1 X2 Y0 Y1 Y2 F0 F1 F2 HB2 eg eg1 HG HN ⊢
    have HNW := Aside0.mk hn
    clear hn
    go_region_held3 (fun w' => w'.cell? ⟨g, 0, none⟩ = some (.int .i64 0) ∧ w'.cell? ⟨g, 1, none⟩ = some (.func (.func 30) #[] #[]) ∧ w'.cell? ⟨n, 0, none⟩ = some (.int .i64 a2_0) ∧ w'.cell? ⟨n, 1, none⟩ = some (.int .i64 a2_1) ∧ w'.cell? ⟨n, 2, none⟩ = some (.int .i64 a2_2)) (go_keep)
      (first
        | (go_at_call 30; (with_reducible refine (guard_Backup_Step.against_q k _ _ _ _ _ _ E1.out C1.out).mono ?_); rintro e w' ⟨rfl, nd, rfl⟩)
        | (go_at_call 30; (with_reducible refine (guard_Backup_Step.against_q k _ _ _ _ _ _ E2.out C2.out).mono ?_); rintro e w' ⟨rfl, nd, rfl⟩)
        | (go_at_call 30; (with_reducible refine (guard_Backup_Step.against_q k _ _ _ _ _ _ E3.out C3.out).mono ?_); rintro e w' ⟨rfl, nd, rfl⟩))
    all_goals go_wp2
    all_goals
      refine bodyPost_ret (results_cell_row rfl _ _ (n + 1) 39 #[.int .i64 q1_, .int .i64 q2_, .int .i64 q3_] (0, 0) _ rfl (blk_put (blk_put (blk_put (blk_drewN HB2.out _) 0 _ rfl) 1 _ rfl) 2 _ rfl) Try.underlying39 rfl (by kernel_rfl)) rfl ?_
      refine ⟨rfl, (((HI.out.drewN _).far ?_ _).far ?_ _).far ?_ _, below_set (below_set (below_set (pw_below_drewN HB.out _) HG.out) HG.out) HG.out, keep_far (keep_far (keep_far (keep_drewN HK.out _) ?_ _) ?_ _) ?_ _⟩
      all_goals (have hn := HNW.out; (try dsimp only); omega)
  | true =>
    rw [if_pos rfl] at hr
    have E3 := Aside0.mk e3
    clear e3
    obtain ⟨m1, hm1⟩ : ∃ m, mx a3 0 = m := ⟨_, rfl⟩
    rw [hm1] at hr
    have h1_ : (if a3 < 0 then (0 : Int) else a3) = m1 := hm1
    have h2_ : (if wrap64 (s0_0 - 32) < wrap64 (-m1) then wrap64 (-m1) else wrap64 (s0_0 - 32)) = ref := hr
    clear hm1 hr
    go_enter Try.func16, Try.ntmps16
    go_wp2
    obtain ⟨W, hW⟩ : ∃ W, W = ((w.setCell ⟨g, 0, none⟩ (.int .i64 ref)).alloc (.cells #[.int .i64 a2_0, .int .i64 a2_1, .int .i64 a2_2] 39)).alloc (.cells #[.int .i64 0, .int .i64 0, .int .i64 0] 39) := ⟨_, rfl⟩
    rw [← hW]
    have hs : (w.setCell ⟨g, 0, none⟩ (.int .i64 ref)).heap.size = w.heap.size := by simp [World.setCell]
    have B0 : W.heap[g]? = some (.cells #[.int .i64 ref, .func (.func 30) #[] #[]] 70 (0, 0)) := by rw [hW]; exact blk_alloc (blk_alloc (blk_put hb 0 _ rfl) _) _
    have B1 : W.heap[w.heap.size]? = some (.cells #[.int .i64 a2_0, .int .i64 a2_1, .int .i64 a2_2] 39 (0, 0)) := by rw [hW]; refine blk_alloc ?_ _; rw [← hs]; exact blk_new _ _
    have B2 : W.heap[w.heap.size + 1]? = some (.cells #[.int .i64 0, .int .i64 0, .int .i64 0] 39 (0, 0)) := by
      rw [hW]
      have h := blk_new ((w.setCell ⟨g, 0, none⟩ (.int .i64 ref)).alloc (.cells #[.int .i64 a2_0, .int .i64 a2_1, .int .i64 a2_2] 39)) (.cells #[.int .i64 0, .int .i64 0, .int .i64 0] 39)
      rw [show ((w.setCell ⟨g, 0, none⟩ (.int .i64 ref)).alloc (.cells #[.int .i64 a2_0, .int .i64 a2_1, .int .i64 a2_2] 39)).heap.size = w.heap.size + 1 by rw [World.size_alloc, hs]] at h
      exact h
    have HI := Aside0.mk (show IsS70 w0 W g ref s0_1 from by rw [hW]; exact ((hI.set_0 ref).alloc _).alloc _)
    have HB := Aside0.mk (show Below w0.heap.size w0 W from by rw [hW]; exact below_alloc (below_alloc (below_set hB (IsS70.ge hI)) _) _)
    have HK := Aside0.mk (show KeepBut w W g none from by rw [hW]; exact keep_alloc (keep_alloc ((KeepBut.refl w g none).set_ 0 _) _) _)
    have HG := Aside0.mk (show w0.heap.size ≤ w.heap.size + 1 from Nat.le_succ_of_le hB.size)
    have HN := Aside0.mk (show w.heap.size ≤ w.heap.size + 1 from Nat.le_succ _)
    have Q0 : W.cell? ⟨g, 0, none⟩ = some (.int .i64 ref) := (blk_cell B0 0).trans rfl
    have Q1 : W.cell? ⟨g, 1, none⟩ = some (.func (.func 30) #[] #[]) := (blk_cell B0 1).trans rfl
    have X0 : W.cell? ⟨w.heap.size, 0, none⟩ = some (.int .i64 a2_0) := (blk_cell B1 0).trans rfl
    have X1 : W.cell? ⟨w.heap.size, 1, none⟩ = some (.int .i64 a2_1) := (blk_cell B1 1).trans rfl
    have X2 : W.cell? ⟨w.heap.size, 2, none⟩ = some (.int .i64 a2_2) := (blk_cell B1 2).trans rfl
    have Y0 : W.cell? ⟨w.heap.size + 1, 0, none⟩ = some (.int .i64 0) := (blk_cell B2 0).trans rfl
    have Y1 : W.cell? ⟨w.heap.size + 1, 1, none⟩ = some (.int .i64 0) := (blk_cell B2 1).trans rfl
    have Y2 : W.cell? ⟨w.heap.size + 1, 2, none⟩ = some (.int .i64 0) := (blk_cell B2 2).trans rfl
    have F0 : W.frozen? ⟨w.heap.size + 1, 0, none⟩ = false := blk_frozen B2 0
    have F1 : W.frozen? ⟨w.heap.size + 1, 1, none⟩ = false := blk_frozen B2 1
    have F2 : W.frozen? ⟨w.heap.size + 1, 2, none⟩ = false := blk_frozen B2 2
    have HB2 := Aside0.mk B2
    clear q0 q1 z0 hb hI hB B0 B1 B2 hs
    clear hW
    obtain ⟨n, hn⟩ : ∃ n, w.heap.size = n := ⟨_, rfl⟩
    rw [hn] at X0 X1 X2 Y0 Y1 Y2 F0 F1 F2 HB2 eg eg1 HG HN ⊢
    have HNW := Aside0.mk hn
    clear hn
    go_region_held3 (fun w' => w'.cell? ⟨g, 0, none⟩ = some (.int .i64 ref) ∧ w'.cell? ⟨g, 1, none⟩ = some (.func (.func 30) #[] #[]) ∧ w'.cell? ⟨n, 0, none⟩ = some (.int .i64 a2_0) ∧ w'.cell? ⟨n, 1, none⟩ = some (.int .i64 a2_1) ∧ w'.cell? ⟨n, 2, none⟩ = some (.int .i64 a2_2)) (go_keep)
      (first
        | (go_at_call 30; (with_reducible refine (guard_Backup_Step.against_q k _ _ _ _ _ _ E1.out C1.out).mono ?_); rintro e w' ⟨rfl, nd, rfl⟩)
        | (go_at_call 30; (with_reducible refine (guard_Backup_Step.against_q k _ _ _ _ _ _ E2.out C2.out).mono ?_); rintro e w' ⟨rfl, nd, rfl⟩)
        | (go_at_call 30; (with_reducible refine (guard_Backup_Step.against_q k _ _ _ _ _ _ E3.out C3.out).mono ?_); rintro e w' ⟨rfl, nd, rfl⟩))
    all_goals go_wp2
    all_goals
      refine bodyPost_ret (results_cell_row rfl _ _ (n + 1) 39 #[.int .i64 q1_, .int .i64 q2_, .int .i64 q3_] (0, 0) _ rfl (blk_put (blk_put (blk_put (blk_drewN HB2.out _) 0 _ rfl) 1 _ rfl) 2 _ rfl) Try.underlying39 rfl (by kernel_rfl)) rfl ?_
      refine ⟨rfl, (((HI.out.drewN _).far ?_ _).far ?_ _).far ?_ _, below_set (below_set (below_set (pw_below_drewN HB.out _) HG.out) HG.out) HG.out, keep_far (keep_far (keep_far (keep_drewN HK.out _) ?_ _) ?_ _) ?_ _⟩
      all_goals (have hn := HNW.out; (try dsimp only); omega)


/-! ### guard_Slow: function 19 -/
def guard_Slow.l0 : Nat → Int → Int → Int → Int → Option (Bool)
  | 0, _, _, _, _ => none
  | k + 1, x6, x50006000, x50006001, x50006002 => if x6 < 3 then (if x6 = 0 then (if x50006000 < (-64) then (some false) else (if x50006000 > 64 then (some false) else (guard_Slow.l0 k 1 x50006000 x50006001 x50006002))) else (if x6 = 1 then (if x50006001 < (-64) then (some false) else (if x50006001 > 64 then (some false) else (guard_Slow.l0 k 2 x50006000 x50006001 x50006002))) else (if x6 = 2 then (if x50006002 < (-64) then (some false) else (if x50006002 > 64 then (some false) else (guard_Slow.l0 k 3 x50006000 x50006001 x50006002))) else (none)))) else (some true)
def guard_Slow.f (k : Nat) (a0_0 : Int) (a0_1 : Int) (a0_2 : Int) : Option (Bool) := guard_Slow.l0 k 0 a0_0 a0_1 a0_2
theorem guard_Slow.mono_l : ∀ k, (∀ y0 y1 y2 y3, LeO (guard_Slow.l0 k y0 y1 y2 y3) (guard_Slow.l0 (k + 1) y0 y1 y2 y3))
  | 0 => fun _ _ _ _ r h => by simp [guard_Slow.l0] at h
  | k + 1 => by
    have ih0 := guard_Slow.mono_l k
    · intro y0 y1 y2 y3
      unfold guard_Slow.l0
      repeat' first
      | (with_reducible exact ih0 _ _ _ _)
      | (with_reducible exact LeO.refl _)
      | (with_reducible exact LeO.none _)
      | (with_reducible refine LeO.ite ?_ ?_)
      | (with_reducible refine LeO.bind ?_ (fun _ => ?_))
      | exact ih0 _ _ _ _
      | exact LeO.none _
      | refine LeO.ite ?_ ?_
      | refine LeO.bind ?_ (fun _ => ?_)
theorem guard_Slow.mono : ∀ a0 a1 a2 k, LeO (guard_Slow.f k a0 a1 a2) (guard_Slow.f (k + 1) a0 a1 a2) := by
  intro a0 a1 a2 k
  have ih0 := guard_Slow.mono_l k
  unfold guard_Slow.f
  repeat' first
      | (with_reducible exact ih0 _ _ _ _)
      | (with_reducible exact LeO.refl _)
      | (with_reducible exact LeO.none _)
      | (with_reducible refine LeO.ite ?_ ?_)
      | (with_reducible refine LeO.bind ?_ (fun _ => ?_))
      | exact ih0 _ _ _ _
      | exact LeO.none _
      | refine LeO.ite ?_ ?_
      | refine LeO.bind ?_ (fun _ => ?_)
set_option maxHeartbeats 8000000 in
set_option maxRecDepth 100000 in
theorem guard_Slow.calls (k : Nat) (a0_0 : Int) (a0_1 : Int) (a0_2 : Int) (r : Bool) (w : World) (h : guard_Slow.f k a0_0 a0_1 a0_2 = some r) :
    Calls Try.prog 19 #[.agg #[.int .i64 a0_0, .int .i64 a0_1, .int .i64 a0_2]] w fun e w' => e = .returned (.bool r) ∧ Below w.heap.size w w' := by
  have hu39 := Try.underlying39
  have hix39_0 : ∀ (x0_ x1_ x2_ : Value) (W : World), (Instr.index 39 (.agg #[x0_, x1_, x2_]) (.int .i64 0)).run Try.prog W = .ok (x0_) W := fun x0_ x1_ x2_ W => rfl
  have hix39_1 : ∀ (x0_ x1_ x2_ : Value) (W : World), (Instr.index 39 (.agg #[x0_, x1_, x2_]) (.int .i64 1)).run Try.prog W = .ok (x1_) W := fun x0_ x1_ x2_ W => rfl
  have hix39_2 : ∀ (x0_ x1_ x2_ : Value) (W : World), (Instr.index 39 (.agg #[x0_, x1_, x2_]) (.int .i64 2)).run Try.prog W = .ok (x2_) W := fun x0_ x1_ x2_ W => rfl
  have HB := Aside0.mk (Below.refl w.heap.size w)
  have H : (guard_Slow.l0 k 0 a0_0 a0_1 a0_2) = some r := h
  clear h
  have H' := Aside0.mk H
  clear H
  go_enter Try.func19, Try.ntmps19
  go_wp2_with (first | ((with_reducible refine gate_dst (N := 1) rfl ?_); refine box_event ?hg (N := 1) ?hd (cs := #[.int .i64 a0_0, .int .i64 a0_1, .int .i64 a0_2]) (t := 39) ?hr ?_; (case hd => rfl); (case hg => rfl); (case hr => first | (go_simp; done) | (go_simp; rfl)); intro gb325 hg w2 hbox hb; have n0_ := Aside0.mk (below_step (by repeat (first | (with_reducible first | exact HB.out | apply below_alloc | apply pw_below_drewN | apply below_drew1) | exact HB.out)) hb); have n1_ := Aside0.mk (hbox); have n2_ := Aside0.mk ((by rw [hg]; exact (below_size (by repeat (first | (with_reducible first | exact HB.out | apply below_alloc | apply pw_below_drewN | apply below_drew1) | exact HB.out))) : w.heap.size ≤ gb325)); have n3_ := Aside0.mk ((by rw [hg]; exact (below_size (by repeat (first | (with_reducible first | exact HB.out | apply below_alloc | apply pw_below_drewN | apply below_drew1) | exact HB.out))) : w.heap.size ≤ gb325)); clear HB; have HB := n0_; have BK325 := n1_; have GW325 := n2_; have GE325 := n3_; clear n0_ n1_ n2_ n3_; clear hb hbox hg; have hcz3_0 := blk_cells3 (w := w2) (g := gb325) BK325.out; have hfz3_0 := blk_frozen BK325.out))
  go_loopg [6] k (fun kq v6 w' => ∃ (x6_1 : Int), v6 = .int .i64 x6_1 ∧ Aside0 (guard_Slow.l0 kq x6_1 a0_0 a0_1 a0_2 = some r) ∧ Aside0 (kq ≤ k) ∧ Aside0 (w'.heap[gb325]? = some (.cells #[.int .i64 a0_0, .int .i64 a0_1, .int .i64 a0_2] 39 (0, 0))) ∧ Aside0 (Below w.heap.size w w'))
  case atStart => exact ⟨(0), (by first | rfl | (simp; done) | (simp [*]; done)), H', ⟨Nat.le_refl _⟩, ⟨by (with_reducible repeat (first | refine blk_drewN ?_ _ | refine blk_drew ?_ | refine blk_alloc ?_ _)); exact BK325.out⟩, ⟨by repeat (first | (with_reducible first | exact HB.out | apply below_alloc | apply pw_below_drewN | apply below_drew1 | refine below_set ?_ GE325.out) | exact HB.out)⟩⟩
  case round =>
    clear H'
    try clear c1
    try clear p2
    try clear hcz3_0
    try clear hfz3_0
    obtain ⟨x6_1, rfl, HA, HK1, BK325, HB⟩ := hrel
    cases gk with
    | zero => exact absurd HA.out (by simp [guard_Slow.l0])
    | succ k1 =>
      have H := HA.out
      clear HA
      simp only [guard_Slow.l0] at H
      by_cases c4 : x6_1 < 3
      · rw [if_pos c4] at H
        have c4b0 : decide (x6_1 < 3) = true := decide_eq_true c4
        clear c4
        by_cases c5 : x6_1 = 0
        · subst c5
          have H1 : (if a0_0 < (-64) then (some false) else (if a0_0 > 64 then (some false) else (guard_Slow.l0 k1 1 a0_0 a0_1 a0_2))) = some r := by rw [if_pos rfl] at H; exact H
          clear H
          have H := H1
          clear H1
          by_cases c6 : a0_0 < (-64)
          · rw [if_pos c6] at H
            have c6b0 : decide (a0_0 < (-64)) = true := decide_eq_true c6
            clear c6
            obtain rfl := Option.some.inj H
            go_wp2
            go_ret
            exact ⟨by first | rfl | (simp [errW_none, errW_some] <;> rfl) | (simp [*, errW_none, errW_some] <;> rfl), by repeat (first | (with_reducible first | exact HB.out | apply below_alloc | apply pw_below_drewN | apply below_drew1 | refine below_set ?_ GE325.out) | exact HB.out)⟩
          · rw [if_neg c6] at H
            have c6b0 : decide (a0_0 < (-64)) = false := decide_eq_false c6
            clear c6
            by_cases c7 : a0_0 > 64
            · rw [if_pos c7] at H
              have c7b0 : decide (64 < a0_0) = true := decide_eq_true c7
              clear c7
              obtain rfl := Option.some.inj H
              go_wp2
              go_ret
              exact ⟨by first | rfl | (simp [errW_none, errW_some] <;> rfl) | (simp [*, errW_none, errW_some] <;> rfl), by repeat (first | (with_reducible first | exact HB.out | apply below_alloc | apply pw_below_drewN | apply below_drew1 | refine below_set ?_ GE325.out) | exact HB.out)⟩
            · rw [if_neg c7] at H
              have c7b0 : decide (64 < a0_0) = false := decide_eq_false c7
              clear c7
              have H' := Aside0.mk H
              clear H
              go_wp2
              go_roundg k1
              case measure => have := HK1.out; omega
              case rel => exact ⟨(1), (by first | rfl | (simp; done) | (simp [*]; done)), H', ⟨by have := HK1.out; omega⟩, ⟨by (with_reducible repeat (first | refine blk_drewN ?_ _ | refine blk_drew ?_ | refine blk_alloc ?_ _)); exact BK325.out⟩, ⟨by repeat (first | (with_reducible first | exact HB.out | apply below_alloc | apply pw_below_drewN | apply below_drew1 | refine below_set ?_ GE325.out) | exact HB.out)⟩⟩
        rw [if_neg c5] at H
        by_cases c8 : x6_1 = 1
        · subst c8
          have H1 : (if a0_1 < (-64) then (some false) else (if a0_1 > 64 then (some false) else (guard_Slow.l0 k1 2 a0_0 a0_1 a0_2))) = some r := by rw [if_pos rfl] at H; exact H
          clear H
          have H := H1
          clear H1
          by_cases c9 : a0_1 < (-64)
          · rw [if_pos c9] at H
            have c9b0 : decide (a0_1 < (-64)) = true := decide_eq_true c9
            clear c9
            obtain rfl := Option.some.inj H
            go_wp2
            go_ret
            exact ⟨by first | rfl | (simp [errW_none, errW_some] <;> rfl) | (simp [*, errW_none, errW_some] <;> rfl), by repeat (first | (with_reducible first | exact HB.out | apply below_alloc | apply pw_below_drewN | apply below_drew1 | refine below_set ?_ GE325.out) | exact HB.out)⟩
          · rw [if_neg c9] at H
            have c9b0 : decide (a0_1 < (-64)) = false := decide_eq_false c9
            clear c9
            by_cases c10 : a0_1 > 64
            · rw [if_pos c10] at H
              have c10b0 : decide (64 < a0_1) = true := decide_eq_true c10
              clear c10
              obtain rfl := Option.some.inj H
              go_wp2
              go_ret
              exact ⟨by first | rfl | (simp [errW_none, errW_some] <;> rfl) | (simp [*, errW_none, errW_some] <;> rfl), by repeat (first | (with_reducible first | exact HB.out | apply below_alloc | apply pw_below_drewN | apply below_drew1 | refine below_set ?_ GE325.out) | exact HB.out)⟩
            · rw [if_neg c10] at H
              have c10b0 : decide (64 < a0_1) = false := decide_eq_false c10
              clear c10
              have H' := Aside0.mk H
              clear H
              go_wp2
              go_roundg k1
              case measure => have := HK1.out; omega
              case rel => exact ⟨(2), (by first | rfl | (simp; done) | (simp [*]; done)), H', ⟨by have := HK1.out; omega⟩, ⟨by (with_reducible repeat (first | refine blk_drewN ?_ _ | refine blk_drew ?_ | refine blk_alloc ?_ _)); exact BK325.out⟩, ⟨by repeat (first | (with_reducible first | exact HB.out | apply below_alloc | apply pw_below_drewN | apply below_drew1 | refine below_set ?_ GE325.out) | exact HB.out)⟩⟩
        rw [if_neg c8] at H
        by_cases c11 : x6_1 = 2
        · subst c11
          have H1 : (if a0_2 < (-64) then (some false) else (if a0_2 > 64 then (some false) else (guard_Slow.l0 k1 3 a0_0 a0_1 a0_2))) = some r := by rw [if_pos rfl] at H; exact H
          clear H
          have H := H1
          clear H1
          by_cases c12 : a0_2 < (-64)
          · rw [if_pos c12] at H
            have c12b0 : decide (a0_2 < (-64)) = true := decide_eq_true c12
            clear c12
            obtain rfl := Option.some.inj H
            go_wp2
            go_ret
            exact ⟨by first | rfl | (simp [errW_none, errW_some] <;> rfl) | (simp [*, errW_none, errW_some] <;> rfl), by repeat (first | (with_reducible first | exact HB.out | apply below_alloc | apply pw_below_drewN | apply below_drew1 | refine below_set ?_ GE325.out) | exact HB.out)⟩
          · rw [if_neg c12] at H
            have c12b0 : decide (a0_2 < (-64)) = false := decide_eq_false c12
            clear c12
            by_cases c13 : a0_2 > 64
            · rw [if_pos c13] at H
              have c13b0 : decide (64 < a0_2) = true := decide_eq_true c13
              clear c13
              obtain rfl := Option.some.inj H
              go_wp2
              go_ret
              exact ⟨by first | rfl | (simp [errW_none, errW_some] <;> rfl) | (simp [*, errW_none, errW_some] <;> rfl), by repeat (first | (with_reducible first | exact HB.out | apply below_alloc | apply pw_below_drewN | apply below_drew1 | refine below_set ?_ GE325.out) | exact HB.out)⟩
            · rw [if_neg c13] at H
              have c13b0 : decide (64 < a0_2) = false := decide_eq_false c13
              clear c13
              have H' := Aside0.mk H
              clear H
              go_wp2
              go_roundg k1
              case measure => have := HK1.out; omega
              case rel => exact ⟨(3), (by first | rfl | (simp; done) | (simp [*]; done)), H', ⟨by have := HK1.out; omega⟩, ⟨by (with_reducible repeat (first | refine blk_drewN ?_ _ | refine blk_drew ?_ | refine blk_alloc ?_ _)); exact BK325.out⟩, ⟨by repeat (first | (with_reducible first | exact HB.out | apply below_alloc | apply pw_below_drewN | apply below_drew1 | refine below_set ?_ GE325.out) | exact HB.out)⟩⟩
        rw [if_neg c11] at H
        exact absurd H (by simp)
      · rw [if_neg c4] at H
        have c4b0 : decide (x6_1 < 3) = false := decide_eq_false c4
        clear c4
        obtain rfl := Option.some.inj H
        go_wp2
        go_ret
        exact ⟨by first | rfl | (simp [errW_none, errW_some] <;> rfl) | (simp [*, errW_none, errW_some] <;> rfl), by repeat (first | (with_reducible first | exact HB.out | apply below_alloc | apply pw_below_drewN | apply below_drew1 | refine below_set ?_ GE325.out) | exact HB.out)⟩

/-! ### windhoverlaw18_awake: function 11 -/
def windhoverlaw18_awake.f (k : Nat)  : Option (Bool) := (guard_NewBackup.f).bind fun bt326 => ((guard_Backup_Step.f k bt326.1 bt326.2 false 100 (-10) 70 8000).bind fun bt329 => ((guard_Backup_Step.f k bt329.2.2.2.1 bt329.2.2.2.2 true 0 0 0 8000).bind fun bt335 => ((guard_Reach.f k 0 0 0 0 0 0 0 0 0 0 0 0 0 0 0 58 0 0 0 0 0).bind fun bt341 => (if (bt329.1 == (-64) && (bt329.2.1 == 10 && (bt329.2.2.1 == (-64)))) = true then (if (bt335.1 == 0 && (bt335.2.1 == 0 && (bt335.2.2.1 == (-32)))) = true then ((guard_Stop.f k 120 58).bind fun t349 => (if t349 = 66 then (if ((bt341.1 == (-1) && (bt341.2.1 == 1)) && ((bt341.2.2.1 == (-1) && (bt341.2.2.2.1 == 1)) && ((bt341.2.2.2.2.1 == 0 && (bt341.2.2.2.2.2 == 1))))) = true then ((guard_Slow.f k 64 (-64) 0).bind fun t350 => (if t350 = true then ((guard_Slow.f k 65 0 0).bind fun t351 => (some (!t351))) else (none))) else (none)) else (none))) else (none)) else (none)))))
theorem windhoverlaw18_awake.mono : ∀ k, LeO (windhoverlaw18_awake.f k ) (windhoverlaw18_awake.f (k + 1) ) := by
  intro  k
  unfold windhoverlaw18_awake.f
  repeat' first
      | (with_reducible exact guard_Backup_Step.mono _ _ _ _ _ _ _ _)
      | (with_reducible exact guard_Reach.mono _ _ _ _ _ _ _ _ _ _ _ _ _ _ _ _ _ _ _ _ _ _)
      | (with_reducible exact guard_Slow.mono _ _ _ _)
      | (with_reducible exact guard_Stop.mono _ _ _)
      | (with_reducible exact LeO.refl _)
      | (with_reducible exact LeO.none _)
      | (with_reducible refine LeO.ite ?_ ?_)
      | (with_reducible refine LeO.bind ?_ (fun _ => ?_))
      | exact guard_Backup_Step.mono _ _ _ _ _ _ _ _
      | exact guard_Reach.mono _ _ _ _ _ _ _ _ _ _ _ _ _ _ _ _ _ _ _ _ _ _
      | exact guard_Slow.mono _ _ _ _
      | exact guard_Stop.mono _ _ _
      | exact LeO.none _
      | refine LeO.ite ?_ ?_
      | refine LeO.bind ?_ (fun _ => ?_)
set_option maxHeartbeats 8000000 in
set_option maxRecDepth 100000 in
theorem windhoverlaw18_awake.calls (k : Nat)  (r : Bool) (w : World) (h : windhoverlaw18_awake.f k  = some r) :
    Calls Try.prog 11 #[] w fun e w' => e = .returned (.bool r) ∧ Below w.heap.size w w' := by
  have hu39 := Try.underlying39
  have hu38 := Try.underlying38
  have hu32 := Try.underlying32
  have hu36 := Try.underlying36
  have hu26 := Try.underlying26
  have HB := Aside0.mk (Below.refl w.heap.size w)
  have H : ((guard_NewBackup.f).bind fun bt326 => ((guard_Backup_Step.f k bt326.1 bt326.2 false 100 (-10) 70 8000).bind fun bt329 => ((guard_Backup_Step.f k bt329.2.2.2.1 bt329.2.2.2.2 true 0 0 0 8000).bind fun bt335 => ((guard_Reach.f k 0 0 0 0 0 0 0 0 0 0 0 0 0 0 0 58 0 0 0 0 0).bind fun bt341 => (if (bt329.1 == (-64) && (bt329.2.1 == 10 && (bt329.2.2.1 == (-64)))) = true then (if (bt335.1 == 0 && (bt335.2.1 == 0 && (bt335.2.2.1 == (-32)))) = true then ((guard_Stop.f k 120 58).bind fun t349 => (if t349 = 66 then (if ((bt341.1 == (-1) && (bt341.2.1 == 1)) && ((bt341.2.2.1 == (-1) && (bt341.2.2.2.1 == 1)) && ((bt341.2.2.2.2.1 == 0 && (bt341.2.2.2.2.2 == 1))))) = true then ((guard_Slow.f k 64 (-64) 0).bind fun t350 => (if t350 = true then ((guard_Slow.f k 65 0 0).bind fun t351 => (some (!t351))) else (none))) else (none)) else (none))) else (none)) else (none)))))) = some r := h
  clear h
  replace H := Option.bind_eq_some_iff.mp H
  obtain ⟨⟨t326, t327⟩, A10, H⟩ := H
  replace H : ((guard_Backup_Step.f k t326 t327 false 100 (-10) 70 8000).bind fun bt329 => ((guard_Backup_Step.f k bt329.2.2.2.1 bt329.2.2.2.2 true 0 0 0 8000).bind fun bt335 => ((guard_Reach.f k 0 0 0 0 0 0 0 0 0 0 0 0 0 0 0 58 0 0 0 0 0).bind fun bt341 => (if (bt329.1 == (-64) && (bt329.2.1 == 10 && (bt329.2.2.1 == (-64)))) = true then (if (bt335.1 == 0 && (bt335.2.1 == 0 && (bt335.2.2.1 == (-32)))) = true then ((guard_Stop.f k 120 58).bind fun t349 => (if t349 = 66 then (if ((bt341.1 == (-1) && (bt341.2.1 == 1)) && ((bt341.2.2.1 == (-1) && (bt341.2.2.2.1 == 1)) && ((bt341.2.2.2.2.1 == 0 && (bt341.2.2.2.2.2 == 1))))) = true then ((guard_Slow.f k 64 (-64) 0).bind fun t350 => (if t350 = true then ((guard_Slow.f k 65 0 0).bind fun t351 => (some (!t351))) else (none))) else (none)) else (none))) else (none)) else (none))))) = some r := H
  have A1 := Aside0.mk A10
  clear A10
  replace H := Option.bind_eq_some_iff.mp H
  obtain ⟨⟨t329, t330, t331, t332, t333⟩, A20, H⟩ := H
  replace H : ((guard_Backup_Step.f k t332 t333 true 0 0 0 8000).bind fun bt335 => ((guard_Reach.f k 0 0 0 0 0 0 0 0 0 0 0 0 0 0 0 58 0 0 0 0 0).bind fun bt341 => (if (t329 == (-64) && (t330 == 10 && (t331 == (-64)))) = true then (if (bt335.1 == 0 && (bt335.2.1 == 0 && (bt335.2.2.1 == (-32)))) = true then ((guard_Stop.f k 120 58).bind fun t349 => (if t349 = 66 then (if ((bt341.1 == (-1) && (bt341.2.1 == 1)) && ((bt341.2.2.1 == (-1) && (bt341.2.2.2.1 == 1)) && ((bt341.2.2.2.2.1 == 0 && (bt341.2.2.2.2.2 == 1))))) = true then ((guard_Slow.f k 64 (-64) 0).bind fun t350 => (if t350 = true then ((guard_Slow.f k 65 0 0).bind fun t351 => (some (!t351))) else (none))) else (none)) else (none))) else (none)) else (none)))) = some r := H
  have A2 := Aside0.mk A20
  clear A20
  replace H := Option.bind_eq_some_iff.mp H
  obtain ⟨⟨t335, t336, t337, t338, t339⟩, A30, H⟩ := H
  replace H : ((guard_Reach.f k 0 0 0 0 0 0 0 0 0 0 0 0 0 0 0 58 0 0 0 0 0).bind fun bt341 => (if (t329 == (-64) && (t330 == 10 && (t331 == (-64)))) = true then (if (t335 == 0 && (t336 == 0 && (t337 == (-32)))) = true then ((guard_Stop.f k 120 58).bind fun t349 => (if t349 = 66 then (if ((bt341.1 == (-1) && (bt341.2.1 == 1)) && ((bt341.2.2.1 == (-1) && (bt341.2.2.2.1 == 1)) && ((bt341.2.2.2.2.1 == 0 && (bt341.2.2.2.2.2 == 1))))) = true then ((guard_Slow.f k 64 (-64) 0).bind fun t350 => (if t350 = true then ((guard_Slow.f k 65 0 0).bind fun t351 => (some (!t351))) else (none))) else (none)) else (none))) else (none)) else (none))) = some r := H
  have A3 := Aside0.mk A30
  clear A30
  replace H := Option.bind_eq_some_iff.mp H
  obtain ⟨⟨t341, t342, t343, t344, t345, t346⟩, A40, H⟩ := H
  replace H : (if (t329 == (-64) && (t330 == 10 && (t331 == (-64)))) = true then (if (t335 == 0 && (t336 == 0 && (t337 == (-32)))) = true then ((guard_Stop.f k 120 58).bind fun t349 => (if t349 = 66 then (if ((t341 == (-1) && (t342 == 1)) && ((t343 == (-1) && (t344 == 1)) && ((t345 == 0 && (t346 == 1))))) = true then ((guard_Slow.f k 64 (-64) 0).bind fun t350 => (if t350 = true then ((guard_Slow.f k 65 0 0).bind fun t351 => (some (!t351))) else (none))) else (none)) else (none))) else (none)) else (none)) = some r := H
  have A4 := Aside0.mk A40
  clear A40
  by_cases c5 : (t329 == (-64) && (t330 == 10 && (t331 == (-64)))) = true
  · rw [if_pos c5] at H
    have c5b0 : (t329 == (-64) && (t330 == 10 && (t331 == (-64)))) = true := c5
    (try (have c5b1 : decide (t329 = (-64) && (t330 == 10 && (t331 == (-64)))) = true := by simpa using c5))
    (try (have c5b2 : (t329 == (-64) && (t330 == 10 && (t331 == (-64)))) = true := by simpa using c5))
    clear c5
    by_cases c6 : (t335 == 0 && (t336 == 0 && (t337 == (-32)))) = true
    · rw [if_pos c6] at H
      have c6b0 : (t335 == 0 && (t336 == 0 && (t337 == (-32)))) = true := c6
      (try (have c6b1 : decide (t335 = 0 && (t336 == 0 && (t337 == (-32)))) = true := by simpa using c6))
      (try (have c6b2 : (t335 == 0 && (t336 == 0 && (t337 == (-32)))) = true := by simpa using c6))
      clear c6
      replace H := Option.bind_eq_some_iff.mp H
      obtain ⟨t349, A70, H⟩ := H
      replace H : (if t349 = 66 then (if ((t341 == (-1) && (t342 == 1)) && ((t343 == (-1) && (t344 == 1)) && ((t345 == 0 && (t346 == 1))))) = true then ((guard_Slow.f k 64 (-64) 0).bind fun t350 => (if t350 = true then ((guard_Slow.f k 65 0 0).bind fun t351 => (some (!t351))) else (none))) else (none)) else (none)) = some r := H
      have A7 := Aside0.mk A70
      clear A70
      by_cases c8 : t349 = 66
      · rw [if_pos c8] at H
        have c8b0 : (t349 == 66) = true := beq_iff_eq.mpr c8
        have c8b1 : (t349 != 66) = false := bne_eq_false_iff_eq.mpr c8
        clear c8
        by_cases c9 : ((t341 == (-1) && (t342 == 1)) && ((t343 == (-1) && (t344 == 1)) && ((t345 == 0 && (t346 == 1))))) = true
        · rw [if_pos c9] at H
          have c9b0 : ((t341 == (-1) && (t342 == 1)) && ((t343 == (-1) && (t344 == 1)) && ((t345 == 0 && (t346 == 1))))) = true := c9
          clear c9
          replace H := Option.bind_eq_some_iff.mp H
          obtain ⟨t350, A100, H⟩ := H
          replace H : (if t350 = true then ((guard_Slow.f k 65 0 0).bind fun t351 => (some (!t351))) else (none)) = some r := H
          have A10 := Aside0.mk A100
          clear A100
          by_cases c11 : t350 = true
          · subst c11
            have H1 : ((guard_Slow.f k 65 0 0).bind fun t351 => (some (!t351))) = some r := by rw [if_pos rfl] at H; exact H
            clear H
            have H := H1
            clear H1
            replace H := Option.bind_eq_some_iff.mp H
            obtain ⟨t351, A120, H⟩ := H
            replace H : (some (!t351)) = some r := H
            have A12 := Aside0.mk A120
            clear A120
            obtain rfl := Option.some.inj H
            go_enter Try.func11, Try.ntmps11
            go_wp2_with (first | ((with_reducible refine gate_callee (f := 14) rfl ?_); refine goesL_ (some 6) rfl rfl Try.func14 (by kernel_rfl) rfl #[] rfl (by (try simp only [List.map_toArray, List.map_cons, List.map_nil]); first | done | rfl | (simp only [List.length_drop, List.length_take]; rfl)) ?_; (with_reducible refine (guard_NewBackup.calls  t326 t327 w _ ?side1 A1.out).mono ?_); (case side1 => repeat (first | (with_reducible first | exact HB.out | apply below_alloc | apply pw_below_drewN | apply below_drew1) | exact HB.out)); rintro e w13 ⟨g328, rfl, hi, hb, hb2⟩; refine ⟨_, rfl, ?_⟩; have n0_ := Aside0.mk (hb); have n1_ := Aside0.mk (hi); clear HB; have HB := n0_; have HI328 := n1_; clear n0_ n1_; (try clear hb); (try clear hb2); (try clear hk); (try clear hi)) | ((with_reducible refine gate_callee (f := 16) rfl ?_); refine goesL_ (some 11) rfl rfl Try.func16 (by kernel_rfl) rfl #[.pointer (some ⟨g328, 0, none⟩), .bool false, .agg #[.int .i64 100, .int .i64 (-10), .int .i64 70], .int .i64 8000] rfl (by (try simp only [List.map_toArray, List.map_cons, List.map_nil]); first | done | rfl | (simp only [List.length_drop, List.length_take]; rfl)) ?_; (with_reducible refine (guard_Backup_Step.calls k g328 t326 t327 false 100 (-10) 70 8000 t329 t330 t331 t332 t333 w _ ?side1 ?side2 A2.out).mono ?_); (case side1 => repeat (first | (with_reducible first | exact HI328.out | apply IsS70.alloc | apply IsS70.drewN | apply IsS70.drew | apply IsS70.set_0 | apply IsS70.set_1) | exact HI328.out)); (case side2 => repeat (first | (with_reducible first | exact HB.out | apply below_alloc | apply pw_below_drewN | apply below_drew1 | refine below_set ?_ (IsS70.ge HI328.out)) | exact HB.out)); rintro e w14 ⟨rfl, hi, hb, hk⟩; refine ⟨_, rfl, ?_⟩; have n0_ := Aside0.mk (hb); have n1_ := Aside0.mk (hi); clear HB; clear HI328; have HB := n0_; have HI328 := n1_; clear n0_ n1_; (try clear hb); (try clear hb2); (try clear hk); (try clear hi)) | ((with_reducible refine gate_dst (N := 2) rfl ?_); refine box_event ?hg (N := 2) ?hd (cs := #[.int .i64 0, .int .i64 0, .int .i64 0]) (t := 39) ?hr ?_; (case hd => rfl); (case hg => rfl); (case hr => first | (go_simp; done) | (go_simp; rfl)); intro gb334 hg w15 hbox hb; have n0_ := Aside0.mk (IsS70.below (by repeat (first | (with_reducible first | exact HI328.out | apply IsS70.alloc | apply IsS70.drewN | apply IsS70.drew | apply IsS70.set_0 | apply IsS70.set_1) | exact HI328.out)) hb); have n1_ := Aside0.mk (below_step (by repeat (first | (with_reducible first | exact HB.out | apply below_alloc | apply pw_below_drewN | apply below_drew1 | refine below_set ?_ (IsS70.ge HI328.out)) | exact HB.out)) hb); have n2_ := Aside0.mk (hbox); have n3_ := Aside0.mk ((by rw [hg]; exact (below_size (by repeat (first | (with_reducible first | exact HB.out | apply below_alloc | apply pw_below_drewN | apply below_drew1 | refine below_set ?_ (IsS70.ge HI328.out)) | exact HB.out))) : w.heap.size ≤ gb334)); have n4_ := Aside0.mk ((by rw [hg]; exact (below_size (by repeat (first | (with_reducible first | exact HB.out | apply below_alloc | apply pw_below_drewN | apply below_drew1 | refine below_set ?_ (IsS70.ge HI328.out)) | exact HB.out))) : w.heap.size ≤ gb334)); have n5_ := Aside0.mk ((by rw [hg]; exact Nat.ne_of_lt (IsS70.lt (show IsS70 w _ g328 t332 t333 from by repeat (first | (with_reducible first | exact HI328.out | apply IsS70.alloc | apply IsS70.drewN | apply IsS70.drew | apply IsS70.set_0 | apply IsS70.set_1) | exact HI328.out))) : g328 ≠ gb334)); have n6_ := Aside0.mk ((by rw [hg]; exact Nat.ne_of_gt (IsS70.lt (show IsS70 w _ g328 t332 t333 from by repeat (first | (with_reducible first | exact HI328.out | apply IsS70.alloc | apply IsS70.drewN | apply IsS70.drew | apply IsS70.set_0 | apply IsS70.set_1) | exact HI328.out))) : gb334 ≠ g328)); clear HI328; clear HB; have HI328 := n0_; have HB := n1_; have BK334 := n2_; have GW334 := n3_; have GE334 := n4_; have NB328_334 := n5_; have NB334_328 := n6_; clear n0_ n1_ n2_ n3_ n4_ n5_ n6_; clear hb hbox hg; have hnb16 := NB334_328.out; have hnc16 := NB328_334.out; have hcz17_0 := blk_cells3 (w := w15) (g := gb334) BK334.out; have hfz17_0 := blk_frozen BK334.out) | ((with_reducible refine gate_callee (f := 16) rfl ?_); refine goesL_ (some 14) rfl rfl Try.func16 (by kernel_rfl) rfl #[.pointer (some ⟨g328, 0, none⟩), .bool true, .agg #[.int .i64 0, .int .i64 0, .int .i64 0], .int .i64 8000] rfl (by (try simp only [List.map_toArray, List.map_cons, List.map_nil]); first | done | rfl | (simp only [List.length_drop, List.length_take]; rfl)) ?_; (with_reducible refine (guard_Backup_Step.calls k g328 t332 t333 true 0 0 0 8000 t335 t336 t337 t338 t339 w _ ?side1 ?side2 A3.out).mono ?_); (case side1 => repeat (first | (with_reducible first | exact HI328.out | apply IsS70.alloc | apply IsS70.drewN | apply IsS70.drew | apply IsS70.set_0 | apply IsS70.set_1 | apply IsS70.farb NB328_334.out) | exact HI328.out)); (case side2 => repeat (first | (with_reducible first | exact HB.out | apply below_alloc | apply pw_below_drewN | apply below_drew1 | refine below_set ?_ (IsS70.ge HI328.out) | refine below_set ?_ GE334.out) | exact HB.out)); rintro e w18 ⟨rfl, hi, hb, hk⟩; refine ⟨_, rfl, ?_⟩; have n0_ := Aside0.mk (KeepBut.blk hk (g' := gb334) (o := .cells #[.int .i64 t329, .int .i64 t330, .int .i64 t331] 39 (0, 0)) (by (with_reducible repeat (first | refine blk_drewN ?_ _ | refine blk_drew ?_ | refine blk_alloc ?_ _)); refine blk_put (cs := #[.int .i64 t329, .int .i64 t330, .int .i64 0]) ?_ 2 _ rfl; (with_reducible repeat (first | refine blk_drewN ?_ _ | refine blk_drew ?_ | refine blk_alloc ?_ _)); refine blk_put (cs := #[.int .i64 t329, .int .i64 0, .int .i64 0]) ?_ 1 _ rfl; (with_reducible repeat (first | refine blk_drewN ?_ _ | refine blk_drew ?_ | refine blk_alloc ?_ _)); refine blk_put (cs := #[.int .i64 0, .int .i64 0, .int .i64 0]) ?_ 0 _ rfl; (with_reducible repeat (first | refine blk_drewN ?_ _ | refine blk_drew ?_ | refine blk_alloc ?_ _)); exact BK334.out) NB334_328.out (by simp)); have n1_ := Aside0.mk (hb); have n2_ := Aside0.mk (hi); clear BK334; clear HB; clear HI328; have BK334 := n0_; have HB := n1_; have HI328 := n2_; clear n0_ n1_ n2_; (try clear hb); (try clear hb2); (try clear hk); (try clear hi)) | ((with_reducible refine gate_dst (N := 3) rfl ?_); refine box_event ?hg (N := 3) ?hd (cs := #[.int .i64 0, .int .i64 0, .int .i64 0]) (t := 39) ?hr ?_; (case hd => rfl); (case hg => rfl); (case hr => first | (go_simp; done) | (go_simp; rfl)); intro gb340 hg w19 hbox hb; have n0_ := Aside0.mk (IsS70.below (by repeat (first | (with_reducible first | exact HI328.out | apply IsS70.alloc | apply IsS70.drewN | apply IsS70.drew | apply IsS70.set_0 | apply IsS70.set_1 | apply IsS70.farb NB328_334.out) | exact HI328.out)) hb); have n1_ := Aside0.mk (blk_below (g := gb334) (o := .cells #[.int .i64 t329, .int .i64 t330, .int .i64 t331] 39 (0, 0)) (by (with_reducible repeat (first | refine blk_drewN ?_ _ | refine blk_drew ?_ | refine blk_alloc ?_ _)); exact BK334.out) hb); have n2_ := Aside0.mk (below_step (by repeat (first | (with_reducible first | exact HB.out | apply below_alloc | apply pw_below_drewN | apply below_drew1 | refine below_set ?_ (IsS70.ge HI328.out) | refine below_set ?_ GE334.out) | exact HB.out)) hb); have n3_ := Aside0.mk (hbox); have n4_ := Aside0.mk ((by rw [hg]; exact (below_size (by repeat (first | (with_reducible first | exact HB.out | apply below_alloc | apply pw_below_drewN | apply below_drew1 | refine below_set ?_ (IsS70.ge HI328.out) | refine below_set ?_ GE334.out) | exact HB.out))) : w.heap.size ≤ gb340)); have n5_ := Aside0.mk ((by rw [hg]; exact (below_size (by repeat (first | (with_reducible first | exact HB.out | apply below_alloc | apply pw_below_drewN | apply below_drew1 | refine below_set ?_ (IsS70.ge HI328.out) | refine below_set ?_ GE334.out) | exact HB.out))) : w.heap.size ≤ gb340)); have n6_ := Aside0.mk ((by rw [hg]; exact Nat.ne_of_lt (blk_lt (g := gb334) (o := .cells #[.int .i64 t329, .int .i64 t330, .int .i64 t331] 39 (0, 0)) (by (with_reducible repeat (first | refine blk_drewN ?_ _ | refine blk_drew ?_ | refine blk_alloc ?_ _)); exact BK334.out)) : gb334 ≠ gb340)); have n7_ := Aside0.mk ((by rw [hg]; exact Nat.ne_of_gt (blk_lt (g := gb334) (o := .cells #[.int .i64 t329, .int .i64 t330, .int .i64 t331] 39 (0, 0)) (by (with_reducible repeat (first | refine blk_drewN ?_ _ | refine blk_drew ?_ | refine blk_alloc ?_ _)); exact BK334.out)) : gb340 ≠ gb334)); have n8_ := Aside0.mk ((by rw [hg]; exact Nat.ne_of_lt (IsS70.lt (show IsS70 w _ g328 t338 t339 from by repeat (first | (with_reducible first | exact HI328.out | apply IsS70.alloc | apply IsS70.drewN | apply IsS70.drew | apply IsS70.set_0 | apply IsS70.set_1 | apply IsS70.farb NB328_334.out) | exact HI328.out))) : g328 ≠ gb340)); have n9_ := Aside0.mk ((by rw [hg]; exact Nat.ne_of_gt (IsS70.lt (show IsS70 w _ g328 t338 t339 from by repeat (first | (with_reducible first | exact HI328.out | apply IsS70.alloc | apply IsS70.drewN | apply IsS70.drew | apply IsS70.set_0 | apply IsS70.set_1 | apply IsS70.farb NB328_334.out) | exact HI328.out))) : gb340 ≠ g328)); clear HI328; clear BK334; clear HB; have HI328 := n0_; have BK334 := n1_; have HB := n2_; have BK340 := n3_; have GW340 := n4_; have GE340 := n5_; have NB334_340 := n6_; have NB340_334 := n7_; have NB328_340 := n8_; have NB340_328 := n9_; clear n0_ n1_ n2_ n3_ n4_ n5_ n6_ n7_ n8_ n9_; clear hb hbox hg; have hnb20 := NB340_334.out; have hnc20 := NB334_340.out; have hnb21 := NB340_328.out; have hnc21 := NB328_340.out; have hcz22_0 := blk_cells3 (w := w19) (g := gb340) BK340.out; have hfz22_0 := blk_frozen BK340.out) | ((with_reducible refine gate_callee (f := 13) rfl ?_); refine goesL_ (some 18) rfl rfl Try.func13 (by kernel_rfl) rfl #[.agg #[.int .i64 0, .int .i64 0, .int .i64 0, .int .i64 0, .int .i64 0, .int .i64 0, .int .i64 0, .int .i64 0, .int .i64 0, .int .i64 0, .int .i64 0, .int .i64 0], .agg #[.int .i64 0, .int .i64 0, .int .i64 0], .agg #[.int .i64 58, .int .i64 0, .int .i64 0, .int .i64 0, .int .i64 0, .int .i64 0]] rfl (by (try simp only [List.map_toArray, List.map_cons, List.map_nil]); first | done | rfl | (simp only [List.length_drop, List.length_take]; rfl)) ?_; (with_reducible refine (guard_Reach.calls k 0 0 0 0 0 0 0 0 0 0 0 0 0 0 0 58 0 0 0 0 0 t341 t342 t343 t344 t345 t346 _ A4.out).mono ?_); rintro e w23 ⟨rfl, hb⟩; refine ⟨_, rfl, ?_⟩; have n0_ := Aside0.mk (IsS70.below (show IsS70 w (((w19.setCell ⟨gb340, 0, none⟩ (.int .i64 t335)).setCell ⟨gb340, 1, none⟩ (.int .i64 t336)).setCell ⟨gb340, 2, none⟩ (.int .i64 t337)) g328 t338 t339 from by repeat (first | (with_reducible first | exact HI328.out | apply IsS70.alloc | apply IsS70.drewN | apply IsS70.drew | apply IsS70.set_0 | apply IsS70.set_1 | apply IsS70.farb NB328_334.out | apply IsS70.farb NB328_340.out) | exact HI328.out)) hb); have n1_ := Aside0.mk (blk_below (g := gb334) (o := .cells #[.int .i64 t329, .int .i64 t330, .int .i64 t331] 39 (0, 0)) (by (with_reducible repeat (first | refine blk_drewN ?_ _ | refine blk_drew ?_ | refine blk_alloc ?_ _)); refine blk_far ?_ NB334_340.out _; (with_reducible repeat (first | refine blk_drewN ?_ _ | refine blk_drew ?_ | refine blk_alloc ?_ _)); refine blk_far ?_ NB334_340.out _; (with_reducible repeat (first | refine blk_drewN ?_ _ | refine blk_drew ?_ | refine blk_alloc ?_ _)); refine blk_far ?_ NB334_340.out _; (with_reducible repeat (first | refine blk_drewN ?_ _ | refine blk_drew ?_ | refine blk_alloc ?_ _)); exact BK334.out) hb); have n2_ := Aside0.mk (blk_below (g := gb340) (o := .cells #[.int .i64 t335, .int .i64 t336, .int .i64 t337] 39 (0, 0)) (by (with_reducible repeat (first | refine blk_drewN ?_ _ | refine blk_drew ?_ | refine blk_alloc ?_ _)); refine blk_put (cs := #[.int .i64 t335, .int .i64 t336, .int .i64 0]) ?_ 2 _ rfl; (with_reducible repeat (first | refine blk_drewN ?_ _ | refine blk_drew ?_ | refine blk_alloc ?_ _)); refine blk_put (cs := #[.int .i64 t335, .int .i64 0, .int .i64 0]) ?_ 1 _ rfl; (with_reducible repeat (first | refine blk_drewN ?_ _ | refine blk_drew ?_ | refine blk_alloc ?_ _)); refine blk_put (cs := #[.int .i64 0, .int .i64 0, .int .i64 0]) ?_ 0 _ rfl; (with_reducible repeat (first | refine blk_drewN ?_ _ | refine blk_drew ?_ | refine blk_alloc ?_ _)); exact BK340.out) hb); have n3_ := Aside0.mk (below_step (by repeat (first | (with_reducible first | exact HB.out | apply below_alloc | apply pw_below_drewN | apply below_drew1 | refine below_set ?_ (IsS70.ge HI328.out) | refine below_set ?_ GE334.out | refine below_set ?_ GE340.out) | exact HB.out)) hb); clear HI328; clear BK334; clear BK340; clear HB; have HI328 := n0_; have BK334 := n1_; have BK340 := n2_; have HB := n3_; clear n0_ n1_ n2_ n3_; (try clear hb); (try clear hb2); (try clear hk); (try clear hi)) | ((with_reducible refine gate_dst (N := 4) rfl ?_); refine box_event ?hg (N := 4) ?hd (cs := #[.int .i64 0, .int .i64 0, .int .i64 0, .int .i64 0, .int .i64 0, .int .i64 0]) (t := 36) ?hr ?_; (case hd => rfl); (case hg => rfl); (case hr => first | (go_simp; done) | (go_simp; rfl)); intro gb347 hg w24 hbox hb; have n0_ := Aside0.mk (IsS70.below (by repeat (first | (with_reducible first | exact HI328.out | apply IsS70.alloc | apply IsS70.drewN | apply IsS70.drew | apply IsS70.set_0 | apply IsS70.set_1 | apply IsS70.farb NB328_334.out | apply IsS70.farb NB328_340.out) | exact HI328.out)) hb); have n1_ := Aside0.mk (blk_below (g := gb334) (o := .cells #[.int .i64 t329, .int .i64 t330, .int .i64 t331] 39 (0, 0)) (by (with_reducible repeat (first | refine blk_drewN ?_ _ | refine blk_drew ?_ | refine blk_alloc ?_ _)); exact BK334.out) hb); have n2_ := Aside0.mk (blk_below (g := gb340) (o := .cells #[.int .i64 t335, .int .i64 t336, .int .i64 t337] 39 (0, 0)) (by (with_reducible repeat (first | refine blk_drewN ?_ _ | refine blk_drew ?_ | refine blk_alloc ?_ _)); exact BK340.out) hb); have n3_ := Aside0.mk (below_step (by repeat (first | (with_reducible first | exact HB.out | apply below_alloc | apply pw_below_drewN | apply below_drew1 | refine below_set ?_ (IsS70.ge HI328.out) | refine below_set ?_ GE334.out | refine below_set ?_ GE340.out) | exact HB.out)) hb); have n4_ := Aside0.mk (hbox); have n5_ := Aside0.mk ((by rw [hg]; exact (below_size (by repeat (first | (with_reducible first | exact HB.out | apply below_alloc | apply pw_below_drewN | apply below_drew1 | refine below_set ?_ (IsS70.ge HI328.out) | refine below_set ?_ GE334.out | refine below_set ?_ GE340.out) | exact HB.out))) : w.heap.size ≤ gb347)); have n6_ := Aside0.mk ((by rw [hg]; exact (below_size (by repeat (first | (with_reducible first | exact HB.out | apply below_alloc | apply pw_below_drewN | apply below_drew1 | refine below_set ?_ (IsS70.ge HI328.out) | refine below_set ?_ GE334.out | refine below_set ?_ GE340.out) | exact HB.out))) : w.heap.size ≤ gb347)); have n7_ := Aside0.mk ((by rw [hg]; exact Nat.ne_of_lt (blk_lt (g := gb334) (o := .cells #[.int .i64 t329, .int .i64 t330, .int .i64 t331] 39 (0, 0)) (by (with_reducible repeat (first | refine blk_drewN ?_ _ | refine blk_drew ?_ | refine blk_alloc ?_ _)); exact BK334.out)) : gb334 ≠ gb347)); have n8_ := Aside0.mk ((by rw [hg]; exact Nat.ne_of_gt (blk_lt (g := gb334) (o := .cells #[.int .i64 t329, .int .i64 t330, .int .i64 t331] 39 (0, 0)) (by (with_reducible repeat (first | refine blk_drewN ?_ _ | refine blk_drew ?_ | refine blk_alloc ?_ _)); exact BK334.out)) : gb347 ≠ gb334)); have n9_ := Aside0.mk ((by rw [hg]; exact Nat.ne_of_lt (blk_lt (g := gb340) (o := .cells #[.int .i64 t335, .int .i64 t336, .int .i64 t337] 39 (0, 0)) (by (with_reducible repeat (first | refine blk_drewN ?_ _ | refine blk_drew ?_ | refine blk_alloc ?_ _)); exact BK340.out)) : gb340 ≠ gb347)); have n10_ := Aside0.mk ((by rw [hg]; exact Nat.ne_of_gt (blk_lt (g := gb340) (o := .cells #[.int .i64 t335, .int .i64 t336, .int .i64 t337] 39 (0, 0)) (by (with_reducible repeat (first | refine blk_drewN ?_ _ | refine blk_drew ?_ | refine blk_alloc ?_ _)); exact BK340.out)) : gb347 ≠ gb340)); have n11_ := Aside0.mk ((by rw [hg]; exact Nat.ne_of_lt (IsS70.lt (show IsS70 w _ g328 t338 t339 from by repeat (first | (with_reducible first | exact HI328.out | apply IsS70.alloc | apply IsS70.drewN | apply IsS70.drew | apply IsS70.set_0 | apply IsS70.set_1 | apply IsS70.farb NB328_334.out | apply IsS70.farb NB328_340.out) | exact HI328.out))) : g328 ≠ gb347)); have n12_ := Aside0.mk ((by rw [hg]; exact Nat.ne_of_gt (IsS70.lt (show IsS70 w _ g328 t338 t339 from by repeat (first | (with_reducible first | exact HI328.out | apply IsS70.alloc | apply IsS70.drewN | apply IsS70.drew | apply IsS70.set_0 | apply IsS70.set_1 | apply IsS70.farb NB328_334.out | apply IsS70.farb NB328_340.out) | exact HI328.out))) : gb347 ≠ g328)); clear HI328; clear BK334; clear BK340; clear HB; have HI328 := n0_; have BK334 := n1_; have BK340 := n2_; have HB := n3_; have BK347 := n4_; have GW347 := n5_; have GE347 := n6_; have NB334_347 := n7_; have NB347_334 := n8_; have NB340_347 := n9_; have NB347_340 := n10_; have NB328_347 := n11_; have NB347_328 := n12_; clear n0_ n1_ n2_ n3_ n4_ n5_ n6_ n7_ n8_ n9_ n10_ n11_ n12_; clear hb hbox hg; have hnb25 := NB347_334.out; have hnc25 := NB334_347.out; have hnb26 := NB347_340.out; have hnc26 := NB340_347.out; have hnb27 := NB347_328.out; have hnc27 := NB328_347.out; have hcz28_0 := blk_cells6 (w := w24) (g := gb347) BK347.out; have hfz28_0 := blk_frozen BK347.out) | ((with_reducible refine gate_dst (N := 5) rfl ?_); refine box_event ?hg (N := 5) ?hd (cs := #[.int .i64 0, .int .i64 0]) (t := 26) ?hr ?_; (case hd => rfl); (case hg => rfl); (case hr => first | (go_simp; done) | (go_simp; rfl)); intro gb348 hg w29 hbox hb; have n0_ := Aside0.mk (IsS70.below (show IsS70 w ((((((w24.setCell ⟨gb347, 0, none⟩ (.int .i64 t341)).setCell ⟨gb347, 1, none⟩ (.int .i64 t342)).setCell ⟨gb347, 2, none⟩ (.int .i64 t343)).setCell ⟨gb347, 3, none⟩ (.int .i64 t344)).setCell ⟨gb347, 4, none⟩ (.int .i64 t345)).setCell ⟨gb347, 5, none⟩ (.int .i64 t346)) g328 t338 t339 from by repeat (first | (with_reducible first | exact HI328.out | apply IsS70.alloc | apply IsS70.drewN | apply IsS70.drew | apply IsS70.set_0 | apply IsS70.set_1 | apply IsS70.farb NB328_334.out | apply IsS70.farb NB328_340.out | apply IsS70.farb NB328_347.out) | exact HI328.out)) hb); have n1_ := Aside0.mk (blk_below (g := gb334) (o := .cells #[.int .i64 t329, .int .i64 t330, .int .i64 t331] 39 (0, 0)) (by (with_reducible repeat (first | refine blk_drewN ?_ _ | refine blk_drew ?_ | refine blk_alloc ?_ _)); refine blk_far ?_ NB334_347.out _; (with_reducible repeat (first | refine blk_drewN ?_ _ | refine blk_drew ?_ | refine blk_alloc ?_ _)); refine blk_far ?_ NB334_347.out _; (with_reducible repeat (first | refine blk_drewN ?_ _ | refine blk_drew ?_ | refine blk_alloc ?_ _)); refine blk_far ?_ NB334_347.out _; (with_reducible repeat (first | refine blk_drewN ?_ _ | refine blk_drew ?_ | refine blk_alloc ?_ _)); refine blk_far ?_ NB334_347.out _; (with_reducible repeat (first | refine blk_drewN ?_ _ | refine blk_drew ?_ | refine blk_alloc ?_ _)); refine blk_far ?_ NB334_347.out _; (with_reducible repeat (first | refine blk_drewN ?_ _ | refine blk_drew ?_ | refine blk_alloc ?_ _)); refine blk_far ?_ NB334_347.out _; (with_reducible repeat (first | refine blk_drewN ?_ _ | refine blk_drew ?_ | refine blk_alloc ?_ _)); exact BK334.out) hb); have n2_ := Aside0.mk (blk_below (g := gb340) (o := .cells #[.int .i64 t335, .int .i64 t336, .int .i64 t337] 39 (0, 0)) (by (with_reducible repeat (first | refine blk_drewN ?_ _ | refine blk_drew ?_ | refine blk_alloc ?_ _)); refine blk_far ?_ NB340_347.out _; (with_reducible repeat (first | refine blk_drewN ?_ _ | refine blk_drew ?_ | refine blk_alloc ?_ _)); refine blk_far ?_ NB340_347.out _; (with_reducible repeat (first | refine blk_drewN ?_ _ | refine blk_drew ?_ | refine blk_alloc ?_ _)); refine blk_far ?_ NB340_347.out _; (with_reducible repeat (first | refine blk_drewN ?_ _ | refine blk_drew ?_ | refine blk_alloc ?_ _)); refine blk_far ?_ NB340_347.out _; (with_reducible repeat (first | refine blk_drewN ?_ _ | refine blk_drew ?_ | refine blk_alloc ?_ _)); refine blk_far ?_ NB340_347.out _; (with_reducible repeat (first | refine blk_drewN ?_ _ | refine blk_drew ?_ | refine blk_alloc ?_ _)); refine blk_far ?_ NB340_347.out _; (with_reducible repeat (first | refine blk_drewN ?_ _ | refine blk_drew ?_ | refine blk_alloc ?_ _)); exact BK340.out) hb); have n3_ := Aside0.mk (blk_below (g := gb347) (o := .cells #[.int .i64 t341, .int .i64 t342, .int .i64 t343, .int .i64 t344, .int .i64 t345, .int .i64 t346] 36 (0, 0)) (by (with_reducible repeat (first | refine blk_drewN ?_ _ | refine blk_drew ?_ | refine blk_alloc ?_ _)); refine blk_put (cs := #[.int .i64 t341, .int .i64 t342, .int .i64 t343, .int .i64 t344, .int .i64 t345, .int .i64 0]) ?_ 5 _ rfl; (with_reducible repeat (first | refine blk_drewN ?_ _ | refine blk_drew ?_ | refine blk_alloc ?_ _)); refine blk_put (cs := #[.int .i64 t341, .int .i64 t342, .int .i64 t343, .int .i64 t344, .int .i64 0, .int .i64 0]) ?_ 4 _ rfl; (with_reducible repeat (first | refine blk_drewN ?_ _ | refine blk_drew ?_ | refine blk_alloc ?_ _)); refine blk_put (cs := #[.int .i64 t341, .int .i64 t342, .int .i64 t343, .int .i64 0, .int .i64 0, .int .i64 0]) ?_ 3 _ rfl; (with_reducible repeat (first | refine blk_drewN ?_ _ | refine blk_drew ?_ | refine blk_alloc ?_ _)); refine blk_put (cs := #[.int .i64 t341, .int .i64 t342, .int .i64 0, .int .i64 0, .int .i64 0, .int .i64 0]) ?_ 2 _ rfl; (with_reducible repeat (first | refine blk_drewN ?_ _ | refine blk_drew ?_ | refine blk_alloc ?_ _)); refine blk_put (cs := #[.int .i64 t341, .int .i64 0, .int .i64 0, .int .i64 0, .int .i64 0, .int .i64 0]) ?_ 1 _ rfl; (with_reducible repeat (first | refine blk_drewN ?_ _ | refine blk_drew ?_ | refine blk_alloc ?_ _)); refine blk_put (cs := #[.int .i64 0, .int .i64 0, .int .i64 0, .int .i64 0, .int .i64 0, .int .i64 0]) ?_ 0 _ rfl; (with_reducible repeat (first | refine blk_drewN ?_ _ | refine blk_drew ?_ | refine blk_alloc ?_ _)); exact BK347.out) hb); have n4_ := Aside0.mk (below_step (by repeat (first | (with_reducible first | exact HB.out | apply below_alloc | apply pw_below_drewN | apply below_drew1 | refine below_set ?_ (IsS70.ge HI328.out) | refine below_set ?_ GE334.out | refine below_set ?_ GE340.out | refine below_set ?_ GE347.out) | exact HB.out)) hb); have n5_ := Aside0.mk (hbox); have n6_ := Aside0.mk ((by rw [hg]; exact (below_size (by repeat (first | (with_reducible first | exact HB.out | apply below_alloc | apply pw_below_drewN | apply below_drew1 | refine below_set ?_ (IsS70.ge HI328.out) | refine below_set ?_ GE334.out | refine below_set ?_ GE340.out | refine below_set ?_ GE347.out) | exact HB.out))) : w.heap.size ≤ gb348)); have n7_ := Aside0.mk ((by rw [hg]; exact (below_size (by repeat (first | (with_reducible first | exact HB.out | apply below_alloc | apply pw_below_drewN | apply below_drew1 | refine below_set ?_ (IsS70.ge HI328.out) | refine below_set ?_ GE334.out | refine below_set ?_ GE340.out | refine below_set ?_ GE347.out) | exact HB.out))) : w.heap.size ≤ gb348)); have n8_ := Aside0.mk ((by rw [hg]; exact Nat.ne_of_lt (blk_lt (g := gb334) (o := .cells #[.int .i64 t329, .int .i64 t330, .int .i64 t331] 39 (0, 0)) (by (with_reducible repeat (first | refine blk_drewN ?_ _ | refine blk_drew ?_ | refine blk_alloc ?_ _)); refine blk_far ?_ NB334_347.out _; (with_reducible repeat (first | refine blk_drewN ?_ _ | refine blk_drew ?_ | refine blk_alloc ?_ _)); refine blk_far ?_ NB334_347.out _; (with_reducible repeat (first | refine blk_drewN ?_ _ | refine blk_drew ?_ | refine blk_alloc ?_ _)); refine blk_far ?_ NB334_347.out _; (with_reducible repeat (first | refine blk_drewN ?_ _ | refine blk_drew ?_ | refine blk_alloc ?_ _)); refine blk_far ?_ NB334_347.out _; (with_reducible repeat (first | refine blk_drewN ?_ _ | refine blk_drew ?_ | refine blk_alloc ?_ _)); refine blk_far ?_ NB334_347.out _; (with_reducible repeat (first | refine blk_drewN ?_ _ | refine blk_drew ?_ | refine blk_alloc ?_ _)); refine blk_far ?_ NB334_347.out _; (with_reducible repeat (first | refine blk_drewN ?_ _ | refine blk_drew ?_ | refine blk_alloc ?_ _)); exact BK334.out)) : gb334 ≠ gb348)); have n9_ := Aside0.mk ((by rw [hg]; exact Nat.ne_of_gt (blk_lt (g := gb334) (o := .cells #[.int .i64 t329, .int .i64 t330, .int .i64 t331] 39 (0, 0)) (by (with_reducible repeat (first | refine blk_drewN ?_ _ | refine blk_drew ?_ | refine blk_alloc ?_ _)); refine blk_far ?_ NB334_347.out _; (with_reducible repeat (first | refine blk_drewN ?_ _ | refine blk_drew ?_ | refine blk_alloc ?_ _)); refine blk_far ?_ NB334_347.out _; (with_reducible repeat (first | refine blk_drewN ?_ _ | refine blk_drew ?_ | refine blk_alloc ?_ _)); refine blk_far ?_ NB334_347.out _; (with_reducible repeat (first | refine blk_drewN ?_ _ | refine blk_drew ?_ | refine blk_alloc ?_ _)); refine blk_far ?_ NB334_347.out _; (with_reducible repeat (first | refine blk_drewN ?_ _ | refine blk_drew ?_ | refine blk_alloc ?_ _)); refine blk_far ?_ NB334_347.out _; (with_reducible repeat (first | refine blk_drewN ?_ _ | refine blk_drew ?_ | refine blk_alloc ?_ _)); refine blk_far ?_ NB334_347.out _; (with_reducible repeat (first | refine blk_drewN ?_ _ | refine blk_drew ?_ | refine blk_alloc ?_ _)); exact BK334.out)) : gb348 ≠ gb334)); have n10_ := Aside0.mk ((by rw [hg]; exact Nat.ne_of_lt (blk_lt (g := gb340) (o := .cells #[.int .i64 t335, .int .i64 t336, .int .i64 t337] 39 (0, 0)) (by (with_reducible repeat (first | refine blk_drewN ?_ _ | refine blk_drew ?_ | refine blk_alloc ?_ _)); refine blk_far ?_ NB340_347.out _; (with_reducible repeat (first | refine blk_drewN ?_ _ | refine blk_drew ?_ | refine blk_alloc ?_ _)); refine blk_far ?_ NB340_347.out _; (with_reducible repeat (first | refine blk_drewN ?_ _ | refine blk_drew ?_ | refine blk_alloc ?_ _)); refine blk_far ?_ NB340_347.out _; (with_reducible repeat (first | refine blk_drewN ?_ _ | refine blk_drew ?_ | refine blk_alloc ?_ _)); refine blk_far ?_ NB340_347.out _; (with_reducible repeat (first | refine blk_drewN ?_ _ | refine blk_drew ?_ | refine blk_alloc ?_ _)); refine blk_far ?_ NB340_347.out _; (with_reducible repeat (first | refine blk_drewN ?_ _ | refine blk_drew ?_ | refine blk_alloc ?_ _)); refine blk_far ?_ NB340_347.out _; (with_reducible repeat (first | refine blk_drewN ?_ _ | refine blk_drew ?_ | refine blk_alloc ?_ _)); exact BK340.out)) : gb340 ≠ gb348)); have n11_ := Aside0.mk ((by rw [hg]; exact Nat.ne_of_gt (blk_lt (g := gb340) (o := .cells #[.int .i64 t335, .int .i64 t336, .int .i64 t337] 39 (0, 0)) (by (with_reducible repeat (first | refine blk_drewN ?_ _ | refine blk_drew ?_ | refine blk_alloc ?_ _)); refine blk_far ?_ NB340_347.out _; (with_reducible repeat (first | refine blk_drewN ?_ _ | refine blk_drew ?_ | refine blk_alloc ?_ _)); refine blk_far ?_ NB340_347.out _; (with_reducible repeat (first | refine blk_drewN ?_ _ | refine blk_drew ?_ | refine blk_alloc ?_ _)); refine blk_far ?_ NB340_347.out _; (with_reducible repeat (first | refine blk_drewN ?_ _ | refine blk_drew ?_ | refine blk_alloc ?_ _)); refine blk_far ?_ NB340_347.out _; (with_reducible repeat (first | refine blk_drewN ?_ _ | refine blk_drew ?_ | refine blk_alloc ?_ _)); refine blk_far ?_ NB340_347.out _; (with_reducible repeat (first | refine blk_drewN ?_ _ | refine blk_drew ?_ | refine blk_alloc ?_ _)); refine blk_far ?_ NB340_347.out _; (with_reducible repeat (first | refine blk_drewN ?_ _ | refine blk_drew ?_ | refine blk_alloc ?_ _)); exact BK340.out)) : gb348 ≠ gb340)); have n12_ := Aside0.mk ((by rw [hg]; exact Nat.ne_of_lt (blk_lt (g := gb347) (o := .cells #[.int .i64 t341, .int .i64 t342, .int .i64 t343, .int .i64 t344, .int .i64 t345, .int .i64 t346] 36 (0, 0)) (by (with_reducible repeat (first | refine blk_drewN ?_ _ | refine blk_drew ?_ | refine blk_alloc ?_ _)); refine blk_put (cs := #[.int .i64 t341, .int .i64 t342, .int .i64 t343, .int .i64 t344, .int .i64 t345, .int .i64 0]) ?_ 5 _ rfl; (with_reducible repeat (first | refine blk_drewN ?_ _ | refine blk_drew ?_ | refine blk_alloc ?_ _)); refine blk_put (cs := #[.int .i64 t341, .int .i64 t342, .int .i64 t343, .int .i64 t344, .int .i64 0, .int .i64 0]) ?_ 4 _ rfl; (with_reducible repeat (first | refine blk_drewN ?_ _ | refine blk_drew ?_ | refine blk_alloc ?_ _)); refine blk_put (cs := #[.int .i64 t341, .int .i64 t342, .int .i64 t343, .int .i64 0, .int .i64 0, .int .i64 0]) ?_ 3 _ rfl; (with_reducible repeat (first | refine blk_drewN ?_ _ | refine blk_drew ?_ | refine blk_alloc ?_ _)); refine blk_put (cs := #[.int .i64 t341, .int .i64 t342, .int .i64 0, .int .i64 0, .int .i64 0, .int .i64 0]) ?_ 2 _ rfl; (with_reducible repeat (first | refine blk_drewN ?_ _ | refine blk_drew ?_ | refine blk_alloc ?_ _)); refine blk_put (cs := #[.int .i64 t341, .int .i64 0, .int .i64 0, .int .i64 0, .int .i64 0, .int .i64 0]) ?_ 1 _ rfl; (with_reducible repeat (first | refine blk_drewN ?_ _ | refine blk_drew ?_ | refine blk_alloc ?_ _)); refine blk_put (cs := #[.int .i64 0, .int .i64 0, .int .i64 0, .int .i64 0, .int .i64 0, .int .i64 0]) ?_ 0 _ rfl; (with_reducible repeat (first | refine blk_drewN ?_ _ | refine blk_drew ?_ | refine blk_alloc ?_ _)); exact BK347.out)) : gb347 ≠ gb348)); have n13_ := Aside0.mk ((by rw [hg]; exact Nat.ne_of_gt (blk_lt (g := gb347) (o := .cells #[.int .i64 t341, .int .i64 t342, .int .i64 t343, .int .i64 t344, .int .i64 t345, .int .i64 t346] 36 (0, 0)) (by (with_reducible repeat (first | refine blk_drewN ?_ _ | refine blk_drew ?_ | refine blk_alloc ?_ _)); refine blk_put (cs := #[.int .i64 t341, .int .i64 t342, .int .i64 t343, .int .i64 t344, .int .i64 t345, .int .i64 0]) ?_ 5 _ rfl; (with_reducible repeat (first | refine blk_drewN ?_ _ | refine blk_drew ?_ | refine blk_alloc ?_ _)); refine blk_put (cs := #[.int .i64 t341, .int .i64 t342, .int .i64 t343, .int .i64 t344, .int .i64 0, .int .i64 0]) ?_ 4 _ rfl; (with_reducible repeat (first | refine blk_drewN ?_ _ | refine blk_drew ?_ | refine blk_alloc ?_ _)); refine blk_put (cs := #[.int .i64 t341, .int .i64 t342, .int .i64 t343, .int .i64 0, .int .i64 0, .int .i64 0]) ?_ 3 _ rfl; (with_reducible repeat (first | refine blk_drewN ?_ _ | refine blk_drew ?_ | refine blk_alloc ?_ _)); refine blk_put (cs := #[.int .i64 t341, .int .i64 t342, .int .i64 0, .int .i64 0, .int .i64 0, .int .i64 0]) ?_ 2 _ rfl; (with_reducible repeat (first | refine blk_drewN ?_ _ | refine blk_drew ?_ | refine blk_alloc ?_ _)); refine blk_put (cs := #[.int .i64 t341, .int .i64 0, .int .i64 0, .int .i64 0, .int .i64 0, .int .i64 0]) ?_ 1 _ rfl; (with_reducible repeat (first | refine blk_drewN ?_ _ | refine blk_drew ?_ | refine blk_alloc ?_ _)); refine blk_put (cs := #[.int .i64 0, .int .i64 0, .int .i64 0, .int .i64 0, .int .i64 0, .int .i64 0]) ?_ 0 _ rfl; (with_reducible repeat (first | refine blk_drewN ?_ _ | refine blk_drew ?_ | refine blk_alloc ?_ _)); exact BK347.out)) : gb348 ≠ gb347)); have n14_ := Aside0.mk ((by rw [hg]; exact Nat.ne_of_lt (IsS70.lt (show IsS70 w _ g328 t338 t339 from by repeat (first | (with_reducible first | exact HI328.out | apply IsS70.alloc | apply IsS70.drewN | apply IsS70.drew | apply IsS70.set_0 | apply IsS70.set_1 | apply IsS70.farb NB328_334.out | apply IsS70.farb NB328_340.out | apply IsS70.farb NB328_347.out) | exact HI328.out))) : g328 ≠ gb348)); have n15_ := Aside0.mk ((by rw [hg]; exact Nat.ne_of_gt (IsS70.lt (show IsS70 w _ g328 t338 t339 from by repeat (first | (with_reducible first | exact HI328.out | apply IsS70.alloc | apply IsS70.drewN | apply IsS70.drew | apply IsS70.set_0 | apply IsS70.set_1 | apply IsS70.farb NB328_334.out | apply IsS70.farb NB328_340.out | apply IsS70.farb NB328_347.out) | exact HI328.out))) : gb348 ≠ g328)); clear HI328; clear BK334; clear BK340; clear BK347; clear HB; have HI328 := n0_; have BK334 := n1_; have BK340 := n2_; have BK347 := n3_; have HB := n4_; have BK348 := n5_; have GW348 := n6_; have GE348 := n7_; have NB334_348 := n8_; have NB348_334 := n9_; have NB340_348 := n10_; have NB348_340 := n11_; have NB347_348 := n12_; have NB348_347 := n13_; have NB328_348 := n14_; have NB348_328 := n15_; clear n0_ n1_ n2_ n3_ n4_ n5_ n6_ n7_ n8_ n9_ n10_ n11_ n12_ n13_ n14_ n15_; clear hb hbox hg; have hnb30 := NB348_334.out; have hnc30 := NB334_348.out; have hnb31 := NB348_340.out; have hnc31 := NB340_348.out; have hnb32 := NB348_347.out; have hnc32 := NB347_348.out; have hnb33 := NB348_328.out; have hnc33 := NB328_348.out; have hcz34_0 := blk_cells2 (w := w29) (g := gb348) BK348.out; have hfz34_0 := blk_frozen BK348.out; have hcz35_0 := blk_cells3 (w := w29) (g := gb334) BK334.out; have hfz35_0 := blk_frozen BK334.out; have hcz36_0 := blk_cells3 (w := w29) (g := gb340) BK340.out; have hfz36_0 := blk_frozen BK340.out) | (go_at_call 9; (with_reducible refine (guard_Stop.calls k 120 58 t349 _ A7.out).mono ?_); rintro e w' ⟨rfl, ⟨nd, rfl⟩⟩; have hcz37_0 := blk_cells6 (w := w29) (g := gb347) BK347.out; have hfz37_0 := blk_frozen BK347.out) | (go_at_call 19; (with_reducible refine (guard_Slow.calls k 64 (-64) 0 true _ A10.out).mono ?_); rintro e w38 ⟨rfl, hb⟩; have n0_ := Aside0.mk (IsS70.below (show IsS70 w _ g328 t338 t339 from by repeat (first | (with_reducible first | exact HI328.out | apply IsS70.alloc | apply IsS70.drewN | apply IsS70.drew | apply IsS70.set_0 | apply IsS70.set_1 | apply IsS70.farb NB328_334.out | apply IsS70.farb NB328_340.out | apply IsS70.farb NB328_347.out | apply IsS70.farb NB328_348.out) | exact HI328.out)) hb); have n1_ := Aside0.mk (blk_below (g := gb334) (o := .cells #[.int .i64 t329, .int .i64 t330, .int .i64 t331] 39 (0, 0)) (by (with_reducible repeat (first | refine blk_drewN ?_ _ | refine blk_drew ?_ | refine blk_alloc ?_ _)); refine blk_far ?_ NB334_348.out _; (with_reducible repeat (first | refine blk_drewN ?_ _ | refine blk_drew ?_ | refine blk_alloc ?_ _)); refine blk_far ?_ NB334_348.out _; (with_reducible repeat (first | refine blk_drewN ?_ _ | refine blk_drew ?_ | refine blk_alloc ?_ _)); exact BK334.out) hb); have n2_ := Aside0.mk (blk_below (g := gb340) (o := .cells #[.int .i64 t335, .int .i64 t336, .int .i64 t337] 39 (0, 0)) (by (with_reducible repeat (first | refine blk_drewN ?_ _ | refine blk_drew ?_ | refine blk_alloc ?_ _)); refine blk_far ?_ NB340_348.out _; (with_reducible repeat (first | refine blk_drewN ?_ _ | refine blk_drew ?_ | refine blk_alloc ?_ _)); refine blk_far ?_ NB340_348.out _; (with_reducible repeat (first | refine blk_drewN ?_ _ | refine blk_drew ?_ | refine blk_alloc ?_ _)); exact BK340.out) hb); have n3_ := Aside0.mk (blk_below (g := gb347) (o := .cells #[.int .i64 t341, .int .i64 t342, .int .i64 t343, .int .i64 t344, .int .i64 t345, .int .i64 t346] 36 (0, 0)) (by (with_reducible repeat (first | refine blk_drewN ?_ _ | refine blk_drew ?_ | refine blk_alloc ?_ _)); refine blk_far ?_ NB347_348.out _; (with_reducible repeat (first | refine blk_drewN ?_ _ | refine blk_drew ?_ | refine blk_alloc ?_ _)); refine blk_far ?_ NB347_348.out _; (with_reducible repeat (first | refine blk_drewN ?_ _ | refine blk_drew ?_ | refine blk_alloc ?_ _)); exact BK347.out) hb); have n4_ := Aside0.mk (blk_below (g := gb348) (o := .cells #[.int .i64 (-1), .int .i64 1] 26 (0, 0)) (by (with_reducible repeat (first | refine blk_drewN ?_ _ | refine blk_drew ?_ | refine blk_alloc ?_ _)); refine blk_put (cs := #[.int .i64 (-1), .int .i64 0]) ?_ 1 _ rfl; (with_reducible repeat (first | refine blk_drewN ?_ _ | refine blk_drew ?_ | refine blk_alloc ?_ _)); refine blk_put (cs := #[.int .i64 0, .int .i64 0]) ?_ 0 _ rfl; (with_reducible repeat (first | refine blk_drewN ?_ _ | refine blk_drew ?_ | refine blk_alloc ?_ _)); exact BK348.out) hb); have n5_ := Aside0.mk (below_step (by repeat (first | (with_reducible first | exact HB.out | apply below_alloc | apply pw_below_drewN | apply below_drew1 | refine below_set ?_ (IsS70.ge HI328.out) | refine below_set ?_ GE334.out | refine below_set ?_ GE340.out | refine below_set ?_ GE347.out | refine below_set ?_ GE348.out) | exact HB.out)) hb); clear HI328; clear BK334; clear BK340; clear BK347; clear BK348; clear HB; have HI328 := n0_; have BK334 := n1_; have BK340 := n2_; have BK347 := n3_; have BK348 := n4_; have HB := n5_; clear n0_ n1_ n2_ n3_ n4_ n5_; (try clear hb); (try clear hb2); (try clear hk); (try clear hi); clear A10) | (go_at_call 19; (with_reducible refine (guard_Slow.calls k 65 0 0 t351 _ A12.out).mono ?_); rintro e w39 ⟨rfl, hb⟩; have n0_ := Aside0.mk (IsS70.below (by repeat (first | (with_reducible first | exact HI328.out | apply IsS70.alloc | apply IsS70.drewN | apply IsS70.drew | apply IsS70.set_0 | apply IsS70.set_1 | apply IsS70.farb NB328_334.out | apply IsS70.farb NB328_340.out | apply IsS70.farb NB328_347.out | apply IsS70.farb NB328_348.out) | exact HI328.out)) hb); have n1_ := Aside0.mk (blk_below (g := gb334) (o := .cells #[.int .i64 t329, .int .i64 t330, .int .i64 t331] 39 (0, 0)) (by (with_reducible repeat (first | refine blk_drewN ?_ _ | refine blk_drew ?_ | refine blk_alloc ?_ _)); exact BK334.out) hb); have n2_ := Aside0.mk (blk_below (g := gb340) (o := .cells #[.int .i64 t335, .int .i64 t336, .int .i64 t337] 39 (0, 0)) (by (with_reducible repeat (first | refine blk_drewN ?_ _ | refine blk_drew ?_ | refine blk_alloc ?_ _)); exact BK340.out) hb); have n3_ := Aside0.mk (blk_below (g := gb347) (o := .cells #[.int .i64 t341, .int .i64 t342, .int .i64 t343, .int .i64 t344, .int .i64 t345, .int .i64 t346] 36 (0, 0)) (by (with_reducible repeat (first | refine blk_drewN ?_ _ | refine blk_drew ?_ | refine blk_alloc ?_ _)); exact BK347.out) hb); have n4_ := Aside0.mk (blk_below (g := gb348) (o := .cells #[.int .i64 (-1), .int .i64 1] 26 (0, 0)) (by (with_reducible repeat (first | refine blk_drewN ?_ _ | refine blk_drew ?_ | refine blk_alloc ?_ _)); exact BK348.out) hb); have n5_ := Aside0.mk (below_step (by repeat (first | (with_reducible first | exact HB.out | apply below_alloc | apply pw_below_drewN | apply below_drew1 | refine below_set ?_ (IsS70.ge HI328.out) | refine below_set ?_ GE334.out | refine below_set ?_ GE340.out | refine below_set ?_ GE347.out | refine below_set ?_ GE348.out) | exact HB.out)) hb); clear HI328; clear BK334; clear BK340; clear BK347; clear BK348; clear HB; have HI328 := n0_; have BK334 := n1_; have BK340 := n2_; have BK347 := n3_; have BK348 := n4_; have HB := n5_; clear n0_ n1_ n2_ n3_ n4_ n5_; (try clear hb); (try clear hb2); (try clear hk); (try clear hi); clear A12))
            go_ret
            exact ⟨by first | rfl | (simp [errW_none, errW_some] <;> rfl) | (simp [*, errW_none, errW_some] <;> rfl), by repeat (first | (with_reducible first | exact HB.out | apply below_alloc | apply pw_below_drewN | apply below_drew1 | refine below_set ?_ (IsS70.ge HI328.out) | refine below_set ?_ GE334.out | refine below_set ?_ GE340.out | refine below_set ?_ GE347.out | refine below_set ?_ GE348.out) | exact HB.out)⟩
          · replace c11 := Bool.eq_false_iff.mpr c11
            subst c11
            have H1 : (none) = some r := by rw [if_neg (show ¬ (false = true) by decide)] at H; exact H
            clear H
            have H := H1
            clear H1
            exact absurd H (by simp)
        · rw [if_neg c9] at H
          exact absurd H (by simp)
      · rw [if_neg c8] at H
        exact absurd H (by simp)
    · rw [if_neg c6] at H
      exact absurd H (by simp)
  · rw [if_neg c5] at H
    exact absurd H (by simp)

/-! ### windhoverlaw18_GuardStops: function 3 -/
def windhoverlaw18_GuardStops.f (k : Nat) (a0 : Int) (a1 : Int) : Option (Bool) := (guard_Stop.f k a0 a1).bind fun t352 => ((windhoverref18_Stop.f k a0 a1).bind fun t353 => (if t352 = t353 then ((windhoverlaw18_awake.f k).bind fun t354 => (some t354)) else (none)))
theorem windhoverlaw18_GuardStops.mono : ∀ a0 a1 k, LeO (windhoverlaw18_GuardStops.f k a0 a1) (windhoverlaw18_GuardStops.f (k + 1) a0 a1) := by
  intro a0 a1 k
  unfold windhoverlaw18_GuardStops.f
  repeat' first
      | (with_reducible exact guard_Stop.mono _ _ _)
      | (with_reducible exact windhoverlaw18_awake.mono _)
      | (with_reducible exact windhoverref18_Stop.mono _ _ _)
      | (with_reducible exact LeO.refl _)
      | (with_reducible exact LeO.none _)
      | (with_reducible refine LeO.ite ?_ ?_)
      | (with_reducible refine LeO.bind ?_ (fun _ => ?_))
      | exact guard_Stop.mono _ _ _
      | exact windhoverlaw18_awake.mono _
      | exact windhoverref18_Stop.mono _ _ _
      | exact LeO.none _
      | refine LeO.ite ?_ ?_
      | refine LeO.bind ?_ (fun _ => ?_)
set_option maxHeartbeats 8000000 in
set_option maxRecDepth 100000 in
theorem windhoverlaw18_GuardStops.calls (k : Nat) (a0 : Int) (a1 : Int) (r : Bool) (w : World) (h : windhoverlaw18_GuardStops.f k a0 a1 = some r) :
    Calls Try.prog 3 #[.int .i64 a0, .int .i64 a1] w fun e w' => e = .returned (.bool r) ∧ Below w.heap.size w w' := by
  have HB := Aside0.mk (Below.refl w.heap.size w)
  have H : ((guard_Stop.f k a0 a1).bind fun t352 => ((windhoverref18_Stop.f k a0 a1).bind fun t353 => (if t352 = t353 then ((windhoverlaw18_awake.f k).bind fun t354 => (some t354)) else (none)))) = some r := h
  clear h
  replace H := Option.bind_eq_some_iff.mp H
  obtain ⟨t352, A30, H⟩ := H
  replace H : ((windhoverref18_Stop.f k a0 a1).bind fun t353 => (if t352 = t353 then ((windhoverlaw18_awake.f k).bind fun t354 => (some t354)) else (none))) = some r := H
  have A3 := Aside0.mk A30
  clear A30
  replace H := Option.bind_eq_some_iff.mp H
  obtain ⟨t353, A40, H⟩ := H
  replace H : (if t352 = t353 then ((windhoverlaw18_awake.f k).bind fun t354 => (some t354)) else (none)) = some r := H
  have A4 := Aside0.mk A40
  clear A40
  by_cases c5 : t352 = t353
  · rw [if_pos c5] at H
    have c5b0 : (t352 == t353) = true := beq_iff_eq.mpr c5
    have c5b1 : (t352 != t353) = false := bne_eq_false_iff_eq.mpr c5
    clear c5
    replace H := Option.bind_eq_some_iff.mp H
    obtain ⟨t354, A60, H⟩ := H
    replace H : (some t354) = some r := H
    have A6 := Aside0.mk A60
    clear A60
    obtain rfl := Option.some.inj H
    go_enter Try.func3, Try.ntmps3
    go_wp2_with (first | ((with_reducible refine gate_callee (f := 9) rfl ?_); refine goesL_ (some 7) rfl rfl Try.func9 (by kernel_rfl) rfl #[.int .i64 a0, .int .i64 a1] rfl (by (try simp only [List.map_toArray, List.map_cons, List.map_nil]); first | done | rfl | (simp only [List.length_drop, List.length_take]; rfl)) ?_; (with_reducible refine (guard_Stop.calls k a0 a1 t352 _ A3.out).mono ?_); rintro e w' ⟨rfl, ⟨nd, rfl⟩⟩; refine ⟨_, rfl, ?_⟩) | ((with_reducible refine gate_callee (f := 10) rfl ?_); refine goesL_ (some 10) rfl rfl Try.func10 (by kernel_rfl) rfl #[.int .i64 a0, .int .i64 a1] rfl (by (try simp only [List.map_toArray, List.map_cons, List.map_nil]); first | done | rfl | (simp only [List.length_drop, List.length_take]; rfl)) ?_; (with_reducible refine (windhoverref18_Stop.calls k a0 a1 t353 _ A4.out).mono ?_); rintro e w7 ⟨rfl, hb⟩; refine ⟨_, rfl, ?_⟩; have n0_ := Aside0.mk (below_step (by repeat (first | (with_reducible first | exact HB.out | apply below_alloc | apply pw_below_drewN | apply below_drew1) | exact HB.out)) hb); clear HB; have HB := n0_; clear n0_; (try clear hb); (try clear hb2); (try clear hk); (try clear hi)) | (go_at_call 11; (with_reducible refine (windhoverlaw18_awake.calls k  t354 _ A6.out).mono ?_); rintro e w8 ⟨rfl, hb⟩; have n0_ := Aside0.mk (below_step (by repeat (first | (with_reducible first | exact HB.out | apply below_alloc | apply pw_below_drewN | apply below_drew1) | exact HB.out)) hb); clear HB; have HB := n0_; clear n0_; (try clear hb); (try clear hb2); (try clear hk); (try clear hi)))
    go_ret
    exact ⟨by first | rfl | (simp [errW_none, errW_some] <;> rfl) | (simp [*, errW_none, errW_some] <;> rfl), by repeat (first | (with_reducible first | exact HB.out | apply below_alloc | apply pw_below_drewN | apply below_drew1) | exact HB.out)⟩
  · rw [if_neg c5] at H
    exact absurd H (by simp)

/-- THE ONE PURE STATEMENT of windhoverlaw18_GuardStops: yours. -/
def windhoverlaw18_GuardStops.Pure : Prop := ∀ (a0 : Int) (a1 : Int), (Lit.int .i64 a0).wf = true → (Lit.int .i64 a1).wf = true → ∃ k, windhoverlaw18_GuardStops.f k a0 a1 = some true
theorem windhoverlaw18_GuardStops.walk (P : windhoverlaw18_GuardStops.Pure) (a0 : Int) (a1 : Int) (w : World) (w0 : (Lit.int .i64 a0).wf = true) (w1 : (Lit.int .i64 a1).wf = true) :
    Calls Try.prog 3 #[.int .i64 a0, .int .i64 a1] w fun e w' => e = .returned (.bool true) ∧ Below w.heap.size w w' := by
  obtain ⟨k, h⟩ := P a0 a1 w0 w1
  refine (windhoverlaw18_GuardStops.calls k a0 a1 true w h).mono ?_
  rintro e w' ⟨rfl, hd⟩
  exact ⟨rfl, hd⟩

end Go.Proofs.Ytfpggoiopjlkiaa.PGuardStops
