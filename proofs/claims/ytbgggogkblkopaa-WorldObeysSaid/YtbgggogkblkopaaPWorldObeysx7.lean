-- WRITTEN BY wip/tools/aprint.py of this claim's repository over the kit's words: not typed by hand
import Derived.Test.YtbgggogkblkopaaPWorldObeysx0
import Derived.Test.YtbgggogkblkopaaPWorldObeysx3
import Derived.Test.YtbgggogkblkopaaPWorldObeysx6
namespace Go.Proofs.Ytbgggogkblkopaa.PWorldObeys
open Go.RowKit Go.Proofs.YtbgggogkblkopaaW.PrintWords Go.Proofs.YtbgggogkblkopaaW.PrintLast Go.Proofs.YtbgggogkblkopaaW.PrintMore
attribute [local go_sem] max2_int min2_int max_two min_two max_three min_three max_four min_four   -- for this text's walks alone
set_option linter.unusedVariables false
set_option linter.unusedSimpArgs false

/-! ### mixer_Mix: function 15 -/
mutual
def mixer_Mix.j0 : Nat → Int → Bool → Int → Int → Int → Int → Int → Int → Int → Int → Int → Int → Int → Int → Option (Int × Int × Int × Int × Int × Int × Int × Int × Int)
  | 0, _, _, _, _, _, _, _, _, _, _, _, _, _, _ => none
  | k + 1, x1, x21, x205000, x205001, x205002, x205003, x207000, x207001, x207002, x207003, x207004, x207005, x207006, x207007 => if x21 = true then (some (x207000, x207001, x207002, x207003, x207004, x207005, x207006, x207007, 1)) else ((mixer_Limit.f x205000 x205001 x205002 x205003).bind fun bt207 => ((mixer_signs.f).bind fun bt212 => (mixer_Mix.l0 k x1 0 bt207.1 bt207.2.1 bt207.2.2.1 bt207.2.2.2 x207000 x207001 x207002 x207003 x207004 x207005 x207006 x207007 0 0 0 0 bt212.1 bt212.2.1 bt212.2.2.1 bt212.2.2.2.1 bt212.2.2.2.2.1 bt212.2.2.2.2.2.1 bt212.2.2.2.2.2.2.1 bt212.2.2.2.2.2.2.2)))
def mixer_Mix.l0 : Nat → Int → Int → Int → Int → Int → Int → Int → Int → Int → Int → Int → Int → Int → Int → Int → Int → Int → Int → Int → Int → Int → Int → Int → Int → Int → Int → Option (Int × Int × Int × Int × Int × Int × Int × Int × Int)
  | 0, _, _, _, _, _, _, _, _, _, _, _, _, _, _, _, _, _, _, _, _, _, _, _, _, _, _ => none
  | k + 1, x1, x26, x205000, x205001, x205002, x205003, x207000, x207001, x207002, x207003, x207004, x207005, x207006, x207007, x212000, x212001, x212002, x212003, x526000, x526001, x526002, x526003, x526004, x526005, x526006, x526007 => if x26 < 4 then (if x26 = 0 then (mixer_Mix.l0 k x1 1 x205000 x205001 x205002 x205003 x207000 x207001 x207002 x207003 x207004 x207005 x207006 x207007 (wrap64 ((wrap64 (x205000 + (wrap64 (x526000 * x205001)))) + (wrap64 (x526001 * x205002)))) x212001 x212002 x212003 x526000 x526001 x526002 x526003 x526004 x526005 x526006 x526007) else (if x26 = 1 then (mixer_Mix.l0 k x1 2 x205000 x205001 x205002 x205003 x207000 x207001 x207002 x207003 x207004 x207005 x207006 x207007 x212000 (wrap64 ((wrap64 (x205000 + (wrap64 (x526002 * x205001)))) + (wrap64 (x526003 * x205002)))) x212002 x212003 x526000 x526001 x526002 x526003 x526004 x526005 x526006 x526007) else (if x26 = 2 then (mixer_Mix.l0 k x1 3 x205000 x205001 x205002 x205003 x207000 x207001 x207002 x207003 x207004 x207005 x207006 x207007 x212000 x212001 (wrap64 ((wrap64 (x205000 + (wrap64 (x526004 * x205001)))) + (wrap64 (x526005 * x205002)))) x212003 x526000 x526001 x526002 x526003 x526004 x526005 x526006 x526007) else (if x26 = 3 then (mixer_Mix.l0 k x1 4 x205000 x205001 x205002 x205003 x207000 x207001 x207002 x207003 x207004 x207005 x207006 x207007 x212000 x212001 x212002 (wrap64 ((wrap64 (x205000 + (wrap64 (x526006 * x205001)))) + (wrap64 (x526007 * x205002)))) x526000 x526001 x526002 x526003 x526004 x526005 x526006 x526007) else (none))))) else (if x1 > 0 then (if x1 = 1 then ((mixer_floor.f (wrap64 ((wrap64 (4 * x205003)) - (wrap64 (x207000 - x212000)))) 3).bind fun t224 => (mixer_Mix.j2 k 0 t224 x207000 x212000 x207002 x207003 x207004 x207005 x207006 x207007 x212000 x212001 x212002 x212003)) else (if x1 = 2 then ((mixer_floor.f (wrap64 ((wrap64 (4 * x205003)) - (wrap64 (x212000 - x207001)))) 3).bind fun t225 => (mixer_Mix.j2 k 0 t225 x212000 x207001 x207002 x207003 x207004 x207005 x207006 x207007 x212000 x212001 x212002 x212003)) else (if x1 = 3 then ((mixer_floor.f (wrap64 ((wrap64 (4 * x205003)) - (wrap64 (x207002 - x212001)))) 3).bind fun t226 => (mixer_Mix.j2 k 1 t226 x207000 x207001 x207002 x212001 x207004 x207005 x207006 x207007 x212000 x212001 x212002 x212003)) else (if x1 = 4 then ((mixer_floor.f (wrap64 ((wrap64 (4 * x205003)) - (wrap64 (x212001 - x207003)))) 3).bind fun t227 => (mixer_Mix.j2 k 1 t227 x207000 x207001 x212001 x207003 x207004 x207005 x207006 x207007 x212000 x212001 x212002 x212003)) else (if x1 = 5 then ((mixer_floor.f (wrap64 ((wrap64 (4 * x205003)) - (wrap64 (x207004 - x212002)))) 3).bind fun t228 => (mixer_Mix.j2 k 2 t228 x207000 x207001 x207002 x207003 x207004 x212002 x207006 x207007 x212000 x212001 x212002 x212003)) else (if x1 = 6 then ((mixer_floor.f (wrap64 ((wrap64 (4 * x205003)) - (wrap64 (x212002 - x207005)))) 3).bind fun t229 => (mixer_Mix.j2 k 2 t229 x207000 x207001 x207002 x207003 x212002 x207005 x207006 x207007 x212000 x212001 x212002 x212003)) else (if x1 = 7 then ((mixer_floor.f (wrap64 ((wrap64 (4 * x205003)) - (wrap64 (x207006 - x212003)))) 3).bind fun t230 => (mixer_Mix.j2 k 3 t230 x207000 x207001 x207002 x207003 x207004 x207005 x207006 x212003 x212000 x212001 x212002 x212003)) else (if x1 = 8 then ((mixer_floor.f (wrap64 ((wrap64 (4 * x205003)) - (wrap64 (x212003 - x207007)))) 3).bind fun t231 => (mixer_Mix.j2 k 3 t231 x207000 x207001 x207002 x207003 x207004 x207005 x212003 x207007 x212000 x212001 x212002 x212003)) else (none))))))))) else (mixer_Mix.j2 k (-1) x205003 x207000 x207001 x207002 x207003 x207004 x207005 x207006 x207007 x212000 x212001 x212002 x212003))
def mixer_Mix.j2 : Nat → Int → Int → Int → Int → Int → Int → Int → Int → Int → Int → Int → Int → Int → Int → Option (Int × Int × Int × Int × Int × Int × Int × Int × Int)
  | 0, _, _, _, _, _, _, _, _, _, _, _, _, _, _ => none
  | k + 1, x10, x11, x207000, x207001, x207002, x207003, x207004, x207005, x207006, x207007, x212000, x212001, x212002, x212003 => mixer_Mix.l1 k x10 x11 0 x207000 x207001 x207002 x207003 x207004 x207005 x207006 x207007 x212000 x212001 x212002 x212003
def mixer_Mix.l1 : Nat → Int → Int → Int → Int → Int → Int → Int → Int → Int → Int → Int → Int → Int → Int → Int → Option (Int × Int × Int × Int × Int × Int × Int × Int × Int)
  | 0, _, _, _, _, _, _, _, _, _, _, _, _, _, _, _ => none
  | k + 1, x10, x11, x78, x207000, x207001, x207002, x207003, x207004, x207005, x207006, x207007, x578000, x578001, x578002, x578003 => if x78 < 4 then (if x78 = 0 then (if 0 = x10 then (mixer_Mix.l1 k x10 x11 1 x207000 x207001 x207002 x207003 x207004 x207005 x207006 x207007 x578000 x578001 x578002 x578003) else ((fix_Clamp.f x11 (wrap64 (-x578000)) x578000).bind fun t232 => ((mixer_floor.f (wrap64 (x578000 + t232)) 2).bind fun t233 => (mixer_Mix.l1 k x10 x11 1 t233 (wrap64 (x578000 - t233)) x207002 x207003 x207004 x207005 x207006 x207007 x578000 x578001 x578002 x578003)))) else (if x78 = 1 then (if 1 = x10 then (mixer_Mix.l1 k x10 x11 2 x207000 x207001 x207002 x207003 x207004 x207005 x207006 x207007 x578000 x578001 x578002 x578003) else ((fix_Clamp.f x11 (wrap64 (-x578001)) x578001).bind fun t234 => ((mixer_floor.f (wrap64 (x578001 + t234)) 2).bind fun t235 => (mixer_Mix.l1 k x10 x11 2 x207000 x207001 t235 (wrap64 (x578001 - t235)) x207004 x207005 x207006 x207007 x578000 x578001 x578002 x578003)))) else (if x78 = 2 then (if 2 = x10 then (mixer_Mix.l1 k x10 x11 3 x207000 x207001 x207002 x207003 x207004 x207005 x207006 x207007 x578000 x578001 x578002 x578003) else ((fix_Clamp.f x11 (wrap64 (-x578002)) x578002).bind fun t236 => ((mixer_floor.f (wrap64 (x578002 + t236)) 2).bind fun t237 => (mixer_Mix.l1 k x10 x11 3 x207000 x207001 x207002 x207003 t237 (wrap64 (x578002 - t237)) x207006 x207007 x578000 x578001 x578002 x578003)))) else (if x78 = 3 then (if 3 = x10 then (mixer_Mix.l1 k x10 x11 4 x207000 x207001 x207002 x207003 x207004 x207005 x207006 x207007 x578000 x578001 x578002 x578003) else ((fix_Clamp.f x11 (wrap64 (-x578003)) x578003).bind fun t238 => ((mixer_floor.f (wrap64 (x578003 + t238)) 2).bind fun t239 => (mixer_Mix.l1 k x10 x11 4 x207000 x207001 x207002 x207003 x207004 x207005 t239 (wrap64 (x578003 - t239)) x578000 x578001 x578002 x578003)))) else (none))))) else (some (x207000, x207001, x207002, x207003, x207004, x207005, x207006, x207007, 0))
end
def mixer_Mix.f (k : Nat) (a0_0 : Int) (a0_1 : Int) (a0_2 : Int) (a0_3 : Int) (a1 : Int) : Option (Int × Int × Int × Int × Int × Int × Int × Int × Int) := if a1 < 0 then (mixer_Mix.j0 k a1 true a0_0 a0_1 a0_2 a0_3 0 0 0 0 0 0 0 0) else (mixer_Mix.j0 k a1 (decide (a1 > 8)) a0_0 a0_1 a0_2 a0_3 0 0 0 0 0 0 0 0)
theorem mixer_Mix.mono_l : ∀ k, (∀ y0 y1 y2 y3 y4 y5 y6 y7 y8 y9 y10 y11 y12 y13, LeO (mixer_Mix.j0 k y0 y1 y2 y3 y4 y5 y6 y7 y8 y9 y10 y11 y12 y13) (mixer_Mix.j0 (k + 1) y0 y1 y2 y3 y4 y5 y6 y7 y8 y9 y10 y11 y12 y13)) ∧ (∀ y0 y1 y2 y3 y4 y5 y6 y7 y8 y9 y10 y11 y12 y13 y14 y15 y16 y17 y18 y19 y20 y21 y22 y23 y24 y25, LeO (mixer_Mix.l0 k y0 y1 y2 y3 y4 y5 y6 y7 y8 y9 y10 y11 y12 y13 y14 y15 y16 y17 y18 y19 y20 y21 y22 y23 y24 y25) (mixer_Mix.l0 (k + 1) y0 y1 y2 y3 y4 y5 y6 y7 y8 y9 y10 y11 y12 y13 y14 y15 y16 y17 y18 y19 y20 y21 y22 y23 y24 y25)) ∧ (∀ y0 y1 y2 y3 y4 y5 y6 y7 y8 y9 y10 y11 y12 y13, LeO (mixer_Mix.j2 k y0 y1 y2 y3 y4 y5 y6 y7 y8 y9 y10 y11 y12 y13) (mixer_Mix.j2 (k + 1) y0 y1 y2 y3 y4 y5 y6 y7 y8 y9 y10 y11 y12 y13)) ∧ (∀ y0 y1 y2 y3 y4 y5 y6 y7 y8 y9 y10 y11 y12 y13 y14, LeO (mixer_Mix.l1 k y0 y1 y2 y3 y4 y5 y6 y7 y8 y9 y10 y11 y12 y13 y14) (mixer_Mix.l1 (k + 1) y0 y1 y2 y3 y4 y5 y6 y7 y8 y9 y10 y11 y12 y13 y14))
  | 0 => ⟨fun _ _ _ _ _ _ _ _ _ _ _ _ _ _ r h => by simp [mixer_Mix.j0] at h, fun _ _ _ _ _ _ _ _ _ _ _ _ _ _ _ _ _ _ _ _ _ _ _ _ _ _ r h => by simp [mixer_Mix.l0] at h, fun _ _ _ _ _ _ _ _ _ _ _ _ _ _ r h => by simp [mixer_Mix.j2] at h, fun _ _ _ _ _ _ _ _ _ _ _ _ _ _ _ r h => by simp [mixer_Mix.l1] at h⟩
  | k + 1 => by
    obtain ⟨ih0, ih1, ih2, ih3⟩ := mixer_Mix.mono_l k
    refine ⟨?_, ?_, ?_, ?_⟩
    · intro y0 y1 y2 y3 y4 y5 y6 y7 y8 y9 y10 y11 y12 y13
      unfold mixer_Mix.j0
      repeat' first
      | (with_reducible exact ih0 _ _ _ _ _ _ _ _ _ _ _ _ _ _)
      | (with_reducible exact ih1 _ _ _ _ _ _ _ _ _ _ _ _ _ _ _ _ _ _ _ _ _ _ _ _ _ _)
      | (with_reducible exact ih2 _ _ _ _ _ _ _ _ _ _ _ _ _ _)
      | (with_reducible exact ih3 _ _ _ _ _ _ _ _ _ _ _ _ _ _ _)
      | (with_reducible exact LeO.refl _)
      | (with_reducible exact LeO.none _)
      | (with_reducible refine LeO.ite ?_ ?_)
      | (with_reducible refine LeO.bind ?_ (fun _ => ?_))
      | exact ih0 _ _ _ _ _ _ _ _ _ _ _ _ _ _
      | exact ih1 _ _ _ _ _ _ _ _ _ _ _ _ _ _ _ _ _ _ _ _ _ _ _ _ _ _
      | exact ih2 _ _ _ _ _ _ _ _ _ _ _ _ _ _
      | exact ih3 _ _ _ _ _ _ _ _ _ _ _ _ _ _ _
      | exact LeO.none _
      | refine LeO.ite ?_ ?_
      | refine LeO.bind ?_ (fun _ => ?_)
    · intro y0 y1 y2 y3 y4 y5 y6 y7 y8 y9 y10 y11 y12 y13 y14 y15 y16 y17 y18 y19 y20 y21 y22 y23 y24 y25
      unfold mixer_Mix.l0
      repeat' first
      | (with_reducible exact ih0 _ _ _ _ _ _ _ _ _ _ _ _ _ _)
      | (with_reducible exact ih1 _ _ _ _ _ _ _ _ _ _ _ _ _ _ _ _ _ _ _ _ _ _ _ _ _ _)
      | (with_reducible exact ih2 _ _ _ _ _ _ _ _ _ _ _ _ _ _)
      | (with_reducible exact ih3 _ _ _ _ _ _ _ _ _ _ _ _ _ _ _)
      | (with_reducible exact LeO.refl _)
      | (with_reducible exact LeO.none _)
      | (with_reducible refine LeO.ite ?_ ?_)
      | (with_reducible refine LeO.bind ?_ (fun _ => ?_))
      | exact ih0 _ _ _ _ _ _ _ _ _ _ _ _ _ _
      | exact ih1 _ _ _ _ _ _ _ _ _ _ _ _ _ _ _ _ _ _ _ _ _ _ _ _ _ _
      | exact ih2 _ _ _ _ _ _ _ _ _ _ _ _ _ _
      | exact ih3 _ _ _ _ _ _ _ _ _ _ _ _ _ _ _
      | exact LeO.none _
      | refine LeO.ite ?_ ?_
      | refine LeO.bind ?_ (fun _ => ?_)
    · intro y0 y1 y2 y3 y4 y5 y6 y7 y8 y9 y10 y11 y12 y13
      unfold mixer_Mix.j2
      repeat' first
      | (with_reducible exact ih0 _ _ _ _ _ _ _ _ _ _ _ _ _ _)
      | (with_reducible exact ih1 _ _ _ _ _ _ _ _ _ _ _ _ _ _ _ _ _ _ _ _ _ _ _ _ _ _)
      | (with_reducible exact ih2 _ _ _ _ _ _ _ _ _ _ _ _ _ _)
      | (with_reducible exact ih3 _ _ _ _ _ _ _ _ _ _ _ _ _ _ _)
      | (with_reducible exact LeO.refl _)
      | (with_reducible exact LeO.none _)
      | (with_reducible refine LeO.ite ?_ ?_)
      | (with_reducible refine LeO.bind ?_ (fun _ => ?_))
      | exact ih0 _ _ _ _ _ _ _ _ _ _ _ _ _ _
      | exact ih1 _ _ _ _ _ _ _ _ _ _ _ _ _ _ _ _ _ _ _ _ _ _ _ _ _ _
      | exact ih2 _ _ _ _ _ _ _ _ _ _ _ _ _ _
      | exact ih3 _ _ _ _ _ _ _ _ _ _ _ _ _ _ _
      | exact LeO.none _
      | refine LeO.ite ?_ ?_
      | refine LeO.bind ?_ (fun _ => ?_)
    · intro y0 y1 y2 y3 y4 y5 y6 y7 y8 y9 y10 y11 y12 y13 y14
      unfold mixer_Mix.l1
      repeat' first
      | (with_reducible exact ih0 _ _ _ _ _ _ _ _ _ _ _ _ _ _)
      | (with_reducible exact ih1 _ _ _ _ _ _ _ _ _ _ _ _ _ _ _ _ _ _ _ _ _ _ _ _ _ _)
      | (with_reducible exact ih2 _ _ _ _ _ _ _ _ _ _ _ _ _ _)
      | (with_reducible exact ih3 _ _ _ _ _ _ _ _ _ _ _ _ _ _ _)
      | (with_reducible exact LeO.refl _)
      | (with_reducible exact LeO.none _)
      | (with_reducible refine LeO.ite ?_ ?_)
      | (with_reducible refine LeO.bind ?_ (fun _ => ?_))
      | exact ih0 _ _ _ _ _ _ _ _ _ _ _ _ _ _
      | exact ih1 _ _ _ _ _ _ _ _ _ _ _ _ _ _ _ _ _ _ _ _ _ _ _ _ _ _
      | exact ih2 _ _ _ _ _ _ _ _ _ _ _ _ _ _
      | exact ih3 _ _ _ _ _ _ _ _ _ _ _ _ _ _ _
      | exact LeO.none _
      | refine LeO.ite ?_ ?_
      | refine LeO.bind ?_ (fun _ => ?_)
theorem mixer_Mix.mono : ∀ a0 a1 a2 a3 a4 k, LeO (mixer_Mix.f k a0 a1 a2 a3 a4) (mixer_Mix.f (k + 1) a0 a1 a2 a3 a4) := by
  intro a0 a1 a2 a3 a4 k
  obtain ⟨ih0, ih1, ih2, ih3⟩ := mixer_Mix.mono_l k
  unfold mixer_Mix.f
  repeat' first
      | (with_reducible exact ih0 _ _ _ _ _ _ _ _ _ _ _ _ _ _)
      | (with_reducible exact ih1 _ _ _ _ _ _ _ _ _ _ _ _ _ _ _ _ _ _ _ _ _ _ _ _ _ _)
      | (with_reducible exact ih2 _ _ _ _ _ _ _ _ _ _ _ _ _ _)
      | (with_reducible exact ih3 _ _ _ _ _ _ _ _ _ _ _ _ _ _ _)
      | (with_reducible exact LeO.refl _)
      | (with_reducible exact LeO.none _)
      | (with_reducible refine LeO.ite ?_ ?_)
      | (with_reducible refine LeO.bind ?_ (fun _ => ?_))
      | exact ih0 _ _ _ _ _ _ _ _ _ _ _ _ _ _
      | exact ih1 _ _ _ _ _ _ _ _ _ _ _ _ _ _ _ _ _ _ _ _ _ _ _ _ _ _
      | exact ih2 _ _ _ _ _ _ _ _ _ _ _ _ _ _
      | exact ih3 _ _ _ _ _ _ _ _ _ _ _ _ _ _ _
      | exact LeO.none _
      | refine LeO.ite ?_ ?_
      | refine LeO.bind ?_ (fun _ => ?_)
set_option maxHeartbeats 8000000 in
set_option maxRecDepth 100000 in
theorem mixer_Mix.calls (k : Nat) (a0_0 : Int) (a0_1 : Int) (a0_2 : Int) (a0_3 : Int) (a1 : Int) (r1 : Int) (r2 : Int) (r3 : Int) (r4 : Int) (r5 : Int) (r6 : Int) (r7 : Int) (r8 : Int) (r9 : Int) (w : World) (h : mixer_Mix.f k a0_0 a0_1 a0_2 a0_3 a1 = some (r1, r2, r3, r4, r5, r6, r7, r8, r9)) :
    Calls Try.prog 15 #[.agg #[.int .i64 a0_0, .int .i64 a0_1, .int .i64 a0_2, .int .i64 a0_3], .int .i64 a1] w fun e w' => e = .returned (.tuple #[.agg #[.int .i64 r1, .int .i64 r2, .int .i64 r3, .int .i64 r4, .int .i64 r5, .int .i64 r6, .int .i64 r7, .int .i64 r8], .int .i64 r9]) ∧ Below w.heap.size w w' := by
  have hu39 := Try.underlying39
  have hu22 := Try.underlying22
  have hu54 := Try.underlying54
  have hu55 := Try.underlying55
  have hix56_0 : ∀ (x0_ x1_ x2_ x3_ x4_ x5_ x6_ x7_ : Value) (W : World), (Instr.index 56 (.agg #[x0_, x1_, x2_, x3_, x4_, x5_, x6_, x7_]) (.int .i64 0)).run Try.prog W = .ok (.agg #[x0_, x1_]) W := fun x0_ x1_ x2_ x3_ x4_ x5_ x6_ x7_ W => rfl
  have hix56_1 : ∀ (x0_ x1_ x2_ x3_ x4_ x5_ x6_ x7_ : Value) (W : World), (Instr.index 56 (.agg #[x0_, x1_, x2_, x3_, x4_, x5_, x6_, x7_]) (.int .i64 1)).run Try.prog W = .ok (.agg #[x2_, x3_]) W := fun x0_ x1_ x2_ x3_ x4_ x5_ x6_ x7_ W => rfl
  have hix56_2 : ∀ (x0_ x1_ x2_ x3_ x4_ x5_ x6_ x7_ : Value) (W : World), (Instr.index 56 (.agg #[x0_, x1_, x2_, x3_, x4_, x5_, x6_, x7_]) (.int .i64 2)).run Try.prog W = .ok (.agg #[x4_, x5_]) W := fun x0_ x1_ x2_ x3_ x4_ x5_ x6_ x7_ W => rfl
  have hix56_3 : ∀ (x0_ x1_ x2_ x3_ x4_ x5_ x6_ x7_ : Value) (W : World), (Instr.index 56 (.agg #[x0_, x1_, x2_, x3_, x4_, x5_, x6_, x7_]) (.int .i64 3)).run Try.prog W = .ok (.agg #[x6_, x7_]) W := fun x0_ x1_ x2_ x3_ x4_ x5_ x6_ x7_ W => rfl
  have hu56 := Try.underlying56
  have hix54_0 : ∀ (x0_ x1_ x2_ x3_ : Value) (W : World), (Instr.index 54 (.agg #[x0_, x1_, x2_, x3_]) (.int .i64 0)).run Try.prog W = .ok (x0_) W := fun x0_ x1_ x2_ x3_ W => rfl
  have hix54_1 : ∀ (x0_ x1_ x2_ x3_ : Value) (W : World), (Instr.index 54 (.agg #[x0_, x1_, x2_, x3_]) (.int .i64 1)).run Try.prog W = .ok (x1_) W := fun x0_ x1_ x2_ x3_ W => rfl
  have hix54_2 : ∀ (x0_ x1_ x2_ x3_ : Value) (W : World), (Instr.index 54 (.agg #[x0_, x1_, x2_, x3_]) (.int .i64 2)).run Try.prog W = .ok (x2_) W := fun x0_ x1_ x2_ x3_ W => rfl
  have hix54_3 : ∀ (x0_ x1_ x2_ x3_ : Value) (W : World), (Instr.index 54 (.agg #[x0_, x1_, x2_, x3_]) (.int .i64 3)).run Try.prog W = .ok (x3_) W := fun x0_ x1_ x2_ x3_ W => rfl
  have HB := Aside0.mk (Below.refl w.heap.size w)
  have H : (if a1 < 0 then (mixer_Mix.j0 k a1 true a0_0 a0_1 a0_2 a0_3 0 0 0 0 0 0 0 0) else (mixer_Mix.j0 k a1 (decide (a1 > 8)) a0_0 a0_1 a0_2 a0_3 0 0 0 0 0 0 0 0)) = some (r1, r2, r3, r4, r5, r6, r7, r8, r9) := h
  clear h
  have HC3 := Aside0.mk H
  clear H
  go_enter Try.func15, Try.ntmps15
  go_upto_region 2 with (first | ((with_reducible refine gate_dst (N := 2) rfl ?_); refine box_event ?hg (N := 2) ?hd (cs := #[.int .i64 a0_0, .int .i64 a0_1, .int .i64 a0_2, .int .i64 a0_3]) (t := 39) ?hr ?_; (case hd => rfl); (case hg => rfl); (case hr => first | (go_simp; done) | (go_simp; rfl)); intro gb204 hg w4 hbox hb; have n0_ := Aside0.mk (below_step (by repeat (first | (with_reducible first | exact HB.out | apply below_alloc | apply pw_below_drewN | apply below_drew1) | exact HB.out)) hb); have n1_ := Aside0.mk (hbox); have n2_ := Aside0.mk ((by rw [hg]; exact (below_size (by repeat (first | (with_reducible first | exact HB.out | apply below_alloc | apply pw_below_drewN | apply below_drew1) | exact HB.out))) : w.heap.size ≤ gb204)); have n3_ := Aside0.mk ((by rw [hg]; exact (below_size (by repeat (first | (with_reducible first | exact HB.out | apply below_alloc | apply pw_below_drewN | apply below_drew1) | exact HB.out))) : w.heap.size ≤ gb204)); clear HB; have HB := n0_; have BK204 := n1_; have GW204 := n2_; have GE204 := n3_; clear n0_ n1_ n2_ n3_; clear hb hbox hg) | ((with_reducible refine gate_dst (N := 4) rfl ?_); refine box_event ?hg (N := 4) ?hd (cs := #[.int .i64 0, .int .i64 0, .int .i64 0, .int .i64 0, .int .i64 0, .int .i64 0, .int .i64 0, .int .i64 0]) (t := 22) ?hr ?_; (case hd => rfl); (case hg => rfl); (case hr => first | (go_simp; done) | (go_simp; rfl)); intro gb205 hg w5 hbox hb; have n0_ := Aside0.mk (blk_below (g := gb204) (o := .cells #[.int .i64 a0_0, .int .i64 a0_1, .int .i64 a0_2, .int .i64 a0_3] 39 (0, 0)) (by (with_reducible repeat (first | refine blk_drewN ?_ _ | refine blk_drew ?_ | refine blk_alloc ?_ _)); exact BK204.out) hb); have n1_ := Aside0.mk (below_step (by repeat (first | (with_reducible first | exact HB.out | apply below_alloc | apply pw_below_drewN | apply below_drew1 | refine below_set ?_ GE204.out) | exact HB.out)) hb); have n2_ := Aside0.mk (hbox); have n3_ := Aside0.mk ((by rw [hg]; exact (below_size (by repeat (first | (with_reducible first | exact HB.out | apply below_alloc | apply pw_below_drewN | apply below_drew1 | refine below_set ?_ GE204.out) | exact HB.out))) : w.heap.size ≤ gb205)); have n4_ := Aside0.mk ((by rw [hg]; exact (below_size (by repeat (first | (with_reducible first | exact HB.out | apply below_alloc | apply pw_below_drewN | apply below_drew1 | refine below_set ?_ GE204.out) | exact HB.out))) : w.heap.size ≤ gb205)); have n5_ := Aside0.mk ((by rw [hg]; exact Nat.ne_of_lt (blk_lt (g := gb204) (o := .cells #[.int .i64 a0_0, .int .i64 a0_1, .int .i64 a0_2, .int .i64 a0_3] 39 (0, 0)) (by (with_reducible repeat (first | refine blk_drewN ?_ _ | refine blk_drew ?_ | refine blk_alloc ?_ _)); exact BK204.out)) : gb204 ≠ gb205)); have n6_ := Aside0.mk ((by rw [hg]; exact Nat.ne_of_gt (blk_lt (g := gb204) (o := .cells #[.int .i64 a0_0, .int .i64 a0_1, .int .i64 a0_2, .int .i64 a0_3] 39 (0, 0)) (by (with_reducible repeat (first | refine blk_drewN ?_ _ | refine blk_drew ?_ | refine blk_alloc ?_ _)); exact BK204.out)) : gb205 ≠ gb204)); clear BK204; clear HB; have BK204 := n0_; have HB := n1_; have BK205 := n2_; have GW205 := n3_; have GE205 := n4_; have NB204_205 := n5_; have NB205_204 := n6_; clear n0_ n1_ n2_ n3_ n4_ n5_ n6_; clear hb hbox hg) | ((with_reducible refine gate_dst (N := 6) rfl ?_); refine box_event ?hg (N := 6) ?hd (cs := #[.int .i64 0, .int .i64 0, .int .i64 0, .int .i64 0, .int .i64 0, .int .i64 0, .int .i64 0, .int .i64 0]) (t := 22) ?hr ?_; (case hd => rfl); (case hg => rfl); (case hr => first | (go_simp; done) | (go_simp; rfl)); intro gb206 hg w6 hbox hb; have n0_ := Aside0.mk (blk_below (g := gb204) (o := .cells #[.int .i64 a0_0, .int .i64 a0_1, .int .i64 a0_2, .int .i64 a0_3] 39 (0, 0)) (by (with_reducible repeat (first | refine blk_drewN ?_ _ | refine blk_drew ?_ | refine blk_alloc ?_ _)); exact BK204.out) hb); have n1_ := Aside0.mk (blk_below (g := gb205) (o := .cells #[.int .i64 0, .int .i64 0, .int .i64 0, .int .i64 0, .int .i64 0, .int .i64 0, .int .i64 0, .int .i64 0] 22 (0, 0)) (by (with_reducible repeat (first | refine blk_drewN ?_ _ | refine blk_drew ?_ | refine blk_alloc ?_ _)); exact BK205.out) hb); have n2_ := Aside0.mk (below_step (by repeat (first | (with_reducible first | exact HB.out | apply below_alloc | apply pw_below_drewN | apply below_drew1 | refine below_set ?_ GE204.out | refine below_set ?_ GE205.out) | exact HB.out)) hb); have n3_ := Aside0.mk (hbox); have n4_ := Aside0.mk ((by rw [hg]; exact (below_size (by repeat (first | (with_reducible first | exact HB.out | apply below_alloc | apply pw_below_drewN | apply below_drew1 | refine below_set ?_ GE204.out | refine below_set ?_ GE205.out) | exact HB.out))) : w.heap.size ≤ gb206)); have n5_ := Aside0.mk ((by rw [hg]; exact (below_size (by repeat (first | (with_reducible first | exact HB.out | apply below_alloc | apply pw_below_drewN | apply below_drew1 | refine below_set ?_ GE204.out | refine below_set ?_ GE205.out) | exact HB.out))) : w.heap.size ≤ gb206)); have n6_ := Aside0.mk ((by rw [hg]; exact Nat.ne_of_lt (blk_lt (g := gb204) (o := .cells #[.int .i64 a0_0, .int .i64 a0_1, .int .i64 a0_2, .int .i64 a0_3] 39 (0, 0)) (by (with_reducible repeat (first | refine blk_drewN ?_ _ | refine blk_drew ?_ | refine blk_alloc ?_ _)); exact BK204.out)) : gb204 ≠ gb206)); have n7_ := Aside0.mk ((by rw [hg]; exact Nat.ne_of_gt (blk_lt (g := gb204) (o := .cells #[.int .i64 a0_0, .int .i64 a0_1, .int .i64 a0_2, .int .i64 a0_3] 39 (0, 0)) (by (with_reducible repeat (first | refine blk_drewN ?_ _ | refine blk_drew ?_ | refine blk_alloc ?_ _)); exact BK204.out)) : gb206 ≠ gb204)); have n8_ := Aside0.mk ((by rw [hg]; exact Nat.ne_of_lt (blk_lt (g := gb205) (o := .cells #[.int .i64 0, .int .i64 0, .int .i64 0, .int .i64 0, .int .i64 0, .int .i64 0, .int .i64 0, .int .i64 0] 22 (0, 0)) (by (with_reducible repeat (first | refine blk_drewN ?_ _ | refine blk_drew ?_ | refine blk_alloc ?_ _)); exact BK205.out)) : gb205 ≠ gb206)); have n9_ := Aside0.mk ((by rw [hg]; exact Nat.ne_of_gt (blk_lt (g := gb205) (o := .cells #[.int .i64 0, .int .i64 0, .int .i64 0, .int .i64 0, .int .i64 0, .int .i64 0, .int .i64 0, .int .i64 0] 22 (0, 0)) (by (with_reducible repeat (first | refine blk_drewN ?_ _ | refine blk_drew ?_ | refine blk_alloc ?_ _)); exact BK205.out)) : gb206 ≠ gb205)); clear BK204; clear BK205; clear HB; have BK204 := n0_; have BK205 := n1_; have HB := n2_; have BK206 := n3_; have GW206 := n4_; have GE206 := n5_; have NB204_206 := n6_; have NB206_204 := n7_; have NB205_206 := n8_; have NB206_205 := n9_; clear n0_ n1_ n2_ n3_ n4_ n5_ n6_ n7_ n8_ n9_; clear hb hbox hg))
  repeat (go_quiet (first | ((with_reducible refine gate_dst (N := 2) rfl ?_); refine box_event ?hg (N := 2) ?hd (cs := #[.int .i64 a0_0, .int .i64 a0_1, .int .i64 a0_2, .int .i64 a0_3]) (t := 39) ?hr ?_; (case hd => rfl); (case hg => rfl); (case hr => first | (go_simp; done) | (go_simp; rfl)); intro gb204 hg w4 hbox hb; have n0_ := Aside0.mk (below_step (by repeat (first | (with_reducible first | exact HB.out | apply below_alloc | apply pw_below_drewN | apply below_drew1) | exact HB.out)) hb); have n1_ := Aside0.mk (hbox); have n2_ := Aside0.mk ((by rw [hg]; exact (below_size (by repeat (first | (with_reducible first | exact HB.out | apply below_alloc | apply pw_below_drewN | apply below_drew1) | exact HB.out))) : w.heap.size ≤ gb204)); have n3_ := Aside0.mk ((by rw [hg]; exact (below_size (by repeat (first | (with_reducible first | exact HB.out | apply below_alloc | apply pw_below_drewN | apply below_drew1) | exact HB.out))) : w.heap.size ≤ gb204)); clear HB; have HB := n0_; have BK204 := n1_; have GW204 := n2_; have GE204 := n3_; clear n0_ n1_ n2_ n3_; clear hb hbox hg) | ((with_reducible refine gate_dst (N := 4) rfl ?_); refine box_event ?hg (N := 4) ?hd (cs := #[.int .i64 0, .int .i64 0, .int .i64 0, .int .i64 0, .int .i64 0, .int .i64 0, .int .i64 0, .int .i64 0]) (t := 22) ?hr ?_; (case hd => rfl); (case hg => rfl); (case hr => first | (go_simp; done) | (go_simp; rfl)); intro gb205 hg w5 hbox hb; have n0_ := Aside0.mk (blk_below (g := gb204) (o := .cells #[.int .i64 a0_0, .int .i64 a0_1, .int .i64 a0_2, .int .i64 a0_3] 39 (0, 0)) (by (with_reducible repeat (first | refine blk_drewN ?_ _ | refine blk_drew ?_ | refine blk_alloc ?_ _)); exact BK204.out) hb); have n1_ := Aside0.mk (below_step (by repeat (first | (with_reducible first | exact HB.out | apply below_alloc | apply pw_below_drewN | apply below_drew1 | refine below_set ?_ GE204.out) | exact HB.out)) hb); have n2_ := Aside0.mk (hbox); have n3_ := Aside0.mk ((by rw [hg]; exact (below_size (by repeat (first | (with_reducible first | exact HB.out | apply below_alloc | apply pw_below_drewN | apply below_drew1 | refine below_set ?_ GE204.out) | exact HB.out))) : w.heap.size ≤ gb205)); have n4_ := Aside0.mk ((by rw [hg]; exact (below_size (by repeat (first | (with_reducible first | exact HB.out | apply below_alloc | apply pw_below_drewN | apply below_drew1 | refine below_set ?_ GE204.out) | exact HB.out))) : w.heap.size ≤ gb205)); have n5_ := Aside0.mk ((by rw [hg]; exact Nat.ne_of_lt (blk_lt (g := gb204) (o := .cells #[.int .i64 a0_0, .int .i64 a0_1, .int .i64 a0_2, .int .i64 a0_3] 39 (0, 0)) (by (with_reducible repeat (first | refine blk_drewN ?_ _ | refine blk_drew ?_ | refine blk_alloc ?_ _)); exact BK204.out)) : gb204 ≠ gb205)); have n6_ := Aside0.mk ((by rw [hg]; exact Nat.ne_of_gt (blk_lt (g := gb204) (o := .cells #[.int .i64 a0_0, .int .i64 a0_1, .int .i64 a0_2, .int .i64 a0_3] 39 (0, 0)) (by (with_reducible repeat (first | refine blk_drewN ?_ _ | refine blk_drew ?_ | refine blk_alloc ?_ _)); exact BK204.out)) : gb205 ≠ gb204)); clear BK204; clear HB; have BK204 := n0_; have HB := n1_; have BK205 := n2_; have GW205 := n3_; have GE205 := n4_; have NB204_205 := n5_; have NB205_204 := n6_; clear n0_ n1_ n2_ n3_ n4_ n5_ n6_; clear hb hbox hg) | ((with_reducible refine gate_dst (N := 6) rfl ?_); refine box_event ?hg (N := 6) ?hd (cs := #[.int .i64 0, .int .i64 0, .int .i64 0, .int .i64 0, .int .i64 0, .int .i64 0, .int .i64 0, .int .i64 0]) (t := 22) ?hr ?_; (case hd => rfl); (case hg => rfl); (case hr => first | (go_simp; done) | (go_simp; rfl)); intro gb206 hg w6 hbox hb; have n0_ := Aside0.mk (blk_below (g := gb204) (o := .cells #[.int .i64 a0_0, .int .i64 a0_1, .int .i64 a0_2, .int .i64 a0_3] 39 (0, 0)) (by (with_reducible repeat (first | refine blk_drewN ?_ _ | refine blk_drew ?_ | refine blk_alloc ?_ _)); exact BK204.out) hb); have n1_ := Aside0.mk (blk_below (g := gb205) (o := .cells #[.int .i64 0, .int .i64 0, .int .i64 0, .int .i64 0, .int .i64 0, .int .i64 0, .int .i64 0, .int .i64 0] 22 (0, 0)) (by (with_reducible repeat (first | refine blk_drewN ?_ _ | refine blk_drew ?_ | refine blk_alloc ?_ _)); exact BK205.out) hb); have n2_ := Aside0.mk (below_step (by repeat (first | (with_reducible first | exact HB.out | apply below_alloc | apply pw_below_drewN | apply below_drew1 | refine below_set ?_ GE204.out | refine below_set ?_ GE205.out) | exact HB.out)) hb); have n3_ := Aside0.mk (hbox); have n4_ := Aside0.mk ((by rw [hg]; exact (below_size (by repeat (first | (with_reducible first | exact HB.out | apply below_alloc | apply pw_below_drewN | apply below_drew1 | refine below_set ?_ GE204.out | refine below_set ?_ GE205.out) | exact HB.out))) : w.heap.size ≤ gb206)); have n5_ := Aside0.mk ((by rw [hg]; exact (below_size (by repeat (first | (with_reducible first | exact HB.out | apply below_alloc | apply pw_below_drewN | apply below_drew1 | refine below_set ?_ GE204.out | refine below_set ?_ GE205.out) | exact HB.out))) : w.heap.size ≤ gb206)); have n6_ := Aside0.mk ((by rw [hg]; exact Nat.ne_of_lt (blk_lt (g := gb204) (o := .cells #[.int .i64 a0_0, .int .i64 a0_1, .int .i64 a0_2, .int .i64 a0_3] 39 (0, 0)) (by (with_reducible repeat (first | refine blk_drewN ?_ _ | refine blk_drew ?_ | refine blk_alloc ?_ _)); exact BK204.out)) : gb204 ≠ gb206)); have n7_ := Aside0.mk ((by rw [hg]; exact Nat.ne_of_gt (blk_lt (g := gb204) (o := .cells #[.int .i64 a0_0, .int .i64 a0_1, .int .i64 a0_2, .int .i64 a0_3] 39 (0, 0)) (by (with_reducible repeat (first | refine blk_drewN ?_ _ | refine blk_drew ?_ | refine blk_alloc ?_ _)); exact BK204.out)) : gb206 ≠ gb204)); have n8_ := Aside0.mk ((by rw [hg]; exact Nat.ne_of_lt (blk_lt (g := gb205) (o := .cells #[.int .i64 0, .int .i64 0, .int .i64 0, .int .i64 0, .int .i64 0, .int .i64 0, .int .i64 0, .int .i64 0] 22 (0, 0)) (by (with_reducible repeat (first | refine blk_drewN ?_ _ | refine blk_drew ?_ | refine blk_alloc ?_ _)); exact BK205.out)) : gb205 ≠ gb206)); have n9_ := Aside0.mk ((by rw [hg]; exact Nat.ne_of_gt (blk_lt (g := gb205) (o := .cells #[.int .i64 0, .int .i64 0, .int .i64 0, .int .i64 0, .int .i64 0, .int .i64 0, .int .i64 0, .int .i64 0] 22 (0, 0)) (by (with_reducible repeat (first | refine blk_drewN ?_ _ | refine blk_drew ?_ | refine blk_alloc ?_ _)); exact BK205.out)) : gb206 ≠ gb205)); clear BK204; clear BK205; clear HB; have BK204 := n0_; have BK205 := n1_; have HB := n2_; have BK206 := n3_; have GW206 := n4_; have GE206 := n5_; have NB204_206 := n6_; have NB206_204 := n7_; have NB205_206 := n8_; have NB206_205 := n9_; clear n0_ n1_ n2_ n3_ n4_ n5_ n6_ n7_ n8_ n9_; clear hb hbox hg)); go_upto_region 2 with (first | ((with_reducible refine gate_dst (N := 2) rfl ?_); refine box_event ?hg (N := 2) ?hd (cs := #[.int .i64 a0_0, .int .i64 a0_1, .int .i64 a0_2, .int .i64 a0_3]) (t := 39) ?hr ?_; (case hd => rfl); (case hg => rfl); (case hr => first | (go_simp; done) | (go_simp; rfl)); intro gb204 hg w4 hbox hb; have n0_ := Aside0.mk (below_step (by repeat (first | (with_reducible first | exact HB.out | apply below_alloc | apply pw_below_drewN | apply below_drew1) | exact HB.out)) hb); have n1_ := Aside0.mk (hbox); have n2_ := Aside0.mk ((by rw [hg]; exact (below_size (by repeat (first | (with_reducible first | exact HB.out | apply below_alloc | apply pw_below_drewN | apply below_drew1) | exact HB.out))) : w.heap.size ≤ gb204)); have n3_ := Aside0.mk ((by rw [hg]; exact (below_size (by repeat (first | (with_reducible first | exact HB.out | apply below_alloc | apply pw_below_drewN | apply below_drew1) | exact HB.out))) : w.heap.size ≤ gb204)); clear HB; have HB := n0_; have BK204 := n1_; have GW204 := n2_; have GE204 := n3_; clear n0_ n1_ n2_ n3_; clear hb hbox hg) | ((with_reducible refine gate_dst (N := 4) rfl ?_); refine box_event ?hg (N := 4) ?hd (cs := #[.int .i64 0, .int .i64 0, .int .i64 0, .int .i64 0, .int .i64 0, .int .i64 0, .int .i64 0, .int .i64 0]) (t := 22) ?hr ?_; (case hd => rfl); (case hg => rfl); (case hr => first | (go_simp; done) | (go_simp; rfl)); intro gb205 hg w5 hbox hb; have n0_ := Aside0.mk (blk_below (g := gb204) (o := .cells #[.int .i64 a0_0, .int .i64 a0_1, .int .i64 a0_2, .int .i64 a0_3] 39 (0, 0)) (by (with_reducible repeat (first | refine blk_drewN ?_ _ | refine blk_drew ?_ | refine blk_alloc ?_ _)); exact BK204.out) hb); have n1_ := Aside0.mk (below_step (by repeat (first | (with_reducible first | exact HB.out | apply below_alloc | apply pw_below_drewN | apply below_drew1 | refine below_set ?_ GE204.out) | exact HB.out)) hb); have n2_ := Aside0.mk (hbox); have n3_ := Aside0.mk ((by rw [hg]; exact (below_size (by repeat (first | (with_reducible first | exact HB.out | apply below_alloc | apply pw_below_drewN | apply below_drew1 | refine below_set ?_ GE204.out) | exact HB.out))) : w.heap.size ≤ gb205)); have n4_ := Aside0.mk ((by rw [hg]; exact (below_size (by repeat (first | (with_reducible first | exact HB.out | apply below_alloc | apply pw_below_drewN | apply below_drew1 | refine below_set ?_ GE204.out) | exact HB.out))) : w.heap.size ≤ gb205)); have n5_ := Aside0.mk ((by rw [hg]; exact Nat.ne_of_lt (blk_lt (g := gb204) (o := .cells #[.int .i64 a0_0, .int .i64 a0_1, .int .i64 a0_2, .int .i64 a0_3] 39 (0, 0)) (by (with_reducible repeat (first | refine blk_drewN ?_ _ | refine blk_drew ?_ | refine blk_alloc ?_ _)); exact BK204.out)) : gb204 ≠ gb205)); have n6_ := Aside0.mk ((by rw [hg]; exact Nat.ne_of_gt (blk_lt (g := gb204) (o := .cells #[.int .i64 a0_0, .int .i64 a0_1, .int .i64 a0_2, .int .i64 a0_3] 39 (0, 0)) (by (with_reducible repeat (first | refine blk_drewN ?_ _ | refine blk_drew ?_ | refine blk_alloc ?_ _)); exact BK204.out)) : gb205 ≠ gb204)); clear BK204; clear HB; have BK204 := n0_; have HB := n1_; have BK205 := n2_; have GW205 := n3_; have GE205 := n4_; have NB204_205 := n5_; have NB205_204 := n6_; clear n0_ n1_ n2_ n3_ n4_ n5_ n6_; clear hb hbox hg) | ((with_reducible refine gate_dst (N := 6) rfl ?_); refine box_event ?hg (N := 6) ?hd (cs := #[.int .i64 0, .int .i64 0, .int .i64 0, .int .i64 0, .int .i64 0, .int .i64 0, .int .i64 0, .int .i64 0]) (t := 22) ?hr ?_; (case hd => rfl); (case hg => rfl); (case hr => first | (go_simp; done) | (go_simp; rfl)); intro gb206 hg w6 hbox hb; have n0_ := Aside0.mk (blk_below (g := gb204) (o := .cells #[.int .i64 a0_0, .int .i64 a0_1, .int .i64 a0_2, .int .i64 a0_3] 39 (0, 0)) (by (with_reducible repeat (first | refine blk_drewN ?_ _ | refine blk_drew ?_ | refine blk_alloc ?_ _)); exact BK204.out) hb); have n1_ := Aside0.mk (blk_below (g := gb205) (o := .cells #[.int .i64 0, .int .i64 0, .int .i64 0, .int .i64 0, .int .i64 0, .int .i64 0, .int .i64 0, .int .i64 0] 22 (0, 0)) (by (with_reducible repeat (first | refine blk_drewN ?_ _ | refine blk_drew ?_ | refine blk_alloc ?_ _)); exact BK205.out) hb); have n2_ := Aside0.mk (below_step (by repeat (first | (with_reducible first | exact HB.out | apply below_alloc | apply pw_below_drewN | apply below_drew1 | refine below_set ?_ GE204.out | refine below_set ?_ GE205.out) | exact HB.out)) hb); have n3_ := Aside0.mk (hbox); have n4_ := Aside0.mk ((by rw [hg]; exact (below_size (by repeat (first | (with_reducible first | exact HB.out | apply below_alloc | apply pw_below_drewN | apply below_drew1 | refine below_set ?_ GE204.out | refine below_set ?_ GE205.out) | exact HB.out))) : w.heap.size ≤ gb206)); have n5_ := Aside0.mk ((by rw [hg]; exact (below_size (by repeat (first | (with_reducible first | exact HB.out | apply below_alloc | apply pw_below_drewN | apply below_drew1 | refine below_set ?_ GE204.out | refine below_set ?_ GE205.out) | exact HB.out))) : w.heap.size ≤ gb206)); have n6_ := Aside0.mk ((by rw [hg]; exact Nat.ne_of_lt (blk_lt (g := gb204) (o := .cells #[.int .i64 a0_0, .int .i64 a0_1, .int .i64 a0_2, .int .i64 a0_3] 39 (0, 0)) (by (with_reducible repeat (first | refine blk_drewN ?_ _ | refine blk_drew ?_ | refine blk_alloc ?_ _)); exact BK204.out)) : gb204 ≠ gb206)); have n7_ := Aside0.mk ((by rw [hg]; exact Nat.ne_of_gt (blk_lt (g := gb204) (o := .cells #[.int .i64 a0_0, .int .i64 a0_1, .int .i64 a0_2, .int .i64 a0_3] 39 (0, 0)) (by (with_reducible repeat (first | refine blk_drewN ?_ _ | refine blk_drew ?_ | refine blk_alloc ?_ _)); exact BK204.out)) : gb206 ≠ gb204)); have n8_ := Aside0.mk ((by rw [hg]; exact Nat.ne_of_lt (blk_lt (g := gb205) (o := .cells #[.int .i64 0, .int .i64 0, .int .i64 0, .int .i64 0, .int .i64 0, .int .i64 0, .int .i64 0, .int .i64 0] 22 (0, 0)) (by (with_reducible repeat (first | refine blk_drewN ?_ _ | refine blk_drew ?_ | refine blk_alloc ?_ _)); exact BK205.out)) : gb205 ≠ gb206)); have n9_ := Aside0.mk ((by rw [hg]; exact Nat.ne_of_gt (blk_lt (g := gb205) (o := .cells #[.int .i64 0, .int .i64 0, .int .i64 0, .int .i64 0, .int .i64 0, .int .i64 0, .int .i64 0, .int .i64 0] 22 (0, 0)) (by (with_reducible repeat (first | refine blk_drewN ?_ _ | refine blk_drew ?_ | refine blk_alloc ?_ _)); exact BK205.out)) : gb206 ≠ gb205)); clear BK204; clear BK205; clear HB; have BK204 := n0_; have BK205 := n1_; have HB := n2_; have BK206 := n3_; have GW206 := n4_; have GE206 := n5_; have NB204_206 := n6_; have NB206_204 := n7_; have NB205_206 := n8_; have NB206_205 := n9_; clear n0_ n1_ n2_ n3_ n4_ n5_ n6_ n7_ n8_ n9_; clear hb hbox hg)))
  (try simp only [Act.put, List.setIfInBounds_toArray, List.set_cons_zero, List.set_cons_succ])
  go_cut [21] (fun v21 wc => ∃ (kq : Nat) (x21_2 : Bool) (x206000_2 : Int) (x206001_2 : Int) (x206002_2 : Int) (x206003_2 : Int) (x206004_2 : Int) (x206005_2 : Int) (x206006_2 : Int) (x206007_2 : Int) (x207000_2 : Int) (x207001_2 : Int) (x207002_2 : Int) (x207003_2 : Int) (x207004_2 : Int) (x207005_2 : Int) (x207006_2 : Int) (x207007_2 : Int), v21 = .bool x21_2 ∧ Aside0 (mixer_Mix.j0 kq a1 x21_2 a0_0 a0_1 a0_2 a0_3 x207000_2 x207001_2 x207002_2 x207003_2 x207004_2 x207005_2 x207006_2 x207007_2 = some (r1, r2, r3, r4, r5, r6, r7, r8, r9)) ∧ Aside0 (kq ≤ k) ∧ Aside0 (wc.heap[gb204]? = some (.cells #[.int .i64 a0_0, .int .i64 a0_1, .int .i64 a0_2, .int .i64 a0_3] 39 (0, 0))) ∧ Aside0 (wc.heap[gb205]? = some (.cells #[.int .i64 x206000_2, .int .i64 x206001_2, .int .i64 x206002_2, .int .i64 x206003_2, .int .i64 x206004_2, .int .i64 x206005_2, .int .i64 x206006_2, .int .i64 x206007_2] 22 (0, 0))) ∧ Aside0 (wc.heap[gb206]? = some (.cells #[.int .i64 x207000_2, .int .i64 x207001_2, .int .i64 x207002_2, .int .i64 x207003_2, .int .i64 x207004_2, .int .i64 x207005_2, .int .i64 x207006_2, .int .i64 x207007_2] 22 (0, 0))) ∧ Aside0 (Below w.heap.size w wc))
  case first =>
    have H := HC3.out
    clear HC3
    by_cases c7 : a1 < 0
    · rw [if_pos c7] at H
      have c7b0 : decide (a1 < 0) = true := decide_eq_true c7
      clear c7
      (first | rw [c7b0] | (simp only [i64_w, i32_w]; rw [c7b0]) | skip)
      have H' := Aside0.mk H
      clear H
      go_wp2
      go_meet
      case rel => exact ⟨_, (true), (0), (0), (0), (0), (0), (0), (0), (0), (0), (0), (0), (0), (0), (0), (0), (0), (by first | rfl | (simp; done) | (simp [*]; done)), H', ⟨by first | omega | exact Nat.le_refl _⟩, ⟨by (with_reducible repeat (first | refine blk_drewN ?_ _ | refine blk_drew ?_ | refine blk_alloc ?_ _)); exact BK204.out⟩, ⟨by (with_reducible repeat (first | refine blk_drewN ?_ _ | refine blk_drew ?_ | refine blk_alloc ?_ _)); exact BK205.out⟩, ⟨by (with_reducible repeat (first | refine blk_drewN ?_ _ | refine blk_drew ?_ | refine blk_alloc ?_ _)); exact BK206.out⟩, ⟨by repeat (first | (with_reducible first | exact HB.out | apply below_alloc | apply pw_below_drewN | apply below_drew1 | refine below_set ?_ GE204.out | refine below_set ?_ GE205.out | refine below_set ?_ GE206.out) | exact HB.out)⟩⟩
    · rw [if_neg c7] at H
      have c7b0 : decide (a1 < 0) = false := decide_eq_false c7
      clear c7
      (first | rw [c7b0] | (simp only [i64_w, i32_w]; rw [c7b0]) | skip)
      have H' := Aside0.mk H
      clear H
      go_wp2
      go_meet
      case rel => exact ⟨_, (decide (a1 > 8)), (0), (0), (0), (0), (0), (0), (0), (0), (0), (0), (0), (0), (0), (0), (0), (0), (by first | rfl | (simp; done) | (simp [*]; done)), H', ⟨by first | omega | exact Nat.le_refl _⟩, ⟨by (with_reducible repeat (first | refine blk_drewN ?_ _ | refine blk_drew ?_ | refine blk_alloc ?_ _)); exact BK204.out⟩, ⟨by (with_reducible repeat (first | refine blk_drewN ?_ _ | refine blk_drew ?_ | refine blk_alloc ?_ _)); exact BK205.out⟩, ⟨by (with_reducible repeat (first | refine blk_drewN ?_ _ | refine blk_drew ?_ | refine blk_alloc ?_ _)); exact BK206.out⟩, ⟨by repeat (first | (with_reducible first | exact HB.out | apply below_alloc | apply pw_below_drewN | apply below_drew1 | refine below_set ?_ GE204.out | refine below_set ?_ GE205.out | refine below_set ?_ GE206.out) | exact HB.out)⟩⟩
  case rest =>
    clear HC3
    try clear c1
    try clear p2
    try clear c7
    try clear c7b0
    obtain ⟨kq, x21_2, x206000_2, x206001_2, x206002_2, x206003_2, x206004_2, x206005_2, x206006_2, x206007_2, x207000_2, x207001_2, x207002_2, x207003_2, x207004_2, x207005_2, x207006_2, x207007_2, rfl, HA, HJ2, BK204, BK205, BK206, HB⟩ := hcut
    cases kq with
    | zero => exact absurd HA.out (by simp [mixer_Mix.j0])
    | succ kj2 =>
      have H := HA.out
      clear HA
      simp only [mixer_Mix.j0] at H
      by_cases c8 : x21_2 = true
      · subst c8
        have H1 : (some (x207000_2, x207001_2, x207002_2, x207003_2, x207004_2, x207005_2, x207006_2, x207007_2, 1)) = some (r1, r2, r3, r4, r5, r6, r7, r8, r9) := by rw [if_pos rfl] at H; exact H
        clear H
        have H := H1
        clear H1
        simp only [Option.some.injEq, Prod.mk.injEq] at H
        obtain ⟨rfl, rfl, rfl, rfl, rfl, rfl, rfl, rfl, rfl⟩ := H
        have hnb9 := NB206_204.out
        have hnc9 := NB204_206.out
        have hnb10 := NB206_205.out
        have hnc10 := NB205_206.out
        have hcz11_0 := blk_cells8 (w := wc) (g := gb206) BK206.out
        have hfz11_0 := blk_frozen BK206.out
        have hnb12 := NB205_204.out
        have hnc12 := NB204_205.out
        have hcz13_0 := blk_cells8 (w := wc) (g := gb205) BK205.out
        have hfz13_0 := blk_frozen BK205.out
        go_wp2
        refine bodyPost_ret (results_ct rfl _ _ gb205 22 #[.int .i64 x207000_2, .int .i64 x207001_2, .int .i64 x207002_2, .int .i64 x207003_2, .int .i64 x207004_2, .int .i64 x207005_2, .int .i64 x207006_2, .int .i64 x207007_2] (0, 0) _ rfl (by (with_reducible repeat (first | refine blk_drewN ?_ _ | refine blk_drew ?_ | refine blk_alloc ?_ _)); refine blk_put (cs := #[.int .i64 x207000_2, .int .i64 x207001_2, .int .i64 x207002_2, .int .i64 x207003_2, .int .i64 x207004_2, .int .i64 x207005_2, .int .i64 x207006_2, .int .i64 x206007_2]) ?_ 7 _ rfl; (with_reducible repeat (first | refine blk_drewN ?_ _ | refine blk_drew ?_ | refine blk_alloc ?_ _)); refine blk_put (cs := #[.int .i64 x207000_2, .int .i64 x207001_2, .int .i64 x207002_2, .int .i64 x207003_2, .int .i64 x207004_2, .int .i64 x207005_2, .int .i64 x206006_2, .int .i64 x206007_2]) ?_ 6 _ rfl; (with_reducible repeat (first | refine blk_drewN ?_ _ | refine blk_drew ?_ | refine blk_alloc ?_ _)); refine blk_put (cs := #[.int .i64 x207000_2, .int .i64 x207001_2, .int .i64 x207002_2, .int .i64 x207003_2, .int .i64 x207004_2, .int .i64 x206005_2, .int .i64 x206006_2, .int .i64 x206007_2]) ?_ 5 _ rfl; (with_reducible repeat (first | refine blk_drewN ?_ _ | refine blk_drew ?_ | refine blk_alloc ?_ _)); refine blk_put (cs := #[.int .i64 x207000_2, .int .i64 x207001_2, .int .i64 x207002_2, .int .i64 x207003_2, .int .i64 x206004_2, .int .i64 x206005_2, .int .i64 x206006_2, .int .i64 x206007_2]) ?_ 4 _ rfl; (with_reducible repeat (first | refine blk_drewN ?_ _ | refine blk_drew ?_ | refine blk_alloc ?_ _)); refine blk_put (cs := #[.int .i64 x207000_2, .int .i64 x207001_2, .int .i64 x207002_2, .int .i64 x206003_2, .int .i64 x206004_2, .int .i64 x206005_2, .int .i64 x206006_2, .int .i64 x206007_2]) ?_ 3 _ rfl; (with_reducible repeat (first | refine blk_drewN ?_ _ | refine blk_drew ?_ | refine blk_alloc ?_ _)); refine blk_put (cs := #[.int .i64 x207000_2, .int .i64 x207001_2, .int .i64 x206002_2, .int .i64 x206003_2, .int .i64 x206004_2, .int .i64 x206005_2, .int .i64 x206006_2, .int .i64 x206007_2]) ?_ 2 _ rfl; (with_reducible repeat (first | refine blk_drewN ?_ _ | refine blk_drew ?_ | refine blk_alloc ?_ _)); refine blk_put (cs := #[.int .i64 x207000_2, .int .i64 x206001_2, .int .i64 x206002_2, .int .i64 x206003_2, .int .i64 x206004_2, .int .i64 x206005_2, .int .i64 x206006_2, .int .i64 x206007_2]) ?_ 1 _ rfl; (with_reducible repeat (first | refine blk_drewN ?_ _ | refine blk_drew ?_ | refine blk_alloc ?_ _)); refine blk_put (cs := #[.int .i64 x206000_2, .int .i64 x206001_2, .int .i64 x206002_2, .int .i64 x206003_2, .int .i64 x206004_2, .int .i64 x206005_2, .int .i64 x206006_2, .int .i64 x206007_2]) ?_ 0 _ rfl; (with_reducible repeat (first | refine blk_drewN ?_ _ | refine blk_drew ?_ | refine blk_alloc ?_ _)); exact BK205.out) Try.underlying22 rfl (by kernel_rfl)) rfl ?_
        exact ⟨by first | rfl | (simp [errW_none, errW_some] <;> rfl) | (simp [*, errW_none, errW_some] <;> rfl), by repeat (first | (with_reducible first | exact HB.out | apply below_alloc | apply pw_below_drewN | apply below_drew1 | refine below_set ?_ GE204.out | refine below_set ?_ GE205.out | refine below_set ?_ GE206.out) | exact HB.out)⟩
      · replace c8 := Bool.eq_false_iff.mpr c8
        subst c8
        have H1 : ((mixer_Limit.f a0_0 a0_1 a0_2 a0_3).bind fun bt207 => ((mixer_signs.f).bind fun bt212 => (mixer_Mix.l0 kj2 a1 0 bt207.1 bt207.2.1 bt207.2.2.1 bt207.2.2.2 x207000_2 x207001_2 x207002_2 x207003_2 x207004_2 x207005_2 x207006_2 x207007_2 0 0 0 0 bt212.1 bt212.2.1 bt212.2.2.1 bt212.2.2.2.1 bt212.2.2.2.2.1 bt212.2.2.2.2.2.1 bt212.2.2.2.2.2.2.1 bt212.2.2.2.2.2.2.2))) = some (r1, r2, r3, r4, r5, r6, r7, r8, r9) := by rw [if_neg (show ¬ (false = true) by decide)] at H; exact H
        clear H
        have H := H1
        clear H1
        replace H := Option.bind_eq_some_iff.mp H
        obtain ⟨⟨t207, t208, t209, t210⟩, A140, H⟩ := H
        replace H : ((mixer_signs.f).bind fun bt212 => (mixer_Mix.l0 kj2 a1 0 t207 t208 t209 t210 x207000_2 x207001_2 x207002_2 x207003_2 x207004_2 x207005_2 x207006_2 x207007_2 0 0 0 0 bt212.1 bt212.2.1 bt212.2.2.1 bt212.2.2.2.1 bt212.2.2.2.2.1 bt212.2.2.2.2.2.1 bt212.2.2.2.2.2.2.1 bt212.2.2.2.2.2.2.2)) = some (r1, r2, r3, r4, r5, r6, r7, r8, r9) := H
        have A14 := Aside0.mk A140
        clear A140
        replace H := Option.bind_eq_some_iff.mp H
        obtain ⟨⟨t212, t213, t214, t215, t216, t217, t218, t219⟩, A150, H⟩ := H
        replace H : (mixer_Mix.l0 kj2 a1 0 t207 t208 t209 t210 x207000_2 x207001_2 x207002_2 x207003_2 x207004_2 x207005_2 x207006_2 x207007_2 0 0 0 0 t212 t213 t214 t215 t216 t217 t218 t219) = some (r1, r2, r3, r4, r5, r6, r7, r8, r9) := H
        have A15 := Aside0.mk A150
        clear A150
        have H' := Aside0.mk H
        clear H
        have hnb16 := NB204_205.out
        have hnc16 := NB205_204.out
        have hnb17 := NB204_206.out
        have hnc17 := NB206_204.out
        have hcz18_0 := blk_cells4 (w := wc) (g := gb204) BK204.out
        have hfz18_0 := blk_frozen BK204.out
        go_wp2_with (first | (go_at_call 16; (with_reducible refine (mixer_Limit.calls a0_0 a0_1 a0_2 a0_3 t207 t208 t209 t210 _ A14.out).mono ?_); rintro e w19 ⟨rfl, hb⟩; have n0_ := Aside0.mk (blk_below (g := gb204) (o := .cells #[.int .i64 a0_0, .int .i64 a0_1, .int .i64 a0_2, .int .i64 a0_3] 39 (0, 0)) (by (with_reducible repeat (first | refine blk_drewN ?_ _ | refine blk_drew ?_ | refine blk_alloc ?_ _)); exact BK204.out) hb); have n1_ := Aside0.mk (blk_below (g := gb205) (o := .cells #[.int .i64 x206000_2, .int .i64 x206001_2, .int .i64 x206002_2, .int .i64 x206003_2, .int .i64 x206004_2, .int .i64 x206005_2, .int .i64 x206006_2, .int .i64 x206007_2] 22 (0, 0)) (by (with_reducible repeat (first | refine blk_drewN ?_ _ | refine blk_drew ?_ | refine blk_alloc ?_ _)); exact BK205.out) hb); have n2_ := Aside0.mk (blk_below (g := gb206) (o := .cells #[.int .i64 x207000_2, .int .i64 x207001_2, .int .i64 x207002_2, .int .i64 x207003_2, .int .i64 x207004_2, .int .i64 x207005_2, .int .i64 x207006_2, .int .i64 x207007_2] 22 (0, 0)) (by (with_reducible repeat (first | refine blk_drewN ?_ _ | refine blk_drew ?_ | refine blk_alloc ?_ _)); exact BK206.out) hb); have n3_ := Aside0.mk (below_step (by repeat (first | (with_reducible first | exact HB.out | apply below_alloc | apply pw_below_drewN | apply below_drew1 | refine below_set ?_ GE204.out | refine below_set ?_ GE205.out | refine below_set ?_ GE206.out) | exact HB.out)) hb); clear BK204; clear BK205; clear BK206; clear HB; have BK204 := n0_; have BK205 := n1_; have BK206 := n2_; have HB := n3_; clear n0_ n1_ n2_ n3_; (try clear hb); (try clear hb2); (try clear hk); (try clear hi); have hcz20_0 := blk_cells4 (w := w19) (g := gb204) BK204.out; have hfz20_0 := blk_frozen BK204.out) | ((with_reducible refine gate_dst (N := 7) rfl ?_); refine box_event ?hg (N := 7) ?hd (cs := #[.int .i64 0, .int .i64 0, .int .i64 0, .int .i64 0]) (t := 54) ?hr ?_; (case hd => rfl); (case hg => rfl); (case hr => first | (go_simp; done) | (go_simp; rfl)); intro gb211 hg w21 hbox hb; have n0_ := Aside0.mk (blk_below (g := gb204) (o := .cells #[.int .i64 t207, .int .i64 t208, .int .i64 t209, .int .i64 t210] 39 (0, 0)) (by (with_reducible repeat (first | refine blk_drewN ?_ _ | refine blk_drew ?_ | refine blk_alloc ?_ _)); refine blk_put (cs := #[.int .i64 t207, .int .i64 t208, .int .i64 t209, .int .i64 a0_3]) ?_ 3 _ rfl; (with_reducible repeat (first | refine blk_drewN ?_ _ | refine blk_drew ?_ | refine blk_alloc ?_ _)); refine blk_put (cs := #[.int .i64 t207, .int .i64 t208, .int .i64 a0_2, .int .i64 a0_3]) ?_ 2 _ rfl; (with_reducible repeat (first | refine blk_drewN ?_ _ | refine blk_drew ?_ | refine blk_alloc ?_ _)); refine blk_put (cs := #[.int .i64 t207, .int .i64 a0_1, .int .i64 a0_2, .int .i64 a0_3]) ?_ 1 _ rfl; (with_reducible repeat (first | refine blk_drewN ?_ _ | refine blk_drew ?_ | refine blk_alloc ?_ _)); refine blk_put (cs := #[.int .i64 a0_0, .int .i64 a0_1, .int .i64 a0_2, .int .i64 a0_3]) ?_ 0 _ rfl; (with_reducible repeat (first | refine blk_drewN ?_ _ | refine blk_drew ?_ | refine blk_alloc ?_ _)); exact BK204.out) hb); have n1_ := Aside0.mk (blk_below (g := gb205) (o := .cells #[.int .i64 x206000_2, .int .i64 x206001_2, .int .i64 x206002_2, .int .i64 x206003_2, .int .i64 x206004_2, .int .i64 x206005_2, .int .i64 x206006_2, .int .i64 x206007_2] 22 (0, 0)) (by (with_reducible repeat (first | refine blk_drewN ?_ _ | refine blk_drew ?_ | refine blk_alloc ?_ _)); refine blk_far ?_ NB205_204.out _; (with_reducible repeat (first | refine blk_drewN ?_ _ | refine blk_drew ?_ | refine blk_alloc ?_ _)); refine blk_far ?_ NB205_204.out _; (with_reducible repeat (first | refine blk_drewN ?_ _ | refine blk_drew ?_ | refine blk_alloc ?_ _)); refine blk_far ?_ NB205_204.out _; (with_reducible repeat (first | refine blk_drewN ?_ _ | refine blk_drew ?_ | refine blk_alloc ?_ _)); refine blk_far ?_ NB205_204.out _; (with_reducible repeat (first | refine blk_drewN ?_ _ | refine blk_drew ?_ | refine blk_alloc ?_ _)); exact BK205.out) hb); have n2_ := Aside0.mk (blk_below (g := gb206) (o := .cells #[.int .i64 x207000_2, .int .i64 x207001_2, .int .i64 x207002_2, .int .i64 x207003_2, .int .i64 x207004_2, .int .i64 x207005_2, .int .i64 x207006_2, .int .i64 x207007_2] 22 (0, 0)) (by (with_reducible repeat (first | refine blk_drewN ?_ _ | refine blk_drew ?_ | refine blk_alloc ?_ _)); refine blk_far ?_ NB206_204.out _; (with_reducible repeat (first | refine blk_drewN ?_ _ | refine blk_drew ?_ | refine blk_alloc ?_ _)); refine blk_far ?_ NB206_204.out _; (with_reducible repeat (first | refine blk_drewN ?_ _ | refine blk_drew ?_ | refine blk_alloc ?_ _)); refine blk_far ?_ NB206_204.out _; (with_reducible repeat (first | refine blk_drewN ?_ _ | refine blk_drew ?_ | refine blk_alloc ?_ _)); refine blk_far ?_ NB206_204.out _; (with_reducible repeat (first | refine blk_drewN ?_ _ | refine blk_drew ?_ | refine blk_alloc ?_ _)); exact BK206.out) hb); have n3_ := Aside0.mk (below_step (by repeat (first | (with_reducible first | exact HB.out | apply below_alloc | apply pw_below_drewN | apply below_drew1 | refine below_set ?_ GE204.out | refine below_set ?_ GE205.out | refine below_set ?_ GE206.out) | exact HB.out)) hb); have n4_ := Aside0.mk (hbox); have n5_ := Aside0.mk ((by rw [hg]; exact (below_size (by repeat (first | (with_reducible first | exact HB.out | apply below_alloc | apply pw_below_drewN | apply below_drew1 | refine below_set ?_ GE204.out | refine below_set ?_ GE205.out | refine below_set ?_ GE206.out) | exact HB.out))) : w.heap.size ≤ gb211)); have n6_ := Aside0.mk ((by rw [hg]; exact (below_size (by repeat (first | (with_reducible first | exact HB.out | apply below_alloc | apply pw_below_drewN | apply below_drew1 | refine below_set ?_ GE204.out | refine below_set ?_ GE205.out | refine below_set ?_ GE206.out) | exact HB.out))) : w.heap.size ≤ gb211)); have n7_ := Aside0.mk ((by rw [hg]; exact Nat.ne_of_lt (blk_lt (g := gb204) (o := .cells #[.int .i64 t207, .int .i64 t208, .int .i64 t209, .int .i64 t210] 39 (0, 0)) (by (with_reducible repeat (first | refine blk_drewN ?_ _ | refine blk_drew ?_ | refine blk_alloc ?_ _)); refine blk_put (cs := #[.int .i64 t207, .int .i64 t208, .int .i64 t209, .int .i64 a0_3]) ?_ 3 _ rfl; (with_reducible repeat (first | refine blk_drewN ?_ _ | refine blk_drew ?_ | refine blk_alloc ?_ _)); refine blk_put (cs := #[.int .i64 t207, .int .i64 t208, .int .i64 a0_2, .int .i64 a0_3]) ?_ 2 _ rfl; (with_reducible repeat (first | refine blk_drewN ?_ _ | refine blk_drew ?_ | refine blk_alloc ?_ _)); refine blk_put (cs := #[.int .i64 t207, .int .i64 a0_1, .int .i64 a0_2, .int .i64 a0_3]) ?_ 1 _ rfl; (with_reducible repeat (first | refine blk_drewN ?_ _ | refine blk_drew ?_ | refine blk_alloc ?_ _)); refine blk_put (cs := #[.int .i64 a0_0, .int .i64 a0_1, .int .i64 a0_2, .int .i64 a0_3]) ?_ 0 _ rfl; (with_reducible repeat (first | refine blk_drewN ?_ _ | refine blk_drew ?_ | refine blk_alloc ?_ _)); exact BK204.out)) : gb204 ≠ gb211)); have n8_ := Aside0.mk ((by rw [hg]; exact Nat.ne_of_gt (blk_lt (g := gb204) (o := .cells #[.int .i64 t207, .int .i64 t208, .int .i64 t209, .int .i64 t210] 39 (0, 0)) (by (with_reducible repeat (first | refine blk_drewN ?_ _ | refine blk_drew ?_ | refine blk_alloc ?_ _)); refine blk_put (cs := #[.int .i64 t207, .int .i64 t208, .int .i64 t209, .int .i64 a0_3]) ?_ 3 _ rfl; (with_reducible repeat (first | refine blk_drewN ?_ _ | refine blk_drew ?_ | refine blk_alloc ?_ _)); refine blk_put (cs := #[.int .i64 t207, .int .i64 t208, .int .i64 a0_2, .int .i64 a0_3]) ?_ 2 _ rfl; (with_reducible repeat (first | refine blk_drewN ?_ _ | refine blk_drew ?_ | refine blk_alloc ?_ _)); refine blk_put (cs := #[.int .i64 t207, .int .i64 a0_1, .int .i64 a0_2, .int .i64 a0_3]) ?_ 1 _ rfl; (with_reducible repeat (first | refine blk_drewN ?_ _ | refine blk_drew ?_ | refine blk_alloc ?_ _)); refine blk_put (cs := #[.int .i64 a0_0, .int .i64 a0_1, .int .i64 a0_2, .int .i64 a0_3]) ?_ 0 _ rfl; (with_reducible repeat (first | refine blk_drewN ?_ _ | refine blk_drew ?_ | refine blk_alloc ?_ _)); exact BK204.out)) : gb211 ≠ gb204)); have n9_ := Aside0.mk ((by rw [hg]; exact Nat.ne_of_lt (blk_lt (g := gb205) (o := .cells #[.int .i64 x206000_2, .int .i64 x206001_2, .int .i64 x206002_2, .int .i64 x206003_2, .int .i64 x206004_2, .int .i64 x206005_2, .int .i64 x206006_2, .int .i64 x206007_2] 22 (0, 0)) (by (with_reducible repeat (first | refine blk_drewN ?_ _ | refine blk_drew ?_ | refine blk_alloc ?_ _)); refine blk_far ?_ NB205_204.out _; (with_reducible repeat (first | refine blk_drewN ?_ _ | refine blk_drew ?_ | refine blk_alloc ?_ _)); refine blk_far ?_ NB205_204.out _; (with_reducible repeat (first | refine blk_drewN ?_ _ | refine blk_drew ?_ | refine blk_alloc ?_ _)); refine blk_far ?_ NB205_204.out _; (with_reducible repeat (first | refine blk_drewN ?_ _ | refine blk_drew ?_ | refine blk_alloc ?_ _)); refine blk_far ?_ NB205_204.out _; (with_reducible repeat (first | refine blk_drewN ?_ _ | refine blk_drew ?_ | refine blk_alloc ?_ _)); exact BK205.out)) : gb205 ≠ gb211)); have n10_ := Aside0.mk ((by rw [hg]; exact Nat.ne_of_gt (blk_lt (g := gb205) (o := .cells #[.int .i64 x206000_2, .int .i64 x206001_2, .int .i64 x206002_2, .int .i64 x206003_2, .int .i64 x206004_2, .int .i64 x206005_2, .int .i64 x206006_2, .int .i64 x206007_2] 22 (0, 0)) (by (with_reducible repeat (first | refine blk_drewN ?_ _ | refine blk_drew ?_ | refine blk_alloc ?_ _)); refine blk_far ?_ NB205_204.out _; (with_reducible repeat (first | refine blk_drewN ?_ _ | refine blk_drew ?_ | refine blk_alloc ?_ _)); refine blk_far ?_ NB205_204.out _; (with_reducible repeat (first | refine blk_drewN ?_ _ | refine blk_drew ?_ | refine blk_alloc ?_ _)); refine blk_far ?_ NB205_204.out _; (with_reducible repeat (first | refine blk_drewN ?_ _ | refine blk_drew ?_ | refine blk_alloc ?_ _)); refine blk_far ?_ NB205_204.out _; (with_reducible repeat (first | refine blk_drewN ?_ _ | refine blk_drew ?_ | refine blk_alloc ?_ _)); exact BK205.out)) : gb211 ≠ gb205)); have n11_ := Aside0.mk ((by rw [hg]; exact Nat.ne_of_lt (blk_lt (g := gb206) (o := .cells #[.int .i64 x207000_2, .int .i64 x207001_2, .int .i64 x207002_2, .int .i64 x207003_2, .int .i64 x207004_2, .int .i64 x207005_2, .int .i64 x207006_2, .int .i64 x207007_2] 22 (0, 0)) (by (with_reducible repeat (first | refine blk_drewN ?_ _ | refine blk_drew ?_ | refine blk_alloc ?_ _)); refine blk_far ?_ NB206_204.out _; (with_reducible repeat (first | refine blk_drewN ?_ _ | refine blk_drew ?_ | refine blk_alloc ?_ _)); refine blk_far ?_ NB206_204.out _; (with_reducible repeat (first | refine blk_drewN ?_ _ | refine blk_drew ?_ | refine blk_alloc ?_ _)); refine blk_far ?_ NB206_204.out _; (with_reducible repeat (first | refine blk_drewN ?_ _ | refine blk_drew ?_ | refine blk_alloc ?_ _)); refine blk_far ?_ NB206_204.out _; (with_reducible repeat (first | refine blk_drewN ?_ _ | refine blk_drew ?_ | refine blk_alloc ?_ _)); exact BK206.out)) : gb206 ≠ gb211)); have n12_ := Aside0.mk ((by rw [hg]; exact Nat.ne_of_gt (blk_lt (g := gb206) (o := .cells #[.int .i64 x207000_2, .int .i64 x207001_2, .int .i64 x207002_2, .int .i64 x207003_2, .int .i64 x207004_2, .int .i64 x207005_2, .int .i64 x207006_2, .int .i64 x207007_2] 22 (0, 0)) (by (with_reducible repeat (first | refine blk_drewN ?_ _ | refine blk_drew ?_ | refine blk_alloc ?_ _)); refine blk_far ?_ NB206_204.out _; (with_reducible repeat (first | refine blk_drewN ?_ _ | refine blk_drew ?_ | refine blk_alloc ?_ _)); refine blk_far ?_ NB206_204.out _; (with_reducible repeat (first | refine blk_drewN ?_ _ | refine blk_drew ?_ | refine blk_alloc ?_ _)); refine blk_far ?_ NB206_204.out _; (with_reducible repeat (first | refine blk_drewN ?_ _ | refine blk_drew ?_ | refine blk_alloc ?_ _)); refine blk_far ?_ NB206_204.out _; (with_reducible repeat (first | refine blk_drewN ?_ _ | refine blk_drew ?_ | refine blk_alloc ?_ _)); exact BK206.out)) : gb211 ≠ gb206)); clear BK204; clear BK205; clear BK206; clear HB; have BK204 := n0_; have BK205 := n1_; have BK206 := n2_; have HB := n3_; have BK211 := n4_; have GW211 := n5_; have GE211 := n6_; have NB204_211 := n7_; have NB211_204 := n8_; have NB205_211 := n9_; have NB211_205 := n10_; have NB206_211 := n11_; have NB211_206 := n12_; clear n0_ n1_ n2_ n3_ n4_ n5_ n6_ n7_ n8_ n9_ n10_ n11_ n12_; clear hb hbox hg) | (go_at_call 28; (with_reducible refine (mixer_signs.calls  t212 t213 t214 t215 t216 t217 t218 t219 _ A15.out).mono ?_); rintro e w22 ⟨rfl, hb⟩; have n0_ := Aside0.mk (blk_below (g := gb204) (o := .cells #[.int .i64 t207, .int .i64 t208, .int .i64 t209, .int .i64 t210] 39 (0, 0)) (by (with_reducible repeat (first | refine blk_drewN ?_ _ | refine blk_drew ?_ | refine blk_alloc ?_ _)); exact BK204.out) hb); have n1_ := Aside0.mk (blk_below (g := gb205) (o := .cells #[.int .i64 x206000_2, .int .i64 x206001_2, .int .i64 x206002_2, .int .i64 x206003_2, .int .i64 x206004_2, .int .i64 x206005_2, .int .i64 x206006_2, .int .i64 x206007_2] 22 (0, 0)) (by (with_reducible repeat (first | refine blk_drewN ?_ _ | refine blk_drew ?_ | refine blk_alloc ?_ _)); exact BK205.out) hb); have n2_ := Aside0.mk (blk_below (g := gb206) (o := .cells #[.int .i64 x207000_2, .int .i64 x207001_2, .int .i64 x207002_2, .int .i64 x207003_2, .int .i64 x207004_2, .int .i64 x207005_2, .int .i64 x207006_2, .int .i64 x207007_2] 22 (0, 0)) (by (with_reducible repeat (first | refine blk_drewN ?_ _ | refine blk_drew ?_ | refine blk_alloc ?_ _)); exact BK206.out) hb); have n3_ := Aside0.mk (blk_below (g := gb211) (o := .cells #[.int .i64 0, .int .i64 0, .int .i64 0, .int .i64 0] 54 (0, 0)) (by (with_reducible repeat (first | refine blk_drewN ?_ _ | refine blk_drew ?_ | refine blk_alloc ?_ _)); exact BK211.out) hb); have n4_ := Aside0.mk (below_step (by repeat (first | (with_reducible first | exact HB.out | apply below_alloc | apply pw_below_drewN | apply below_drew1 | refine below_set ?_ GE204.out | refine below_set ?_ GE205.out | refine below_set ?_ GE206.out | refine below_set ?_ GE211.out) | exact HB.out)) hb); clear BK204; clear BK205; clear BK206; clear BK211; clear HB; have BK204 := n0_; have BK205 := n1_; have BK206 := n2_; have BK211 := n3_; have HB := n4_; clear n0_ n1_ n2_ n3_ n4_; (try clear hb); (try clear hb2); (try clear hk); (try clear hi)))
        go_loopg [26] kj2 (fun kq v26 w' => ∃ (x26_2 : Int) (x212000_2 : Int) (x212001_2 : Int) (x212002_2 : Int) (x212003_2 : Int), v26 = .int .i64 x26_2 ∧ Aside0 (mixer_Mix.l0 kq a1 x26_2 t207 t208 t209 t210 x207000_2 x207001_2 x207002_2 x207003_2 x207004_2 x207005_2 x207006_2 x207007_2 x212000_2 x212001_2 x212002_2 x212003_2 t212 t213 t214 t215 t216 t217 t218 t219 = some (r1, r2, r3, r4, r5, r6, r7, r8, r9)) ∧ Aside0 (kq ≤ kj2) ∧ Aside0 (w'.heap[gb204]? = some (.cells #[.int .i64 t207, .int .i64 t208, .int .i64 t209, .int .i64 t210] 39 (0, 0))) ∧ Aside0 (w'.heap[gb205]? = some (.cells #[.int .i64 x206000_2, .int .i64 x206001_2, .int .i64 x206002_2, .int .i64 x206003_2, .int .i64 x206004_2, .int .i64 x206005_2, .int .i64 x206006_2, .int .i64 x206007_2] 22 (0, 0))) ∧ Aside0 (w'.heap[gb206]? = some (.cells #[.int .i64 x207000_2, .int .i64 x207001_2, .int .i64 x207002_2, .int .i64 x207003_2, .int .i64 x207004_2, .int .i64 x207005_2, .int .i64 x207006_2, .int .i64 x207007_2] 22 (0, 0))) ∧ Aside0 (w'.heap[gb211]? = some (.cells #[.int .i64 x212000_2, .int .i64 x212001_2, .int .i64 x212002_2, .int .i64 x212003_2] 54 (0, 0))) ∧ Aside0 (Below w.heap.size w w'))
        case atStart => exact ⟨(0), (0), (0), (0), (0), (by first | rfl | (simp; done) | (simp [*]; done)), H', ⟨Nat.le_refl _⟩, ⟨by (with_reducible repeat (first | refine blk_drewN ?_ _ | refine blk_drew ?_ | refine blk_alloc ?_ _)); exact BK204.out⟩, ⟨by (with_reducible repeat (first | refine blk_drewN ?_ _ | refine blk_drew ?_ | refine blk_alloc ?_ _)); exact BK205.out⟩, ⟨by (with_reducible repeat (first | refine blk_drewN ?_ _ | refine blk_drew ?_ | refine blk_alloc ?_ _)); exact BK206.out⟩, ⟨by (with_reducible repeat (first | refine blk_drewN ?_ _ | refine blk_drew ?_ | refine blk_alloc ?_ _)); exact BK211.out⟩, ⟨by repeat (first | (with_reducible first | exact HB.out | apply below_alloc | apply pw_below_drewN | apply below_drew1 | refine below_set ?_ GE204.out | refine below_set ?_ GE205.out | refine below_set ?_ GE206.out | refine below_set ?_ GE211.out) | exact HB.out)⟩⟩
        case round =>
          clear H'
          try clear c1
          try clear p2
          try clear c7
          try clear c7b0
          try clear c8
          try clear c9
          try clear c10
          try clear c12
          try clear c15
          try clear c16
          try clear c17
          try clear hcz11_0
          try clear hcz13_0
          try clear hcz18_0
          try clear hcz20_0
          try clear hfz11_0
          try clear hfz13_0
          try clear hfz18_0
          try clear hfz20_0
          try clear p2
          obtain ⟨x26_2, x212000_2, x212001_2, x212002_2, x212003_2, rfl, HA, HK2, BK204, BK205, BK206, BK211, HB⟩ := hrel
          cases gk with
          | zero => exact absurd HA.out (by simp [mixer_Mix.l0])
          | succ k2 =>
            have H := HA.out
            clear HA
            simp only [mixer_Mix.l0] at H
            by_cases c23 : x26_2 < 4
            · rw [if_pos c23] at H
              have c23b0 : decide (x26_2 < 4) = true := decide_eq_true c23
              clear c23
              by_cases c24 : x26_2 = 0
              · subst c24
                have H1 : (mixer_Mix.l0 k2 a1 1 t207 t208 t209 t210 x207000_2 x207001_2 x207002_2 x207003_2 x207004_2 x207005_2 x207006_2 x207007_2 (wrap64 ((wrap64 (t207 + (wrap64 (t212 * t208)))) + (wrap64 (t213 * t209)))) x212001_2 x212002_2 x212003_2 t212 t213 t214 t215 t216 t217 t218 t219) = some (r1, r2, r3, r4, r5, r6, r7, r8, r9) := by rw [if_pos rfl] at H; exact H
                clear H
                have H := H1
                clear H1
                have H' := Aside0.mk H
                clear H
                go_wp2_with (first | ((with_reducible refine gate_dst (N := 9) rfl ?_); refine box_event ?hg (N := 9) ?hd (cs := #[.int .i64 0, .int .i64 0]) (t := 55) ?hr ?_; (case hd => rfl); (case hg => rfl); (case hr => first | (go_simp; done) | (go_simp; rfl)); intro gb220 hg w25 hbox hb; have n0_ := Aside0.mk (blk_below (g := gb204) (o := .cells #[.int .i64 t207, .int .i64 t208, .int .i64 t209, .int .i64 t210] 39 (0, 0)) (by (with_reducible repeat (first | refine blk_drewN ?_ _ | refine blk_drew ?_ | refine blk_alloc ?_ _)); exact BK204.out) hb); have n1_ := Aside0.mk (blk_below (g := gb205) (o := .cells #[.int .i64 x206000_2, .int .i64 x206001_2, .int .i64 x206002_2, .int .i64 x206003_2, .int .i64 x206004_2, .int .i64 x206005_2, .int .i64 x206006_2, .int .i64 x206007_2] 22 (0, 0)) (by (with_reducible repeat (first | refine blk_drewN ?_ _ | refine blk_drew ?_ | refine blk_alloc ?_ _)); exact BK205.out) hb); have n2_ := Aside0.mk (blk_below (g := gb206) (o := .cells #[.int .i64 x207000_2, .int .i64 x207001_2, .int .i64 x207002_2, .int .i64 x207003_2, .int .i64 x207004_2, .int .i64 x207005_2, .int .i64 x207006_2, .int .i64 x207007_2] 22 (0, 0)) (by (with_reducible repeat (first | refine blk_drewN ?_ _ | refine blk_drew ?_ | refine blk_alloc ?_ _)); exact BK206.out) hb); have n3_ := Aside0.mk (blk_below (g := gb211) (o := .cells #[.int .i64 x212000_2, .int .i64 x212001_2, .int .i64 x212002_2, .int .i64 x212003_2] 54 (0, 0)) (by (with_reducible repeat (first | refine blk_drewN ?_ _ | refine blk_drew ?_ | refine blk_alloc ?_ _)); exact BK211.out) hb); have n4_ := Aside0.mk (below_step (by repeat (first | (with_reducible first | exact HB.out | apply below_alloc | apply pw_below_drewN | apply below_drew1 | refine below_set ?_ GE204.out | refine below_set ?_ GE205.out | refine below_set ?_ GE206.out | refine below_set ?_ GE211.out) | exact HB.out)) hb); have n5_ := Aside0.mk (hbox); have n6_ := Aside0.mk ((by rw [hg]; exact (below_size (by repeat (first | (with_reducible first | exact HB.out | apply below_alloc | apply pw_below_drewN | apply below_drew1 | refine below_set ?_ GE204.out | refine below_set ?_ GE205.out | refine below_set ?_ GE206.out | refine below_set ?_ GE211.out) | exact HB.out))) : w.heap.size ≤ gb220)); have n7_ := Aside0.mk ((by rw [hg]; exact (below_size (by repeat (first | (with_reducible first | exact HB.out | apply below_alloc | apply pw_below_drewN | apply below_drew1 | refine below_set ?_ GE204.out | refine below_set ?_ GE205.out | refine below_set ?_ GE206.out | refine below_set ?_ GE211.out) | exact HB.out))) : w.heap.size ≤ gb220)); have n8_ := Aside0.mk ((by rw [hg]; exact Nat.ne_of_lt (blk_lt (g := gb204) (o := .cells #[.int .i64 t207, .int .i64 t208, .int .i64 t209, .int .i64 t210] 39 (0, 0)) (by (with_reducible repeat (first | refine blk_drewN ?_ _ | refine blk_drew ?_ | refine blk_alloc ?_ _)); exact BK204.out)) : gb204 ≠ gb220)); have n9_ := Aside0.mk ((by rw [hg]; exact Nat.ne_of_gt (blk_lt (g := gb204) (o := .cells #[.int .i64 t207, .int .i64 t208, .int .i64 t209, .int .i64 t210] 39 (0, 0)) (by (with_reducible repeat (first | refine blk_drewN ?_ _ | refine blk_drew ?_ | refine blk_alloc ?_ _)); exact BK204.out)) : gb220 ≠ gb204)); have n10_ := Aside0.mk ((by rw [hg]; exact Nat.ne_of_lt (blk_lt (g := gb205) (o := .cells #[.int .i64 x206000_2, .int .i64 x206001_2, .int .i64 x206002_2, .int .i64 x206003_2, .int .i64 x206004_2, .int .i64 x206005_2, .int .i64 x206006_2, .int .i64 x206007_2] 22 (0, 0)) (by (with_reducible repeat (first | refine blk_drewN ?_ _ | refine blk_drew ?_ | refine blk_alloc ?_ _)); exact BK205.out)) : gb205 ≠ gb220)); have n11_ := Aside0.mk ((by rw [hg]; exact Nat.ne_of_gt (blk_lt (g := gb205) (o := .cells #[.int .i64 x206000_2, .int .i64 x206001_2, .int .i64 x206002_2, .int .i64 x206003_2, .int .i64 x206004_2, .int .i64 x206005_2, .int .i64 x206006_2, .int .i64 x206007_2] 22 (0, 0)) (by (with_reducible repeat (first | refine blk_drewN ?_ _ | refine blk_drew ?_ | refine blk_alloc ?_ _)); exact BK205.out)) : gb220 ≠ gb205)); have n12_ := Aside0.mk ((by rw [hg]; exact Nat.ne_of_lt (blk_lt (g := gb206) (o := .cells #[.int .i64 x207000_2, .int .i64 x207001_2, .int .i64 x207002_2, .int .i64 x207003_2, .int .i64 x207004_2, .int .i64 x207005_2, .int .i64 x207006_2, .int .i64 x207007_2] 22 (0, 0)) (by (with_reducible repeat (first | refine blk_drewN ?_ _ | refine blk_drew ?_ | refine blk_alloc ?_ _)); exact BK206.out)) : gb206 ≠ gb220)); have n13_ := Aside0.mk ((by rw [hg]; exact Nat.ne_of_gt (blk_lt (g := gb206) (o := .cells #[.int .i64 x207000_2, .int .i64 x207001_2, .int .i64 x207002_2, .int .i64 x207003_2, .int .i64 x207004_2, .int .i64 x207005_2, .int .i64 x207006_2, .int .i64 x207007_2] 22 (0, 0)) (by (with_reducible repeat (first | refine blk_drewN ?_ _ | refine blk_drew ?_ | refine blk_alloc ?_ _)); exact BK206.out)) : gb220 ≠ gb206)); have n14_ := Aside0.mk ((by rw [hg]; exact Nat.ne_of_lt (blk_lt (g := gb211) (o := .cells #[.int .i64 x212000_2, .int .i64 x212001_2, .int .i64 x212002_2, .int .i64 x212003_2] 54 (0, 0)) (by (with_reducible repeat (first | refine blk_drewN ?_ _ | refine blk_drew ?_ | refine blk_alloc ?_ _)); exact BK211.out)) : gb211 ≠ gb220)); have n15_ := Aside0.mk ((by rw [hg]; exact Nat.ne_of_gt (blk_lt (g := gb211) (o := .cells #[.int .i64 x212000_2, .int .i64 x212001_2, .int .i64 x212002_2, .int .i64 x212003_2] 54 (0, 0)) (by (with_reducible repeat (first | refine blk_drewN ?_ _ | refine blk_drew ?_ | refine blk_alloc ?_ _)); exact BK211.out)) : gb220 ≠ gb211)); clear BK204; clear BK205; clear BK206; clear BK211; clear HB; have BK204 := n0_; have BK205 := n1_; have BK206 := n2_; have BK211 := n3_; have HB := n4_; have BK220 := n5_; have GW220 := n6_; have GE220 := n7_; have NB204_220 := n8_; have NB220_204 := n9_; have NB205_220 := n10_; have NB220_205 := n11_; have NB206_220 := n12_; have NB220_206 := n13_; have NB211_220 := n14_; have NB220_211 := n15_; clear n0_ n1_ n2_ n3_ n4_ n5_ n6_ n7_ n8_ n9_ n10_ n11_ n12_ n13_ n14_ n15_; clear hb hbox hg; have hnb26 := NB220_204.out; have hnc26 := NB204_220.out; have hnb27 := NB220_205.out; have hnc27 := NB205_220.out; have hnb28 := NB220_206.out; have hnc28 := NB206_220.out; have hnb29 := NB220_211.out; have hnc29 := NB211_220.out; have hcz30_0 := blk_cells2 (w := w25) (g := gb220) BK220.out; have hfz30_0 := blk_frozen BK220.out; have hnb31 := NB204_205.out; have hnc31 := NB205_204.out; have hnb32 := NB204_206.out; have hnc32 := NB206_204.out; have hnb33 := NB204_211.out; have hnc33 := NB211_204.out; have hcz34_0 := blk_cells4 (w := w25) (g := gb204) BK204.out; have hfz34_0 := blk_frozen BK204.out; have hnb35 := NB211_205.out; have hnc35 := NB205_211.out; have hnb36 := NB211_206.out; have hnc36 := NB206_211.out; have hcz37_0 := blk_cells4 (w := w25) (g := gb211) BK211.out; have hfz37_0 := blk_frozen BK211.out))
                go_roundg k2
                case measure => have := HJ2.out; have := HK2.out; omega
                case rel => exact ⟨(1), (wrap64 ((wrap64 (t207 + (wrap64 (t212 * t208)))) + (wrap64 (t213 * t209)))), (x212001_2), (x212002_2), (x212003_2), (by first | rfl | (simp; done) | (simp [*]; done)), H', ⟨by have := HJ2.out; have := HK2.out; omega⟩, ⟨by (with_reducible repeat (first | refine blk_drewN ?_ _ | refine blk_drew ?_ | refine blk_alloc ?_ _)); refine blk_far ?_ NB204_211.out _; (with_reducible repeat (first | refine blk_drewN ?_ _ | refine blk_drew ?_ | refine blk_alloc ?_ _)); refine blk_far ?_ NB204_220.out _; (with_reducible repeat (first | refine blk_drewN ?_ _ | refine blk_drew ?_ | refine blk_alloc ?_ _)); refine blk_far ?_ NB204_220.out _; (with_reducible repeat (first | refine blk_drewN ?_ _ | refine blk_drew ?_ | refine blk_alloc ?_ _)); exact BK204.out⟩, ⟨by (with_reducible repeat (first | refine blk_drewN ?_ _ | refine blk_drew ?_ | refine blk_alloc ?_ _)); refine blk_far ?_ NB205_211.out _; (with_reducible repeat (first | refine blk_drewN ?_ _ | refine blk_drew ?_ | refine blk_alloc ?_ _)); refine blk_far ?_ NB205_220.out _; (with_reducible repeat (first | refine blk_drewN ?_ _ | refine blk_drew ?_ | refine blk_alloc ?_ _)); refine blk_far ?_ NB205_220.out _; (with_reducible repeat (first | refine blk_drewN ?_ _ | refine blk_drew ?_ | refine blk_alloc ?_ _)); exact BK205.out⟩, ⟨by (with_reducible repeat (first | refine blk_drewN ?_ _ | refine blk_drew ?_ | refine blk_alloc ?_ _)); refine blk_far ?_ NB206_211.out _; (with_reducible repeat (first | refine blk_drewN ?_ _ | refine blk_drew ?_ | refine blk_alloc ?_ _)); refine blk_far ?_ NB206_220.out _; (with_reducible repeat (first | refine blk_drewN ?_ _ | refine blk_drew ?_ | refine blk_alloc ?_ _)); refine blk_far ?_ NB206_220.out _; (with_reducible repeat (first | refine blk_drewN ?_ _ | refine blk_drew ?_ | refine blk_alloc ?_ _)); exact BK206.out⟩, ⟨by (with_reducible repeat (first | refine blk_drewN ?_ _ | refine blk_drew ?_ | refine blk_alloc ?_ _)); refine blk_put (cs := #[.int .i64 x212000_2, .int .i64 x212001_2, .int .i64 x212002_2, .int .i64 x212003_2]) ?_ 0 _ rfl; (with_reducible repeat (first | refine blk_drewN ?_ _ | refine blk_drew ?_ | refine blk_alloc ?_ _)); refine blk_far ?_ NB211_220.out _; (with_reducible repeat (first | refine blk_drewN ?_ _ | refine blk_drew ?_ | refine blk_alloc ?_ _)); refine blk_far ?_ NB211_220.out _; (with_reducible repeat (first | refine blk_drewN ?_ _ | refine blk_drew ?_ | refine blk_alloc ?_ _)); exact BK211.out⟩, ⟨by repeat (first | (with_reducible first | exact HB.out | apply below_alloc | apply pw_below_drewN | apply below_drew1 | refine below_set ?_ GE204.out | refine below_set ?_ GE205.out | refine below_set ?_ GE206.out | refine below_set ?_ GE211.out | refine below_set ?_ GE220.out) | exact HB.out)⟩⟩
              rw [if_neg c24] at H
              by_cases c38 : x26_2 = 1
              · subst c38
                have H1 : (mixer_Mix.l0 k2 a1 2 t207 t208 t209 t210 x207000_2 x207001_2 x207002_2 x207003_2 x207004_2 x207005_2 x207006_2 x207007_2 x212000_2 (wrap64 ((wrap64 (t207 + (wrap64 (t214 * t208)))) + (wrap64 (t215 * t209)))) x212002_2 x212003_2 t212 t213 t214 t215 t216 t217 t218 t219) = some (r1, r2, r3, r4, r5, r6, r7, r8, r9) := by rw [if_pos rfl] at H; exact H
                clear H
                have H := H1
                clear H1
                have H' := Aside0.mk H
                clear H
                go_wp2_with (first | ((with_reducible refine gate_dst (N := 9) rfl ?_); refine box_event ?hg (N := 9) ?hd (cs := #[.int .i64 0, .int .i64 0]) (t := 55) ?hr ?_; (case hd => rfl); (case hg => rfl); (case hr => first | (go_simp; done) | (go_simp; rfl)); intro gb221 hg w39 hbox hb; have n0_ := Aside0.mk (blk_below (g := gb204) (o := .cells #[.int .i64 t207, .int .i64 t208, .int .i64 t209, .int .i64 t210] 39 (0, 0)) (by (with_reducible repeat (first | refine blk_drewN ?_ _ | refine blk_drew ?_ | refine blk_alloc ?_ _)); exact BK204.out) hb); have n1_ := Aside0.mk (blk_below (g := gb205) (o := .cells #[.int .i64 x206000_2, .int .i64 x206001_2, .int .i64 x206002_2, .int .i64 x206003_2, .int .i64 x206004_2, .int .i64 x206005_2, .int .i64 x206006_2, .int .i64 x206007_2] 22 (0, 0)) (by (with_reducible repeat (first | refine blk_drewN ?_ _ | refine blk_drew ?_ | refine blk_alloc ?_ _)); exact BK205.out) hb); have n2_ := Aside0.mk (blk_below (g := gb206) (o := .cells #[.int .i64 x207000_2, .int .i64 x207001_2, .int .i64 x207002_2, .int .i64 x207003_2, .int .i64 x207004_2, .int .i64 x207005_2, .int .i64 x207006_2, .int .i64 x207007_2] 22 (0, 0)) (by (with_reducible repeat (first | refine blk_drewN ?_ _ | refine blk_drew ?_ | refine blk_alloc ?_ _)); exact BK206.out) hb); have n3_ := Aside0.mk (blk_below (g := gb211) (o := .cells #[.int .i64 x212000_2, .int .i64 x212001_2, .int .i64 x212002_2, .int .i64 x212003_2] 54 (0, 0)) (by (with_reducible repeat (first | refine blk_drewN ?_ _ | refine blk_drew ?_ | refine blk_alloc ?_ _)); exact BK211.out) hb); have n4_ := Aside0.mk (below_step (by repeat (first | (with_reducible first | exact HB.out | apply below_alloc | apply pw_below_drewN | apply below_drew1 | refine below_set ?_ GE204.out | refine below_set ?_ GE205.out | refine below_set ?_ GE206.out | refine below_set ?_ GE211.out) | exact HB.out)) hb); have n5_ := Aside0.mk (hbox); have n6_ := Aside0.mk ((by rw [hg]; exact (below_size (by repeat (first | (with_reducible first | exact HB.out | apply below_alloc | apply pw_below_drewN | apply below_drew1 | refine below_set ?_ GE204.out | refine below_set ?_ GE205.out | refine below_set ?_ GE206.out | refine below_set ?_ GE211.out) | exact HB.out))) : w.heap.size ≤ gb221)); have n7_ := Aside0.mk ((by rw [hg]; exact (below_size (by repeat (first | (with_reducible first | exact HB.out | apply below_alloc | apply pw_below_drewN | apply below_drew1 | refine below_set ?_ GE204.out | refine below_set ?_ GE205.out | refine below_set ?_ GE206.out | refine below_set ?_ GE211.out) | exact HB.out))) : w.heap.size ≤ gb221)); have n8_ := Aside0.mk ((by rw [hg]; exact Nat.ne_of_lt (blk_lt (g := gb204) (o := .cells #[.int .i64 t207, .int .i64 t208, .int .i64 t209, .int .i64 t210] 39 (0, 0)) (by (with_reducible repeat (first | refine blk_drewN ?_ _ | refine blk_drew ?_ | refine blk_alloc ?_ _)); exact BK204.out)) : gb204 ≠ gb221)); have n9_ := Aside0.mk ((by rw [hg]; exact Nat.ne_of_gt (blk_lt (g := gb204) (o := .cells #[.int .i64 t207, .int .i64 t208, .int .i64 t209, .int .i64 t210] 39 (0, 0)) (by (with_reducible repeat (first | refine blk_drewN ?_ _ | refine blk_drew ?_ | refine blk_alloc ?_ _)); exact BK204.out)) : gb221 ≠ gb204)); have n10_ := Aside0.mk ((by rw [hg]; exact Nat.ne_of_lt (blk_lt (g := gb205) (o := .cells #[.int .i64 x206000_2, .int .i64 x206001_2, .int .i64 x206002_2, .int .i64 x206003_2, .int .i64 x206004_2, .int .i64 x206005_2, .int .i64 x206006_2, .int .i64 x206007_2] 22 (0, 0)) (by (with_reducible repeat (first | refine blk_drewN ?_ _ | refine blk_drew ?_ | refine blk_alloc ?_ _)); exact BK205.out)) : gb205 ≠ gb221)); have n11_ := Aside0.mk ((by rw [hg]; exact Nat.ne_of_gt (blk_lt (g := gb205) (o := .cells #[.int .i64 x206000_2, .int .i64 x206001_2, .int .i64 x206002_2, .int .i64 x206003_2, .int .i64 x206004_2, .int .i64 x206005_2, .int .i64 x206006_2, .int .i64 x206007_2] 22 (0, 0)) (by (with_reducible repeat (first | refine blk_drewN ?_ _ | refine blk_drew ?_ | refine blk_alloc ?_ _)); exact BK205.out)) : gb221 ≠ gb205)); have n12_ := Aside0.mk ((by rw [hg]; exact Nat.ne_of_lt (blk_lt (g := gb206) (o := .cells #[.int .i64 x207000_2, .int .i64 x207001_2, .int .i64 x207002_2, .int .i64 x207003_2, .int .i64 x207004_2, .int .i64 x207005_2, .int .i64 x207006_2, .int .i64 x207007_2] 22 (0, 0)) (by (with_reducible repeat (first | refine blk_drewN ?_ _ | refine blk_drew ?_ | refine blk_alloc ?_ _)); exact BK206.out)) : gb206 ≠ gb221)); have n13_ := Aside0.mk ((by rw [hg]; exact Nat.ne_of_gt (blk_lt (g := gb206) (o := .cells #[.int .i64 x207000_2, .int .i64 x207001_2, .int .i64 x207002_2, .int .i64 x207003_2, .int .i64 x207004_2, .int .i64 x207005_2, .int .i64 x207006_2, .int .i64 x207007_2] 22 (0, 0)) (by (with_reducible repeat (first | refine blk_drewN ?_ _ | refine blk_drew ?_ | refine blk_alloc ?_ _)); exact BK206.out)) : gb221 ≠ gb206)); have n14_ := Aside0.mk ((by rw [hg]; exact Nat.ne_of_lt (blk_lt (g := gb211) (o := .cells #[.int .i64 x212000_2, .int .i64 x212001_2, .int .i64 x212002_2, .int .i64 x212003_2] 54 (0, 0)) (by (with_reducible repeat (first | refine blk_drewN ?_ _ | refine blk_drew ?_ | refine blk_alloc ?_ _)); exact BK211.out)) : gb211 ≠ gb221)); have n15_ := Aside0.mk ((by rw [hg]; exact Nat.ne_of_gt (blk_lt (g := gb211) (o := .cells #[.int .i64 x212000_2, .int .i64 x212001_2, .int .i64 x212002_2, .int .i64 x212003_2] 54 (0, 0)) (by (with_reducible repeat (first | refine blk_drewN ?_ _ | refine blk_drew ?_ | refine blk_alloc ?_ _)); exact BK211.out)) : gb221 ≠ gb211)); clear BK204; clear BK205; clear BK206; clear BK211; clear HB; have BK204 := n0_; have BK205 := n1_; have BK206 := n2_; have BK211 := n3_; have HB := n4_; have BK221 := n5_; have GW221 := n6_; have GE221 := n7_; have NB204_221 := n8_; have NB221_204 := n9_; have NB205_221 := n10_; have NB221_205 := n11_; have NB206_221 := n12_; have NB221_206 := n13_; have NB211_221 := n14_; have NB221_211 := n15_; clear n0_ n1_ n2_ n3_ n4_ n5_ n6_ n7_ n8_ n9_ n10_ n11_ n12_ n13_ n14_ n15_; clear hb hbox hg; have hnb40 := NB221_204.out; have hnc40 := NB204_221.out; have hnb41 := NB221_205.out; have hnc41 := NB205_221.out; have hnb42 := NB221_206.out; have hnc42 := NB206_221.out; have hnb43 := NB221_211.out; have hnc43 := NB211_221.out; have hcz44_0 := blk_cells2 (w := w39) (g := gb221) BK221.out; have hfz44_0 := blk_frozen BK221.out; have hnb45 := NB204_205.out; have hnc45 := NB205_204.out; have hnb46 := NB204_206.out; have hnc46 := NB206_204.out; have hnb47 := NB204_211.out; have hnc47 := NB211_204.out; have hcz48_0 := blk_cells4 (w := w39) (g := gb204) BK204.out; have hfz48_0 := blk_frozen BK204.out; have hnb49 := NB211_205.out; have hnc49 := NB205_211.out; have hnb50 := NB211_206.out; have hnc50 := NB206_211.out; have hcz51_0 := blk_cells4 (w := w39) (g := gb211) BK211.out; have hfz51_0 := blk_frozen BK211.out))
                go_roundg k2
                case measure => have := HJ2.out; have := HK2.out; omega
                case rel => exact ⟨(2), (x212000_2), (wrap64 ((wrap64 (t207 + (wrap64 (t214 * t208)))) + (wrap64 (t215 * t209)))), (x212002_2), (x212003_2), (by first | rfl | (simp; done) | (simp [*]; done)), H', ⟨by have := HJ2.out; have := HK2.out; omega⟩, ⟨by (with_reducible repeat (first | refine blk_drewN ?_ _ | refine blk_drew ?_ | refine blk_alloc ?_ _)); refine blk_far ?_ NB204_211.out _; (with_reducible repeat (first | refine blk_drewN ?_ _ | refine blk_drew ?_ | refine blk_alloc ?_ _)); refine blk_far ?_ NB204_221.out _; (with_reducible repeat (first | refine blk_drewN ?_ _ | refine blk_drew ?_ | refine blk_alloc ?_ _)); refine blk_far ?_ NB204_221.out _; (with_reducible repeat (first | refine blk_drewN ?_ _ | refine blk_drew ?_ | refine blk_alloc ?_ _)); exact BK204.out⟩, ⟨by (with_reducible repeat (first | refine blk_drewN ?_ _ | refine blk_drew ?_ | refine blk_alloc ?_ _)); refine blk_far ?_ NB205_211.out _; (with_reducible repeat (first | refine blk_drewN ?_ _ | refine blk_drew ?_ | refine blk_alloc ?_ _)); refine blk_far ?_ NB205_221.out _; (with_reducible repeat (first | refine blk_drewN ?_ _ | refine blk_drew ?_ | refine blk_alloc ?_ _)); refine blk_far ?_ NB205_221.out _; (with_reducible repeat (first | refine blk_drewN ?_ _ | refine blk_drew ?_ | refine blk_alloc ?_ _)); exact BK205.out⟩, ⟨by (with_reducible repeat (first | refine blk_drewN ?_ _ | refine blk_drew ?_ | refine blk_alloc ?_ _)); refine blk_far ?_ NB206_211.out _; (with_reducible repeat (first | refine blk_drewN ?_ _ | refine blk_drew ?_ | refine blk_alloc ?_ _)); refine blk_far ?_ NB206_221.out _; (with_reducible repeat (first | refine blk_drewN ?_ _ | refine blk_drew ?_ | refine blk_alloc ?_ _)); refine blk_far ?_ NB206_221.out _; (with_reducible repeat (first | refine blk_drewN ?_ _ | refine blk_drew ?_ | refine blk_alloc ?_ _)); exact BK206.out⟩, ⟨by (with_reducible repeat (first | refine blk_drewN ?_ _ | refine blk_drew ?_ | refine blk_alloc ?_ _)); refine blk_put (cs := #[.int .i64 x212000_2, .int .i64 x212001_2, .int .i64 x212002_2, .int .i64 x212003_2]) ?_ 1 _ rfl; (with_reducible repeat (first | refine blk_drewN ?_ _ | refine blk_drew ?_ | refine blk_alloc ?_ _)); refine blk_far ?_ NB211_221.out _; (with_reducible repeat (first | refine blk_drewN ?_ _ | refine blk_drew ?_ | refine blk_alloc ?_ _)); refine blk_far ?_ NB211_221.out _; (with_reducible repeat (first | refine blk_drewN ?_ _ | refine blk_drew ?_ | refine blk_alloc ?_ _)); exact BK211.out⟩, ⟨by repeat (first | (with_reducible first | exact HB.out | apply below_alloc | apply pw_below_drewN | apply below_drew1 | refine below_set ?_ GE204.out | refine below_set ?_ GE205.out | refine below_set ?_ GE206.out | refine below_set ?_ GE211.out | refine below_set ?_ GE221.out) | exact HB.out)⟩⟩
              rw [if_neg c38] at H
              by_cases c52 : x26_2 = 2
              · subst c52
                have H1 : (mixer_Mix.l0 k2 a1 3 t207 t208 t209 t210 x207000_2 x207001_2 x207002_2 x207003_2 x207004_2 x207005_2 x207006_2 x207007_2 x212000_2 x212001_2 (wrap64 ((wrap64 (t207 + (wrap64 (t216 * t208)))) + (wrap64 (t217 * t209)))) x212003_2 t212 t213 t214 t215 t216 t217 t218 t219) = some (r1, r2, r3, r4, r5, r6, r7, r8, r9) := by rw [if_pos rfl] at H; exact H
                clear H
                have H := H1
                clear H1
                have H' := Aside0.mk H
                clear H
                go_wp2_with (first | ((with_reducible refine gate_dst (N := 9) rfl ?_); refine box_event ?hg (N := 9) ?hd (cs := #[.int .i64 0, .int .i64 0]) (t := 55) ?hr ?_; (case hd => rfl); (case hg => rfl); (case hr => first | (go_simp; done) | (go_simp; rfl)); intro gb222 hg w53 hbox hb; have n0_ := Aside0.mk (blk_below (g := gb204) (o := .cells #[.int .i64 t207, .int .i64 t208, .int .i64 t209, .int .i64 t210] 39 (0, 0)) (by (with_reducible repeat (first | refine blk_drewN ?_ _ | refine blk_drew ?_ | refine blk_alloc ?_ _)); exact BK204.out) hb); have n1_ := Aside0.mk (blk_below (g := gb205) (o := .cells #[.int .i64 x206000_2, .int .i64 x206001_2, .int .i64 x206002_2, .int .i64 x206003_2, .int .i64 x206004_2, .int .i64 x206005_2, .int .i64 x206006_2, .int .i64 x206007_2] 22 (0, 0)) (by (with_reducible repeat (first | refine blk_drewN ?_ _ | refine blk_drew ?_ | refine blk_alloc ?_ _)); exact BK205.out) hb); have n2_ := Aside0.mk (blk_below (g := gb206) (o := .cells #[.int .i64 x207000_2, .int .i64 x207001_2, .int .i64 x207002_2, .int .i64 x207003_2, .int .i64 x207004_2, .int .i64 x207005_2, .int .i64 x207006_2, .int .i64 x207007_2] 22 (0, 0)) (by (with_reducible repeat (first | refine blk_drewN ?_ _ | refine blk_drew ?_ | refine blk_alloc ?_ _)); exact BK206.out) hb); have n3_ := Aside0.mk (blk_below (g := gb211) (o := .cells #[.int .i64 x212000_2, .int .i64 x212001_2, .int .i64 x212002_2, .int .i64 x212003_2] 54 (0, 0)) (by (with_reducible repeat (first | refine blk_drewN ?_ _ | refine blk_drew ?_ | refine blk_alloc ?_ _)); exact BK211.out) hb); have n4_ := Aside0.mk (below_step (by repeat (first | (with_reducible first | exact HB.out | apply below_alloc | apply pw_below_drewN | apply below_drew1 | refine below_set ?_ GE204.out | refine below_set ?_ GE205.out | refine below_set ?_ GE206.out | refine below_set ?_ GE211.out) | exact HB.out)) hb); have n5_ := Aside0.mk (hbox); have n6_ := Aside0.mk ((by rw [hg]; exact (below_size (by repeat (first | (with_reducible first | exact HB.out | apply below_alloc | apply pw_below_drewN | apply below_drew1 | refine below_set ?_ GE204.out | refine below_set ?_ GE205.out | refine below_set ?_ GE206.out | refine below_set ?_ GE211.out) | exact HB.out))) : w.heap.size ≤ gb222)); have n7_ := Aside0.mk ((by rw [hg]; exact (below_size (by repeat (first | (with_reducible first | exact HB.out | apply below_alloc | apply pw_below_drewN | apply below_drew1 | refine below_set ?_ GE204.out | refine below_set ?_ GE205.out | refine below_set ?_ GE206.out | refine below_set ?_ GE211.out) | exact HB.out))) : w.heap.size ≤ gb222)); have n8_ := Aside0.mk ((by rw [hg]; exact Nat.ne_of_lt (blk_lt (g := gb204) (o := .cells #[.int .i64 t207, .int .i64 t208, .int .i64 t209, .int .i64 t210] 39 (0, 0)) (by (with_reducible repeat (first | refine blk_drewN ?_ _ | refine blk_drew ?_ | refine blk_alloc ?_ _)); exact BK204.out)) : gb204 ≠ gb222)); have n9_ := Aside0.mk ((by rw [hg]; exact Nat.ne_of_gt (blk_lt (g := gb204) (o := .cells #[.int .i64 t207, .int .i64 t208, .int .i64 t209, .int .i64 t210] 39 (0, 0)) (by (with_reducible repeat (first | refine blk_drewN ?_ _ | refine blk_drew ?_ | refine blk_alloc ?_ _)); exact BK204.out)) : gb222 ≠ gb204)); have n10_ := Aside0.mk ((by rw [hg]; exact Nat.ne_of_lt (blk_lt (g := gb205) (o := .cells #[.int .i64 x206000_2, .int .i64 x206001_2, .int .i64 x206002_2, .int .i64 x206003_2, .int .i64 x206004_2, .int .i64 x206005_2, .int .i64 x206006_2, .int .i64 x206007_2] 22 (0, 0)) (by (with_reducible repeat (first | refine blk_drewN ?_ _ | refine blk_drew ?_ | refine blk_alloc ?_ _)); exact BK205.out)) : gb205 ≠ gb222)); have n11_ := Aside0.mk ((by rw [hg]; exact Nat.ne_of_gt (blk_lt (g := gb205) (o := .cells #[.int .i64 x206000_2, .int .i64 x206001_2, .int .i64 x206002_2, .int .i64 x206003_2, .int .i64 x206004_2, .int .i64 x206005_2, .int .i64 x206006_2, .int .i64 x206007_2] 22 (0, 0)) (by (with_reducible repeat (first | refine blk_drewN ?_ _ | refine blk_drew ?_ | refine blk_alloc ?_ _)); exact BK205.out)) : gb222 ≠ gb205)); have n12_ := Aside0.mk ((by rw [hg]; exact Nat.ne_of_lt (blk_lt (g := gb206) (o := .cells #[.int .i64 x207000_2, .int .i64 x207001_2, .int .i64 x207002_2, .int .i64 x207003_2, .int .i64 x207004_2, .int .i64 x207005_2, .int .i64 x207006_2, .int .i64 x207007_2] 22 (0, 0)) (by (with_reducible repeat (first | refine blk_drewN ?_ _ | refine blk_drew ?_ | refine blk_alloc ?_ _)); exact BK206.out)) : gb206 ≠ gb222)); have n13_ := Aside0.mk ((by rw [hg]; exact Nat.ne_of_gt (blk_lt (g := gb206) (o := .cells #[.int .i64 x207000_2, .int .i64 x207001_2, .int .i64 x207002_2, .int .i64 x207003_2, .int .i64 x207004_2, .int .i64 x207005_2, .int .i64 x207006_2, .int .i64 x207007_2] 22 (0, 0)) (by (with_reducible repeat (first | refine blk_drewN ?_ _ | refine blk_drew ?_ | refine blk_alloc ?_ _)); exact BK206.out)) : gb222 ≠ gb206)); have n14_ := Aside0.mk ((by rw [hg]; exact Nat.ne_of_lt (blk_lt (g := gb211) (o := .cells #[.int .i64 x212000_2, .int .i64 x212001_2, .int .i64 x212002_2, .int .i64 x212003_2] 54 (0, 0)) (by (with_reducible repeat (first | refine blk_drewN ?_ _ | refine blk_drew ?_ | refine blk_alloc ?_ _)); exact BK211.out)) : gb211 ≠ gb222)); have n15_ := Aside0.mk ((by rw [hg]; exact Nat.ne_of_gt (blk_lt (g := gb211) (o := .cells #[.int .i64 x212000_2, .int .i64 x212001_2, .int .i64 x212002_2, .int .i64 x212003_2] 54 (0, 0)) (by (with_reducible repeat (first | refine blk_drewN ?_ _ | refine blk_drew ?_ | refine blk_alloc ?_ _)); exact BK211.out)) : gb222 ≠ gb211)); clear BK204; clear BK205; clear BK206; clear BK211; clear HB; have BK204 := n0_; have BK205 := n1_; have BK206 := n2_; have BK211 := n3_; have HB := n4_; have BK222 := n5_; have GW222 := n6_; have GE222 := n7_; have NB204_222 := n8_; have NB222_204 := n9_; have NB205_222 := n10_; have NB222_205 := n11_; have NB206_222 := n12_; have NB222_206 := n13_; have NB211_222 := n14_; have NB222_211 := n15_; clear n0_ n1_ n2_ n3_ n4_ n5_ n6_ n7_ n8_ n9_ n10_ n11_ n12_ n13_ n14_ n15_; clear hb hbox hg; have hnb54 := NB222_204.out; have hnc54 := NB204_222.out; have hnb55 := NB222_205.out; have hnc55 := NB205_222.out; have hnb56 := NB222_206.out; have hnc56 := NB206_222.out; have hnb57 := NB222_211.out; have hnc57 := NB211_222.out; have hcz58_0 := blk_cells2 (w := w53) (g := gb222) BK222.out; have hfz58_0 := blk_frozen BK222.out; have hnb59 := NB204_205.out; have hnc59 := NB205_204.out; have hnb60 := NB204_206.out; have hnc60 := NB206_204.out; have hnb61 := NB204_211.out; have hnc61 := NB211_204.out; have hcz62_0 := blk_cells4 (w := w53) (g := gb204) BK204.out; have hfz62_0 := blk_frozen BK204.out; have hnb63 := NB211_205.out; have hnc63 := NB205_211.out; have hnb64 := NB211_206.out; have hnc64 := NB206_211.out; have hcz65_0 := blk_cells4 (w := w53) (g := gb211) BK211.out; have hfz65_0 := blk_frozen BK211.out))
                go_roundg k2
                case measure => have := HJ2.out; have := HK2.out; omega
                case rel => exact ⟨(3), (x212000_2), (x212001_2), (wrap64 ((wrap64 (t207 + (wrap64 (t216 * t208)))) + (wrap64 (t217 * t209)))), (x212003_2), (by first | rfl | (simp; done) | (simp [*]; done)), H', ⟨by have := HJ2.out; have := HK2.out; omega⟩, ⟨by (with_reducible repeat (first | refine blk_drewN ?_ _ | refine blk_drew ?_ | refine blk_alloc ?_ _)); refine blk_far ?_ NB204_211.out _; (with_reducible repeat (first | refine blk_drewN ?_ _ | refine blk_drew ?_ | refine blk_alloc ?_ _)); refine blk_far ?_ NB204_222.out _; (with_reducible repeat (first | refine blk_drewN ?_ _ | refine blk_drew ?_ | refine blk_alloc ?_ _)); refine blk_far ?_ NB204_222.out _; (with_reducible repeat (first | refine blk_drewN ?_ _ | refine blk_drew ?_ | refine blk_alloc ?_ _)); exact BK204.out⟩, ⟨by (with_reducible repeat (first | refine blk_drewN ?_ _ | refine blk_drew ?_ | refine blk_alloc ?_ _)); refine blk_far ?_ NB205_211.out _; (with_reducible repeat (first | refine blk_drewN ?_ _ | refine blk_drew ?_ | refine blk_alloc ?_ _)); refine blk_far ?_ NB205_222.out _; (with_reducible repeat (first | refine blk_drewN ?_ _ | refine blk_drew ?_ | refine blk_alloc ?_ _)); refine blk_far ?_ NB205_222.out _; (with_reducible repeat (first | refine blk_drewN ?_ _ | refine blk_drew ?_ | refine blk_alloc ?_ _)); exact BK205.out⟩, ⟨by (with_reducible repeat (first | refine blk_drewN ?_ _ | refine blk_drew ?_ | refine blk_alloc ?_ _)); refine blk_far ?_ NB206_211.out _; (with_reducible repeat (first | refine blk_drewN ?_ _ | refine blk_drew ?_ | refine blk_alloc ?_ _)); refine blk_far ?_ NB206_222.out _; (with_reducible repeat (first | refine blk_drewN ?_ _ | refine blk_drew ?_ | refine blk_alloc ?_ _)); refine blk_far ?_ NB206_222.out _; (with_reducible repeat (first | refine blk_drewN ?_ _ | refine blk_drew ?_ | refine blk_alloc ?_ _)); exact BK206.out⟩, ⟨by (with_reducible repeat (first | refine blk_drewN ?_ _ | refine blk_drew ?_ | refine blk_alloc ?_ _)); refine blk_put (cs := #[.int .i64 x212000_2, .int .i64 x212001_2, .int .i64 x212002_2, .int .i64 x212003_2]) ?_ 2 _ rfl; (with_reducible repeat (first | refine blk_drewN ?_ _ | refine blk_drew ?_ | refine blk_alloc ?_ _)); refine blk_far ?_ NB211_222.out _; (with_reducible repeat (first | refine blk_drewN ?_ _ | refine blk_drew ?_ | refine blk_alloc ?_ _)); refine blk_far ?_ NB211_222.out _; (with_reducible repeat (first | refine blk_drewN ?_ _ | refine blk_drew ?_ | refine blk_alloc ?_ _)); exact BK211.out⟩, ⟨by repeat (first | (with_reducible first | exact HB.out | apply below_alloc | apply pw_below_drewN | apply below_drew1 | refine below_set ?_ GE204.out | refine below_set ?_ GE205.out | refine below_set ?_ GE206.out | refine below_set ?_ GE211.out | refine below_set ?_ GE222.out) | exact HB.out)⟩⟩
              rw [if_neg c52] at H
              by_cases c66 : x26_2 = 3
              · subst c66
                have H1 : (mixer_Mix.l0 k2 a1 4 t207 t208 t209 t210 x207000_2 x207001_2 x207002_2 x207003_2 x207004_2 x207005_2 x207006_2 x207007_2 x212000_2 x212001_2 x212002_2 (wrap64 ((wrap64 (t207 + (wrap64 (t218 * t208)))) + (wrap64 (t219 * t209)))) t212 t213 t214 t215 t216 t217 t218 t219) = some (r1, r2, r3, r4, r5, r6, r7, r8, r9) := by rw [if_pos rfl] at H; exact H
                clear H
                have H := H1
                clear H1
                have H' := Aside0.mk H
                clear H
                go_wp2_with (first | ((with_reducible refine gate_dst (N := 9) rfl ?_); refine box_event ?hg (N := 9) ?hd (cs := #[.int .i64 0, .int .i64 0]) (t := 55) ?hr ?_; (case hd => rfl); (case hg => rfl); (case hr => first | (go_simp; done) | (go_simp; rfl)); intro gb223 hg w67 hbox hb; have n0_ := Aside0.mk (blk_below (g := gb204) (o := .cells #[.int .i64 t207, .int .i64 t208, .int .i64 t209, .int .i64 t210] 39 (0, 0)) (by (with_reducible repeat (first | refine blk_drewN ?_ _ | refine blk_drew ?_ | refine blk_alloc ?_ _)); exact BK204.out) hb); have n1_ := Aside0.mk (blk_below (g := gb205) (o := .cells #[.int .i64 x206000_2, .int .i64 x206001_2, .int .i64 x206002_2, .int .i64 x206003_2, .int .i64 x206004_2, .int .i64 x206005_2, .int .i64 x206006_2, .int .i64 x206007_2] 22 (0, 0)) (by (with_reducible repeat (first | refine blk_drewN ?_ _ | refine blk_drew ?_ | refine blk_alloc ?_ _)); exact BK205.out) hb); have n2_ := Aside0.mk (blk_below (g := gb206) (o := .cells #[.int .i64 x207000_2, .int .i64 x207001_2, .int .i64 x207002_2, .int .i64 x207003_2, .int .i64 x207004_2, .int .i64 x207005_2, .int .i64 x207006_2, .int .i64 x207007_2] 22 (0, 0)) (by (with_reducible repeat (first | refine blk_drewN ?_ _ | refine blk_drew ?_ | refine blk_alloc ?_ _)); exact BK206.out) hb); have n3_ := Aside0.mk (blk_below (g := gb211) (o := .cells #[.int .i64 x212000_2, .int .i64 x212001_2, .int .i64 x212002_2, .int .i64 x212003_2] 54 (0, 0)) (by (with_reducible repeat (first | refine blk_drewN ?_ _ | refine blk_drew ?_ | refine blk_alloc ?_ _)); exact BK211.out) hb); have n4_ := Aside0.mk (below_step (by repeat (first | (with_reducible first | exact HB.out | apply below_alloc | apply pw_below_drewN | apply below_drew1 | refine below_set ?_ GE204.out | refine below_set ?_ GE205.out | refine below_set ?_ GE206.out | refine below_set ?_ GE211.out) | exact HB.out)) hb); have n5_ := Aside0.mk (hbox); have n6_ := Aside0.mk ((by rw [hg]; exact (below_size (by repeat (first | (with_reducible first | exact HB.out | apply below_alloc | apply pw_below_drewN | apply below_drew1 | refine below_set ?_ GE204.out | refine below_set ?_ GE205.out | refine below_set ?_ GE206.out | refine below_set ?_ GE211.out) | exact HB.out))) : w.heap.size ≤ gb223)); have n7_ := Aside0.mk ((by rw [hg]; exact (below_size (by repeat (first | (with_reducible first | exact HB.out | apply below_alloc | apply pw_below_drewN | apply below_drew1 | refine below_set ?_ GE204.out | refine below_set ?_ GE205.out | refine below_set ?_ GE206.out | refine below_set ?_ GE211.out) | exact HB.out))) : w.heap.size ≤ gb223)); have n8_ := Aside0.mk ((by rw [hg]; exact Nat.ne_of_lt (blk_lt (g := gb204) (o := .cells #[.int .i64 t207, .int .i64 t208, .int .i64 t209, .int .i64 t210] 39 (0, 0)) (by (with_reducible repeat (first | refine blk_drewN ?_ _ | refine blk_drew ?_ | refine blk_alloc ?_ _)); exact BK204.out)) : gb204 ≠ gb223)); have n9_ := Aside0.mk ((by rw [hg]; exact Nat.ne_of_gt (blk_lt (g := gb204) (o := .cells #[.int .i64 t207, .int .i64 t208, .int .i64 t209, .int .i64 t210] 39 (0, 0)) (by (with_reducible repeat (first | refine blk_drewN ?_ _ | refine blk_drew ?_ | refine blk_alloc ?_ _)); exact BK204.out)) : gb223 ≠ gb204)); have n10_ := Aside0.mk ((by rw [hg]; exact Nat.ne_of_lt (blk_lt (g := gb205) (o := .cells #[.int .i64 x206000_2, .int .i64 x206001_2, .int .i64 x206002_2, .int .i64 x206003_2, .int .i64 x206004_2, .int .i64 x206005_2, .int .i64 x206006_2, .int .i64 x206007_2] 22 (0, 0)) (by (with_reducible repeat (first | refine blk_drewN ?_ _ | refine blk_drew ?_ | refine blk_alloc ?_ _)); exact BK205.out)) : gb205 ≠ gb223)); have n11_ := Aside0.mk ((by rw [hg]; exact Nat.ne_of_gt (blk_lt (g := gb205) (o := .cells #[.int .i64 x206000_2, .int .i64 x206001_2, .int .i64 x206002_2, .int .i64 x206003_2, .int .i64 x206004_2, .int .i64 x206005_2, .int .i64 x206006_2, .int .i64 x206007_2] 22 (0, 0)) (by (with_reducible repeat (first | refine blk_drewN ?_ _ | refine blk_drew ?_ | refine blk_alloc ?_ _)); exact BK205.out)) : gb223 ≠ gb205)); have n12_ := Aside0.mk ((by rw [hg]; exact Nat.ne_of_lt (blk_lt (g := gb206) (o := .cells #[.int .i64 x207000_2, .int .i64 x207001_2, .int .i64 x207002_2, .int .i64 x207003_2, .int .i64 x207004_2, .int .i64 x207005_2, .int .i64 x207006_2, .int .i64 x207007_2] 22 (0, 0)) (by (with_reducible repeat (first | refine blk_drewN ?_ _ | refine blk_drew ?_ | refine blk_alloc ?_ _)); exact BK206.out)) : gb206 ≠ gb223)); have n13_ := Aside0.mk ((by rw [hg]; exact Nat.ne_of_gt (blk_lt (g := gb206) (o := .cells #[.int .i64 x207000_2, .int .i64 x207001_2, .int .i64 x207002_2, .int .i64 x207003_2, .int .i64 x207004_2, .int .i64 x207005_2, .int .i64 x207006_2, .int .i64 x207007_2] 22 (0, 0)) (by (with_reducible repeat (first | refine blk_drewN ?_ _ | refine blk_drew ?_ | refine blk_alloc ?_ _)); exact BK206.out)) : gb223 ≠ gb206)); have n14_ := Aside0.mk ((by rw [hg]; exact Nat.ne_of_lt (blk_lt (g := gb211) (o := .cells #[.int .i64 x212000_2, .int .i64 x212001_2, .int .i64 x212002_2, .int .i64 x212003_2] 54 (0, 0)) (by (with_reducible repeat (first | refine blk_drewN ?_ _ | refine blk_drew ?_ | refine blk_alloc ?_ _)); exact BK211.out)) : gb211 ≠ gb223)); have n15_ := Aside0.mk ((by rw [hg]; exact Nat.ne_of_gt (blk_lt (g := gb211) (o := .cells #[.int .i64 x212000_2, .int .i64 x212001_2, .int .i64 x212002_2, .int .i64 x212003_2] 54 (0, 0)) (by (with_reducible repeat (first | refine blk_drewN ?_ _ | refine blk_drew ?_ | refine blk_alloc ?_ _)); exact BK211.out)) : gb223 ≠ gb211)); clear BK204; clear BK205; clear BK206; clear BK211; clear HB; have BK204 := n0_; have BK205 := n1_; have BK206 := n2_; have BK211 := n3_; have HB := n4_; have BK223 := n5_; have GW223 := n6_; have GE223 := n7_; have NB204_223 := n8_; have NB223_204 := n9_; have NB205_223 := n10_; have NB223_205 := n11_; have NB206_223 := n12_; have NB223_206 := n13_; have NB211_223 := n14_; have NB223_211 := n15_; clear n0_ n1_ n2_ n3_ n4_ n5_ n6_ n7_ n8_ n9_ n10_ n11_ n12_ n13_ n14_ n15_; clear hb hbox hg; have hnb68 := NB223_204.out; have hnc68 := NB204_223.out; have hnb69 := NB223_205.out; have hnc69 := NB205_223.out; have hnb70 := NB223_206.out; have hnc70 := NB206_223.out; have hnb71 := NB223_211.out; have hnc71 := NB211_223.out; have hcz72_0 := blk_cells2 (w := w67) (g := gb223) BK223.out; have hfz72_0 := blk_frozen BK223.out; have hnb73 := NB204_205.out; have hnc73 := NB205_204.out; have hnb74 := NB204_206.out; have hnc74 := NB206_204.out; have hnb75 := NB204_211.out; have hnc75 := NB211_204.out; have hcz76_0 := blk_cells4 (w := w67) (g := gb204) BK204.out; have hfz76_0 := blk_frozen BK204.out; have hnb77 := NB211_205.out; have hnc77 := NB205_211.out; have hnb78 := NB211_206.out; have hnc78 := NB206_211.out; have hcz79_0 := blk_cells4 (w := w67) (g := gb211) BK211.out; have hfz79_0 := blk_frozen BK211.out))
                go_roundg k2
                case measure => have := HJ2.out; have := HK2.out; omega
                case rel => exact ⟨(4), (x212000_2), (x212001_2), (x212002_2), (wrap64 ((wrap64 (t207 + (wrap64 (t218 * t208)))) + (wrap64 (t219 * t209)))), (by first | rfl | (simp; done) | (simp [*]; done)), H', ⟨by have := HJ2.out; have := HK2.out; omega⟩, ⟨by (with_reducible repeat (first | refine blk_drewN ?_ _ | refine blk_drew ?_ | refine blk_alloc ?_ _)); refine blk_far ?_ NB204_211.out _; (with_reducible repeat (first | refine blk_drewN ?_ _ | refine blk_drew ?_ | refine blk_alloc ?_ _)); refine blk_far ?_ NB204_223.out _; (with_reducible repeat (first | refine blk_drewN ?_ _ | refine blk_drew ?_ | refine blk_alloc ?_ _)); refine blk_far ?_ NB204_223.out _; (with_reducible repeat (first | refine blk_drewN ?_ _ | refine blk_drew ?_ | refine blk_alloc ?_ _)); exact BK204.out⟩, ⟨by (with_reducible repeat (first | refine blk_drewN ?_ _ | refine blk_drew ?_ | refine blk_alloc ?_ _)); refine blk_far ?_ NB205_211.out _; (with_reducible repeat (first | refine blk_drewN ?_ _ | refine blk_drew ?_ | refine blk_alloc ?_ _)); refine blk_far ?_ NB205_223.out _; (with_reducible repeat (first | refine blk_drewN ?_ _ | refine blk_drew ?_ | refine blk_alloc ?_ _)); refine blk_far ?_ NB205_223.out _; (with_reducible repeat (first | refine blk_drewN ?_ _ | refine blk_drew ?_ | refine blk_alloc ?_ _)); exact BK205.out⟩, ⟨by (with_reducible repeat (first | refine blk_drewN ?_ _ | refine blk_drew ?_ | refine blk_alloc ?_ _)); refine blk_far ?_ NB206_211.out _; (with_reducible repeat (first | refine blk_drewN ?_ _ | refine blk_drew ?_ | refine blk_alloc ?_ _)); refine blk_far ?_ NB206_223.out _; (with_reducible repeat (first | refine blk_drewN ?_ _ | refine blk_drew ?_ | refine blk_alloc ?_ _)); refine blk_far ?_ NB206_223.out _; (with_reducible repeat (first | refine blk_drewN ?_ _ | refine blk_drew ?_ | refine blk_alloc ?_ _)); exact BK206.out⟩, ⟨by (with_reducible repeat (first | refine blk_drewN ?_ _ | refine blk_drew ?_ | refine blk_alloc ?_ _)); refine blk_put (cs := #[.int .i64 x212000_2, .int .i64 x212001_2, .int .i64 x212002_2, .int .i64 x212003_2]) ?_ 3 _ rfl; (with_reducible repeat (first | refine blk_drewN ?_ _ | refine blk_drew ?_ | refine blk_alloc ?_ _)); refine blk_far ?_ NB211_223.out _; (with_reducible repeat (first | refine blk_drewN ?_ _ | refine blk_drew ?_ | refine blk_alloc ?_ _)); refine blk_far ?_ NB211_223.out _; (with_reducible repeat (first | refine blk_drewN ?_ _ | refine blk_drew ?_ | refine blk_alloc ?_ _)); exact BK211.out⟩, ⟨by repeat (first | (with_reducible first | exact HB.out | apply below_alloc | apply pw_below_drewN | apply below_drew1 | refine below_set ?_ GE204.out | refine below_set ?_ GE205.out | refine below_set ?_ GE206.out | refine below_set ?_ GE211.out | refine below_set ?_ GE223.out) | exact HB.out)⟩⟩
              rw [if_neg c66] at H
              exact absurd H (by simp)
            · rw [if_neg c23] at H
              have c23b0 : decide (x26_2 < 4) = false := decide_eq_false c23
              clear c23
              have HC80 := Aside0.mk H
              clear H
              have hnb81 := NB204_205.out
              have hnc81 := NB205_204.out
              have hnb82 := NB204_206.out
              have hnc82 := NB206_204.out
              have hnb83 := NB204_211.out
              have hnc83 := NB211_204.out
              have hcz84_0 := blk_cells4 (w := wr) (g := gb204) BK204.out
              have hfz84_0 := blk_frozen BK204.out
              go_upto_if 50 with (fail)
              repeat (go_quiet (fail); go_upto_if 50 with (fail))
              go_cut [10, 11] (fun v10 v11 wc => ∃ (kq : Nat) (x10_79 : Int) (x11_79 : Int) (x207000_79 : Int) (x207001_79 : Int) (x207002_79 : Int) (x207003_79 : Int) (x207004_79 : Int) (x207005_79 : Int) (x207006_79 : Int) (x207007_79 : Int), v10 = .int .i64 x10_79 ∧ v11 = .int .i64 x11_79 ∧ Aside0 (mixer_Mix.j2 kq x10_79 x11_79 x207000_79 x207001_79 x207002_79 x207003_79 x207004_79 x207005_79 x207006_79 x207007_79 x212000_2 x212001_2 x212002_2 x212003_2 = some (r1, r2, r3, r4, r5, r6, r7, r8, r9)) ∧ Aside0 (kq ≤ k2) ∧ Aside0 (wc.heap[gb204]? = some (.cells #[.int .i64 t207, .int .i64 t208, .int .i64 t209, .int .i64 t210] 39 (0, 0))) ∧ Aside0 (wc.heap[gb205]? = some (.cells #[.int .i64 x206000_2, .int .i64 x206001_2, .int .i64 x206002_2, .int .i64 x206003_2, .int .i64 x206004_2, .int .i64 x206005_2, .int .i64 x206006_2, .int .i64 x206007_2] 22 (0, 0))) ∧ Aside0 (wc.heap[gb206]? = some (.cells #[.int .i64 x207000_79, .int .i64 x207001_79, .int .i64 x207002_79, .int .i64 x207003_79, .int .i64 x207004_79, .int .i64 x207005_79, .int .i64 x207006_79, .int .i64 x207007_79] 22 (0, 0))) ∧ Aside0 (wc.heap[gb211]? = some (.cells #[.int .i64 x212000_2, .int .i64 x212001_2, .int .i64 x212002_2, .int .i64 x212003_2] 54 (0, 0))) ∧ Aside0 (Below w.heap.size w wc))
              case first =>
                have H := HC80.out
                clear HC80
                by_cases c85 : a1 > 0
                · rw [if_pos c85] at H
                  have c85b0 : decide (0 < a1) = true := decide_eq_true c85
                  clear c85
                  (first | rw [c85b0] | (simp only [i64_w, i32_w]; rw [c85b0]) | skip)
                  by_cases c86 : a1 = 1
                  · subst c86
                    have H1 : ((mixer_floor.f (wrap64 ((wrap64 (4 * t210)) - (wrap64 (x207000_2 - x212000_2)))) 3).bind fun t224 => (mixer_Mix.j2 k2 0 t224 x207000_2 x212000_2 x207002_2 x207003_2 x207004_2 x207005_2 x207006_2 x207007_2 x212000_2 x212001_2 x212002_2 x212003_2)) = some (r1, r2, r3, r4, r5, r6, r7, r8, r9) := by rw [if_pos rfl] at H; exact H
                    clear H
                    have H := H1
                    clear H1
                    have hbz87 : Go.bits .xor .i64 0 1 = 1 := by decide +kernel
                    replace H := Option.bind_eq_some_iff.mp H
                    obtain ⟨t224, A880, H⟩ := H
                    replace H : (mixer_Mix.j2 k2 0 t224 x207000_2 x212000_2 x207002_2 x207003_2 x207004_2 x207005_2 x207006_2 x207007_2 x212000_2 x212001_2 x212002_2 x212003_2) = some (r1, r2, r3, r4, r5, r6, r7, r8, r9) := H
                    have A88 := Aside0.mk A880
                    clear A880
                    have H' := Aside0.mk H
                    clear H
                    have hnb89 := NB211_204.out
                    have hnc89 := NB204_211.out
                    have hnb90 := NB211_205.out
                    have hnc90 := NB205_211.out
                    have hnb91 := NB211_206.out
                    have hnc91 := NB206_211.out
                    have hcz92_0 := blk_cells4 (w := wr) (g := gb211) BK211.out
                    have hfz92_0 := blk_frozen BK211.out
                    have hnb93 := NB206_204.out
                    have hnc93 := NB204_206.out
                    have hnb94 := NB206_205.out
                    have hnc94 := NB205_206.out
                    have hcz95_0 := blk_cells8 (w := wr) (g := gb206) BK206.out
                    have hfz95_0 := blk_frozen BK206.out
                    have hnb96 := NB204_205.out
                    have hnc96 := NB205_204.out
                    have hcz97_0 := blk_cells4 (w := wr) (g := gb204) BK204.out
                    have hfz97_0 := blk_frozen BK204.out
                    go_wp2_with (first | (go_at_call 29; (with_reducible refine (mixer_floor.calls (wrap64 ((wrap64 (4 * t210)) - (wrap64 (x207000_2 - x212000_2)))) 3 t224 _ A88.out).mono ?_); rintro e w' ⟨rfl, ⟨nd, rfl⟩⟩; (try first | exact ⟨rfl, _, World.drewN_drewN _ _ _⟩ | exact ⟨rfl, _, Eq.trans (World.drewN_drewN _ _ _) (congrArg (World.drewN _) (Nat.add_assoc _ _ _))⟩)))
                    repeat (go_quiet (first | (go_at_call 29; (with_reducible refine (mixer_floor.calls (wrap64 ((wrap64 (4 * t210)) - (wrap64 (x207000_2 - x212000_2)))) 3 t224 _ A88.out).mono ?_); rintro e w' ⟨rfl, ⟨nd, rfl⟩⟩; (try first | exact ⟨rfl, _, World.drewN_drewN _ _ _⟩ | exact ⟨rfl, _, Eq.trans (World.drewN_drewN _ _ _) (congrArg (World.drewN _) (Nat.add_assoc _ _ _))⟩))); try go_wp2_with (first | (go_at_call 29; (with_reducible refine (mixer_floor.calls (wrap64 ((wrap64 (4 * t210)) - (wrap64 (x207000_2 - x212000_2)))) 3 t224 _ A88.out).mono ?_); rintro e w' ⟨rfl, ⟨nd, rfl⟩⟩; (try first | exact ⟨rfl, _, World.drewN_drewN _ _ _⟩ | exact ⟨rfl, _, Eq.trans (World.drewN_drewN _ _ _) (congrArg (World.drewN _) (Nat.add_assoc _ _ _))⟩))))
                    go_meet
                    case rel => exact ⟨_, (0), (t224), (x207000_2), (x212000_2), (x207002_2), (x207003_2), (x207004_2), (x207005_2), (x207006_2), (x207007_2), (by first | rfl | (simp; done) | (simp [*]; done)), (by first | rfl | (simp; done) | (simp [*]; done)), H', ⟨by have := HJ2.out; have := HK2.out; first | omega | exact Nat.le_refl _⟩, ⟨by (with_reducible repeat (first | refine blk_drewN ?_ _ | refine blk_drew ?_ | refine blk_alloc ?_ _)); refine blk_far ?_ NB204_206.out _; (with_reducible repeat (first | refine blk_drewN ?_ _ | refine blk_drew ?_ | refine blk_alloc ?_ _)); exact BK204.out⟩, ⟨by (with_reducible repeat (first | refine blk_drewN ?_ _ | refine blk_drew ?_ | refine blk_alloc ?_ _)); refine blk_far ?_ NB205_206.out _; (with_reducible repeat (first | refine blk_drewN ?_ _ | refine blk_drew ?_ | refine blk_alloc ?_ _)); exact BK205.out⟩, ⟨by (with_reducible repeat (first | refine blk_drewN ?_ _ | refine blk_drew ?_ | refine blk_alloc ?_ _)); refine blk_put (cs := #[.int .i64 x207000_2, .int .i64 x207001_2, .int .i64 x207002_2, .int .i64 x207003_2, .int .i64 x207004_2, .int .i64 x207005_2, .int .i64 x207006_2, .int .i64 x207007_2]) ?_ 1 _ rfl; (with_reducible repeat (first | refine blk_drewN ?_ _ | refine blk_drew ?_ | refine blk_alloc ?_ _)); exact BK206.out⟩, ⟨by (with_reducible repeat (first | refine blk_drewN ?_ _ | refine blk_drew ?_ | refine blk_alloc ?_ _)); refine blk_far ?_ NB211_206.out _; (with_reducible repeat (first | refine blk_drewN ?_ _ | refine blk_drew ?_ | refine blk_alloc ?_ _)); exact BK211.out⟩, ⟨by repeat (first | (with_reducible first | exact HB.out | apply below_alloc | apply pw_below_drewN | apply below_drew1 | refine below_set ?_ GE204.out | refine below_set ?_ GE205.out | refine below_set ?_ GE206.out | refine below_set ?_ GE211.out) | exact HB.out)⟩⟩
                  rw [if_neg c86] at H
                  by_cases c98 : a1 = 2
                  · subst c98
                    have H1 : ((mixer_floor.f (wrap64 ((wrap64 (4 * t210)) - (wrap64 (x212000_2 - x207001_2)))) 3).bind fun t225 => (mixer_Mix.j2 k2 0 t225 x212000_2 x207001_2 x207002_2 x207003_2 x207004_2 x207005_2 x207006_2 x207007_2 x212000_2 x212001_2 x212002_2 x212003_2)) = some (r1, r2, r3, r4, r5, r6, r7, r8, r9) := by rw [if_pos rfl] at H; exact H
                    clear H
                    have H := H1
                    clear H1
                    have hbz99 : Go.bits .xor .i64 1 1 = 0 := by decide +kernel
                    replace H := Option.bind_eq_some_iff.mp H
                    obtain ⟨t225, A1000, H⟩ := H
                    replace H : (mixer_Mix.j2 k2 0 t225 x212000_2 x207001_2 x207002_2 x207003_2 x207004_2 x207005_2 x207006_2 x207007_2 x212000_2 x212001_2 x212002_2 x212003_2) = some (r1, r2, r3, r4, r5, r6, r7, r8, r9) := H
                    have A100 := Aside0.mk A1000
                    clear A1000
                    have H' := Aside0.mk H
                    clear H
                    have hnb101 := NB211_204.out
                    have hnc101 := NB204_211.out
                    have hnb102 := NB211_205.out
                    have hnc102 := NB205_211.out
                    have hnb103 := NB211_206.out
                    have hnc103 := NB206_211.out
                    have hcz104_0 := blk_cells4 (w := wr) (g := gb211) BK211.out
                    have hfz104_0 := blk_frozen BK211.out
                    have hnb105 := NB206_204.out
                    have hnc105 := NB204_206.out
                    have hnb106 := NB206_205.out
                    have hnc106 := NB205_206.out
                    have hcz107_0 := blk_cells8 (w := wr) (g := gb206) BK206.out
                    have hfz107_0 := blk_frozen BK206.out
                    have hnb108 := NB204_205.out
                    have hnc108 := NB205_204.out
                    have hcz109_0 := blk_cells4 (w := wr) (g := gb204) BK204.out
                    have hfz109_0 := blk_frozen BK204.out
                    go_wp2_with (first | (go_at_call 29; (with_reducible refine (mixer_floor.calls (wrap64 ((wrap64 (4 * t210)) - (wrap64 (x212000_2 - x207001_2)))) 3 t225 _ A100.out).mono ?_); rintro e w' ⟨rfl, ⟨nd, rfl⟩⟩; (try first | exact ⟨rfl, _, World.drewN_drewN _ _ _⟩ | exact ⟨rfl, _, Eq.trans (World.drewN_drewN _ _ _) (congrArg (World.drewN _) (Nat.add_assoc _ _ _))⟩)))
                    repeat (go_quiet (first | (go_at_call 29; (with_reducible refine (mixer_floor.calls (wrap64 ((wrap64 (4 * t210)) - (wrap64 (x212000_2 - x207001_2)))) 3 t225 _ A100.out).mono ?_); rintro e w' ⟨rfl, ⟨nd, rfl⟩⟩; (try first | exact ⟨rfl, _, World.drewN_drewN _ _ _⟩ | exact ⟨rfl, _, Eq.trans (World.drewN_drewN _ _ _) (congrArg (World.drewN _) (Nat.add_assoc _ _ _))⟩))); try go_wp2_with (first | (go_at_call 29; (with_reducible refine (mixer_floor.calls (wrap64 ((wrap64 (4 * t210)) - (wrap64 (x212000_2 - x207001_2)))) 3 t225 _ A100.out).mono ?_); rintro e w' ⟨rfl, ⟨nd, rfl⟩⟩; (try first | exact ⟨rfl, _, World.drewN_drewN _ _ _⟩ | exact ⟨rfl, _, Eq.trans (World.drewN_drewN _ _ _) (congrArg (World.drewN _) (Nat.add_assoc _ _ _))⟩))))
                    go_meet
                    case rel => exact ⟨_, (0), (t225), (x212000_2), (x207001_2), (x207002_2), (x207003_2), (x207004_2), (x207005_2), (x207006_2), (x207007_2), (by first | rfl | (simp; done) | (simp [*]; done)), (by first | rfl | (simp; done) | (simp [*]; done)), H', ⟨by have := HJ2.out; have := HK2.out; first | omega | exact Nat.le_refl _⟩, ⟨by (with_reducible repeat (first | refine blk_drewN ?_ _ | refine blk_drew ?_ | refine blk_alloc ?_ _)); refine blk_far ?_ NB204_206.out _; (with_reducible repeat (first | refine blk_drewN ?_ _ | refine blk_drew ?_ | refine blk_alloc ?_ _)); exact BK204.out⟩, ⟨by (with_reducible repeat (first | refine blk_drewN ?_ _ | refine blk_drew ?_ | refine blk_alloc ?_ _)); refine blk_far ?_ NB205_206.out _; (with_reducible repeat (first | refine blk_drewN ?_ _ | refine blk_drew ?_ | refine blk_alloc ?_ _)); exact BK205.out⟩, ⟨by (with_reducible repeat (first | refine blk_drewN ?_ _ | refine blk_drew ?_ | refine blk_alloc ?_ _)); refine blk_put (cs := #[.int .i64 x207000_2, .int .i64 x207001_2, .int .i64 x207002_2, .int .i64 x207003_2, .int .i64 x207004_2, .int .i64 x207005_2, .int .i64 x207006_2, .int .i64 x207007_2]) ?_ 0 _ rfl; (with_reducible repeat (first | refine blk_drewN ?_ _ | refine blk_drew ?_ | refine blk_alloc ?_ _)); exact BK206.out⟩, ⟨by (with_reducible repeat (first | refine blk_drewN ?_ _ | refine blk_drew ?_ | refine blk_alloc ?_ _)); refine blk_far ?_ NB211_206.out _; (with_reducible repeat (first | refine blk_drewN ?_ _ | refine blk_drew ?_ | refine blk_alloc ?_ _)); exact BK211.out⟩, ⟨by repeat (first | (with_reducible first | exact HB.out | apply below_alloc | apply pw_below_drewN | apply below_drew1 | refine below_set ?_ GE204.out | refine below_set ?_ GE205.out | refine below_set ?_ GE206.out | refine below_set ?_ GE211.out) | exact HB.out)⟩⟩
                  rw [if_neg c98] at H
                  by_cases c110 : a1 = 3
                  · subst c110
                    have H1 : ((mixer_floor.f (wrap64 ((wrap64 (4 * t210)) - (wrap64 (x207002_2 - x212001_2)))) 3).bind fun t226 => (mixer_Mix.j2 k2 1 t226 x207000_2 x207001_2 x207002_2 x212001_2 x207004_2 x207005_2 x207006_2 x207007_2 x212000_2 x212001_2 x212002_2 x212003_2)) = some (r1, r2, r3, r4, r5, r6, r7, r8, r9) := by rw [if_pos rfl] at H; exact H
                    clear H
                    have H := H1
                    clear H1
                    have hbz111 : Go.bits .xor .i64 2 1 = 3 := by decide +kernel
                    replace H := Option.bind_eq_some_iff.mp H
                    obtain ⟨t226, A1120, H⟩ := H
                    replace H : (mixer_Mix.j2 k2 1 t226 x207000_2 x207001_2 x207002_2 x212001_2 x207004_2 x207005_2 x207006_2 x207007_2 x212000_2 x212001_2 x212002_2 x212003_2) = some (r1, r2, r3, r4, r5, r6, r7, r8, r9) := H
                    have A112 := Aside0.mk A1120
                    clear A1120
                    have H' := Aside0.mk H
                    clear H
                    have hnb113 := NB211_204.out
                    have hnc113 := NB204_211.out
                    have hnb114 := NB211_205.out
                    have hnc114 := NB205_211.out
                    have hnb115 := NB211_206.out
                    have hnc115 := NB206_211.out
                    have hcz116_0 := blk_cells4 (w := wr) (g := gb211) BK211.out
                    have hfz116_0 := blk_frozen BK211.out
                    have hnb117 := NB206_204.out
                    have hnc117 := NB204_206.out
                    have hnb118 := NB206_205.out
                    have hnc118 := NB205_206.out
                    have hcz119_0 := blk_cells8 (w := wr) (g := gb206) BK206.out
                    have hfz119_0 := blk_frozen BK206.out
                    have hnb120 := NB204_205.out
                    have hnc120 := NB205_204.out
                    have hcz121_0 := blk_cells4 (w := wr) (g := gb204) BK204.out
                    have hfz121_0 := blk_frozen BK204.out
                    go_wp2_with (first | (go_at_call 29; (with_reducible refine (mixer_floor.calls (wrap64 ((wrap64 (4 * t210)) - (wrap64 (x207002_2 - x212001_2)))) 3 t226 _ A112.out).mono ?_); rintro e w' ⟨rfl, ⟨nd, rfl⟩⟩; (try first | exact ⟨rfl, _, World.drewN_drewN _ _ _⟩ | exact ⟨rfl, _, Eq.trans (World.drewN_drewN _ _ _) (congrArg (World.drewN _) (Nat.add_assoc _ _ _))⟩)))
                    repeat (go_quiet (first | (go_at_call 29; (with_reducible refine (mixer_floor.calls (wrap64 ((wrap64 (4 * t210)) - (wrap64 (x207002_2 - x212001_2)))) 3 t226 _ A112.out).mono ?_); rintro e w' ⟨rfl, ⟨nd, rfl⟩⟩; (try first | exact ⟨rfl, _, World.drewN_drewN _ _ _⟩ | exact ⟨rfl, _, Eq.trans (World.drewN_drewN _ _ _) (congrArg (World.drewN _) (Nat.add_assoc _ _ _))⟩))); try go_wp2_with (first | (go_at_call 29; (with_reducible refine (mixer_floor.calls (wrap64 ((wrap64 (4 * t210)) - (wrap64 (x207002_2 - x212001_2)))) 3 t226 _ A112.out).mono ?_); rintro e w' ⟨rfl, ⟨nd, rfl⟩⟩; (try first | exact ⟨rfl, _, World.drewN_drewN _ _ _⟩ | exact ⟨rfl, _, Eq.trans (World.drewN_drewN _ _ _) (congrArg (World.drewN _) (Nat.add_assoc _ _ _))⟩))))
                    go_meet
                    case rel => exact ⟨_, (1), (t226), (x207000_2), (x207001_2), (x207002_2), (x212001_2), (x207004_2), (x207005_2), (x207006_2), (x207007_2), (by first | rfl | (simp; done) | (simp [*]; done)), (by first | rfl | (simp; done) | (simp [*]; done)), H', ⟨by have := HJ2.out; have := HK2.out; first | omega | exact Nat.le_refl _⟩, ⟨by (with_reducible repeat (first | refine blk_drewN ?_ _ | refine blk_drew ?_ | refine blk_alloc ?_ _)); refine blk_far ?_ NB204_206.out _; (with_reducible repeat (first | refine blk_drewN ?_ _ | refine blk_drew ?_ | refine blk_alloc ?_ _)); exact BK204.out⟩, ⟨by (with_reducible repeat (first | refine blk_drewN ?_ _ | refine blk_drew ?_ | refine blk_alloc ?_ _)); refine blk_far ?_ NB205_206.out _; (with_reducible repeat (first | refine blk_drewN ?_ _ | refine blk_drew ?_ | refine blk_alloc ?_ _)); exact BK205.out⟩, ⟨by (with_reducible repeat (first | refine blk_drewN ?_ _ | refine blk_drew ?_ | refine blk_alloc ?_ _)); refine blk_put (cs := #[.int .i64 x207000_2, .int .i64 x207001_2, .int .i64 x207002_2, .int .i64 x207003_2, .int .i64 x207004_2, .int .i64 x207005_2, .int .i64 x207006_2, .int .i64 x207007_2]) ?_ 3 _ rfl; (with_reducible repeat (first | refine blk_drewN ?_ _ | refine blk_drew ?_ | refine blk_alloc ?_ _)); exact BK206.out⟩, ⟨by (with_reducible repeat (first | refine blk_drewN ?_ _ | refine blk_drew ?_ | refine blk_alloc ?_ _)); refine blk_far ?_ NB211_206.out _; (with_reducible repeat (first | refine blk_drewN ?_ _ | refine blk_drew ?_ | refine blk_alloc ?_ _)); exact BK211.out⟩, ⟨by repeat (first | (with_reducible first | exact HB.out | apply below_alloc | apply pw_below_drewN | apply below_drew1 | refine below_set ?_ GE204.out | refine below_set ?_ GE205.out | refine below_set ?_ GE206.out | refine below_set ?_ GE211.out) | exact HB.out)⟩⟩
                  rw [if_neg c110] at H
                  by_cases c122 : a1 = 4
                  · subst c122
                    have H1 : ((mixer_floor.f (wrap64 ((wrap64 (4 * t210)) - (wrap64 (x212001_2 - x207003_2)))) 3).bind fun t227 => (mixer_Mix.j2 k2 1 t227 x207000_2 x207001_2 x212001_2 x207003_2 x207004_2 x207005_2 x207006_2 x207007_2 x212000_2 x212001_2 x212002_2 x212003_2)) = some (r1, r2, r3, r4, r5, r6, r7, r8, r9) := by rw [if_pos rfl] at H; exact H
                    clear H
                    have H := H1
                    clear H1
                    have hbz123 : Go.bits .xor .i64 3 1 = 2 := by decide +kernel
                    replace H := Option.bind_eq_some_iff.mp H
                    obtain ⟨t227, A1240, H⟩ := H
                    replace H : (mixer_Mix.j2 k2 1 t227 x207000_2 x207001_2 x212001_2 x207003_2 x207004_2 x207005_2 x207006_2 x207007_2 x212000_2 x212001_2 x212002_2 x212003_2) = some (r1, r2, r3, r4, r5, r6, r7, r8, r9) := H
                    have A124 := Aside0.mk A1240
                    clear A1240
                    have H' := Aside0.mk H
                    clear H
                    have hnb125 := NB211_204.out
                    have hnc125 := NB204_211.out
                    have hnb126 := NB211_205.out
                    have hnc126 := NB205_211.out
                    have hnb127 := NB211_206.out
                    have hnc127 := NB206_211.out
                    have hcz128_0 := blk_cells4 (w := wr) (g := gb211) BK211.out
                    have hfz128_0 := blk_frozen BK211.out
                    have hnb129 := NB206_204.out
                    have hnc129 := NB204_206.out
                    have hnb130 := NB206_205.out
                    have hnc130 := NB205_206.out
                    have hcz131_0 := blk_cells8 (w := wr) (g := gb206) BK206.out
                    have hfz131_0 := blk_frozen BK206.out
                    have hnb132 := NB204_205.out
                    have hnc132 := NB205_204.out
                    have hcz133_0 := blk_cells4 (w := wr) (g := gb204) BK204.out
                    have hfz133_0 := blk_frozen BK204.out
                    go_wp2_with (first | (go_at_call 29; (with_reducible refine (mixer_floor.calls (wrap64 ((wrap64 (4 * t210)) - (wrap64 (x212001_2 - x207003_2)))) 3 t227 _ A124.out).mono ?_); rintro e w' ⟨rfl, ⟨nd, rfl⟩⟩; (try first | exact ⟨rfl, _, World.drewN_drewN _ _ _⟩ | exact ⟨rfl, _, Eq.trans (World.drewN_drewN _ _ _) (congrArg (World.drewN _) (Nat.add_assoc _ _ _))⟩)))
                    repeat (go_quiet (first | (go_at_call 29; (with_reducible refine (mixer_floor.calls (wrap64 ((wrap64 (4 * t210)) - (wrap64 (x212001_2 - x207003_2)))) 3 t227 _ A124.out).mono ?_); rintro e w' ⟨rfl, ⟨nd, rfl⟩⟩; (try first | exact ⟨rfl, _, World.drewN_drewN _ _ _⟩ | exact ⟨rfl, _, Eq.trans (World.drewN_drewN _ _ _) (congrArg (World.drewN _) (Nat.add_assoc _ _ _))⟩))); try go_wp2_with (first | (go_at_call 29; (with_reducible refine (mixer_floor.calls (wrap64 ((wrap64 (4 * t210)) - (wrap64 (x212001_2 - x207003_2)))) 3 t227 _ A124.out).mono ?_); rintro e w' ⟨rfl, ⟨nd, rfl⟩⟩; (try first | exact ⟨rfl, _, World.drewN_drewN _ _ _⟩ | exact ⟨rfl, _, Eq.trans (World.drewN_drewN _ _ _) (congrArg (World.drewN _) (Nat.add_assoc _ _ _))⟩))))
                    go_meet
                    case rel => exact ⟨_, (1), (t227), (x207000_2), (x207001_2), (x212001_2), (x207003_2), (x207004_2), (x207005_2), (x207006_2), (x207007_2), (by first | rfl | (simp; done) | (simp [*]; done)), (by first | rfl | (simp; done) | (simp [*]; done)), H', ⟨by have := HJ2.out; have := HK2.out; first | omega | exact Nat.le_refl _⟩, ⟨by (with_reducible repeat (first | refine blk_drewN ?_ _ | refine blk_drew ?_ | refine blk_alloc ?_ _)); refine blk_far ?_ NB204_206.out _; (with_reducible repeat (first | refine blk_drewN ?_ _ | refine blk_drew ?_ | refine blk_alloc ?_ _)); exact BK204.out⟩, ⟨by (with_reducible repeat (first | refine blk_drewN ?_ _ | refine blk_drew ?_ | refine blk_alloc ?_ _)); refine blk_far ?_ NB205_206.out _; (with_reducible repeat (first | refine blk_drewN ?_ _ | refine blk_drew ?_ | refine blk_alloc ?_ _)); exact BK205.out⟩, ⟨by (with_reducible repeat (first | refine blk_drewN ?_ _ | refine blk_drew ?_ | refine blk_alloc ?_ _)); refine blk_put (cs := #[.int .i64 x207000_2, .int .i64 x207001_2, .int .i64 x207002_2, .int .i64 x207003_2, .int .i64 x207004_2, .int .i64 x207005_2, .int .i64 x207006_2, .int .i64 x207007_2]) ?_ 2 _ rfl; (with_reducible repeat (first | refine blk_drewN ?_ _ | refine blk_drew ?_ | refine blk_alloc ?_ _)); exact BK206.out⟩, ⟨by (with_reducible repeat (first | refine blk_drewN ?_ _ | refine blk_drew ?_ | refine blk_alloc ?_ _)); refine blk_far ?_ NB211_206.out _; (with_reducible repeat (first | refine blk_drewN ?_ _ | refine blk_drew ?_ | refine blk_alloc ?_ _)); exact BK211.out⟩, ⟨by repeat (first | (with_reducible first | exact HB.out | apply below_alloc | apply pw_below_drewN | apply below_drew1 | refine below_set ?_ GE204.out | refine below_set ?_ GE205.out | refine below_set ?_ GE206.out | refine below_set ?_ GE211.out) | exact HB.out)⟩⟩
                  rw [if_neg c122] at H
                  by_cases c134 : a1 = 5
                  · subst c134
                    have H1 : ((mixer_floor.f (wrap64 ((wrap64 (4 * t210)) - (wrap64 (x207004_2 - x212002_2)))) 3).bind fun t228 => (mixer_Mix.j2 k2 2 t228 x207000_2 x207001_2 x207002_2 x207003_2 x207004_2 x212002_2 x207006_2 x207007_2 x212000_2 x212001_2 x212002_2 x212003_2)) = some (r1, r2, r3, r4, r5, r6, r7, r8, r9) := by rw [if_pos rfl] at H; exact H
                    clear H
                    have H := H1
                    clear H1
                    have hbz135 : Go.bits .xor .i64 4 1 = 5 := by decide +kernel
                    replace H := Option.bind_eq_some_iff.mp H
                    obtain ⟨t228, A1360, H⟩ := H
                    replace H : (mixer_Mix.j2 k2 2 t228 x207000_2 x207001_2 x207002_2 x207003_2 x207004_2 x212002_2 x207006_2 x207007_2 x212000_2 x212001_2 x212002_2 x212003_2) = some (r1, r2, r3, r4, r5, r6, r7, r8, r9) := H
                    have A136 := Aside0.mk A1360
                    clear A1360
                    have H' := Aside0.mk H
                    clear H
                    have hnb137 := NB211_204.out
                    have hnc137 := NB204_211.out
                    have hnb138 := NB211_205.out
                    have hnc138 := NB205_211.out
                    have hnb139 := NB211_206.out
                    have hnc139 := NB206_211.out
                    have hcz140_0 := blk_cells4 (w := wr) (g := gb211) BK211.out
                    have hfz140_0 := blk_frozen BK211.out
                    have hnb141 := NB206_204.out
                    have hnc141 := NB204_206.out
                    have hnb142 := NB206_205.out
                    have hnc142 := NB205_206.out
                    have hcz143_0 := blk_cells8 (w := wr) (g := gb206) BK206.out
                    have hfz143_0 := blk_frozen BK206.out
                    have hnb144 := NB204_205.out
                    have hnc144 := NB205_204.out
                    have hcz145_0 := blk_cells4 (w := wr) (g := gb204) BK204.out
                    have hfz145_0 := blk_frozen BK204.out
                    go_wp2_with (first | (go_at_call 29; (with_reducible refine (mixer_floor.calls (wrap64 ((wrap64 (4 * t210)) - (wrap64 (x207004_2 - x212002_2)))) 3 t228 _ A136.out).mono ?_); rintro e w' ⟨rfl, ⟨nd, rfl⟩⟩; (try first | exact ⟨rfl, _, World.drewN_drewN _ _ _⟩ | exact ⟨rfl, _, Eq.trans (World.drewN_drewN _ _ _) (congrArg (World.drewN _) (Nat.add_assoc _ _ _))⟩)))
                    repeat (go_quiet (first | (go_at_call 29; (with_reducible refine (mixer_floor.calls (wrap64 ((wrap64 (4 * t210)) - (wrap64 (x207004_2 - x212002_2)))) 3 t228 _ A136.out).mono ?_); rintro e w' ⟨rfl, ⟨nd, rfl⟩⟩; (try first | exact ⟨rfl, _, World.drewN_drewN _ _ _⟩ | exact ⟨rfl, _, Eq.trans (World.drewN_drewN _ _ _) (congrArg (World.drewN _) (Nat.add_assoc _ _ _))⟩))); try go_wp2_with (first | (go_at_call 29; (with_reducible refine (mixer_floor.calls (wrap64 ((wrap64 (4 * t210)) - (wrap64 (x207004_2 - x212002_2)))) 3 t228 _ A136.out).mono ?_); rintro e w' ⟨rfl, ⟨nd, rfl⟩⟩; (try first | exact ⟨rfl, _, World.drewN_drewN _ _ _⟩ | exact ⟨rfl, _, Eq.trans (World.drewN_drewN _ _ _) (congrArg (World.drewN _) (Nat.add_assoc _ _ _))⟩))))
                    go_meet
                    case rel => exact ⟨_, (2), (t228), (x207000_2), (x207001_2), (x207002_2), (x207003_2), (x207004_2), (x212002_2), (x207006_2), (x207007_2), (by first | rfl | (simp; done) | (simp [*]; done)), (by first | rfl | (simp; done) | (simp [*]; done)), H', ⟨by have := HJ2.out; have := HK2.out; first | omega | exact Nat.le_refl _⟩, ⟨by (with_reducible repeat (first | refine blk_drewN ?_ _ | refine blk_drew ?_ | refine blk_alloc ?_ _)); refine blk_far ?_ NB204_206.out _; (with_reducible repeat (first | refine blk_drewN ?_ _ | refine blk_drew ?_ | refine blk_alloc ?_ _)); exact BK204.out⟩, ⟨by (with_reducible repeat (first | refine blk_drewN ?_ _ | refine blk_drew ?_ | refine blk_alloc ?_ _)); refine blk_far ?_ NB205_206.out _; (with_reducible repeat (first | refine blk_drewN ?_ _ | refine blk_drew ?_ | refine blk_alloc ?_ _)); exact BK205.out⟩, ⟨by (with_reducible repeat (first | refine blk_drewN ?_ _ | refine blk_drew ?_ | refine blk_alloc ?_ _)); refine blk_put (cs := #[.int .i64 x207000_2, .int .i64 x207001_2, .int .i64 x207002_2, .int .i64 x207003_2, .int .i64 x207004_2, .int .i64 x207005_2, .int .i64 x207006_2, .int .i64 x207007_2]) ?_ 5 _ rfl; (with_reducible repeat (first | refine blk_drewN ?_ _ | refine blk_drew ?_ | refine blk_alloc ?_ _)); exact BK206.out⟩, ⟨by (with_reducible repeat (first | refine blk_drewN ?_ _ | refine blk_drew ?_ | refine blk_alloc ?_ _)); refine blk_far ?_ NB211_206.out _; (with_reducible repeat (first | refine blk_drewN ?_ _ | refine blk_drew ?_ | refine blk_alloc ?_ _)); exact BK211.out⟩, ⟨by repeat (first | (with_reducible first | exact HB.out | apply below_alloc | apply pw_below_drewN | apply below_drew1 | refine below_set ?_ GE204.out | refine below_set ?_ GE205.out | refine below_set ?_ GE206.out | refine below_set ?_ GE211.out) | exact HB.out)⟩⟩
                  rw [if_neg c134] at H
                  by_cases c146 : a1 = 6
                  · subst c146
                    have H1 : ((mixer_floor.f (wrap64 ((wrap64 (4 * t210)) - (wrap64 (x212002_2 - x207005_2)))) 3).bind fun t229 => (mixer_Mix.j2 k2 2 t229 x207000_2 x207001_2 x207002_2 x207003_2 x212002_2 x207005_2 x207006_2 x207007_2 x212000_2 x212001_2 x212002_2 x212003_2)) = some (r1, r2, r3, r4, r5, r6, r7, r8, r9) := by rw [if_pos rfl] at H; exact H
                    clear H
                    have H := H1
                    clear H1
                    have hbz147 : Go.bits .xor .i64 5 1 = 4 := by decide +kernel
                    replace H := Option.bind_eq_some_iff.mp H
                    obtain ⟨t229, A1480, H⟩ := H
                    replace H : (mixer_Mix.j2 k2 2 t229 x207000_2 x207001_2 x207002_2 x207003_2 x212002_2 x207005_2 x207006_2 x207007_2 x212000_2 x212001_2 x212002_2 x212003_2) = some (r1, r2, r3, r4, r5, r6, r7, r8, r9) := H
                    have A148 := Aside0.mk A1480
                    clear A1480
                    have H' := Aside0.mk H
                    clear H
                    have hnb149 := NB211_204.out
                    have hnc149 := NB204_211.out
                    have hnb150 := NB211_205.out
                    have hnc150 := NB205_211.out
                    have hnb151 := NB211_206.out
                    have hnc151 := NB206_211.out
                    have hcz152_0 := blk_cells4 (w := wr) (g := gb211) BK211.out
                    have hfz152_0 := blk_frozen BK211.out
                    have hnb153 := NB206_204.out
                    have hnc153 := NB204_206.out
                    have hnb154 := NB206_205.out
                    have hnc154 := NB205_206.out
                    have hcz155_0 := blk_cells8 (w := wr) (g := gb206) BK206.out
                    have hfz155_0 := blk_frozen BK206.out
                    have hnb156 := NB204_205.out
                    have hnc156 := NB205_204.out
                    have hcz157_0 := blk_cells4 (w := wr) (g := gb204) BK204.out
                    have hfz157_0 := blk_frozen BK204.out
                    go_wp2_with (first | (go_at_call 29; (with_reducible refine (mixer_floor.calls (wrap64 ((wrap64 (4 * t210)) - (wrap64 (x212002_2 - x207005_2)))) 3 t229 _ A148.out).mono ?_); rintro e w' ⟨rfl, ⟨nd, rfl⟩⟩; (try first | exact ⟨rfl, _, World.drewN_drewN _ _ _⟩ | exact ⟨rfl, _, Eq.trans (World.drewN_drewN _ _ _) (congrArg (World.drewN _) (Nat.add_assoc _ _ _))⟩)))
                    repeat (go_quiet (first | (go_at_call 29; (with_reducible refine (mixer_floor.calls (wrap64 ((wrap64 (4 * t210)) - (wrap64 (x212002_2 - x207005_2)))) 3 t229 _ A148.out).mono ?_); rintro e w' ⟨rfl, ⟨nd, rfl⟩⟩; (try first | exact ⟨rfl, _, World.drewN_drewN _ _ _⟩ | exact ⟨rfl, _, Eq.trans (World.drewN_drewN _ _ _) (congrArg (World.drewN _) (Nat.add_assoc _ _ _))⟩))); try go_wp2_with (first | (go_at_call 29; (with_reducible refine (mixer_floor.calls (wrap64 ((wrap64 (4 * t210)) - (wrap64 (x212002_2 - x207005_2)))) 3 t229 _ A148.out).mono ?_); rintro e w' ⟨rfl, ⟨nd, rfl⟩⟩; (try first | exact ⟨rfl, _, World.drewN_drewN _ _ _⟩ | exact ⟨rfl, _, Eq.trans (World.drewN_drewN _ _ _) (congrArg (World.drewN _) (Nat.add_assoc _ _ _))⟩))))
                    go_meet
                    case rel => exact ⟨_, (2), (t229), (x207000_2), (x207001_2), (x207002_2), (x207003_2), (x212002_2), (x207005_2), (x207006_2), (x207007_2), (by first | rfl | (simp; done) | (simp [*]; done)), (by first | rfl | (simp; done) | (simp [*]; done)), H', ⟨by have := HJ2.out; have := HK2.out; first | omega | exact Nat.le_refl _⟩, ⟨by (with_reducible repeat (first | refine blk_drewN ?_ _ | refine blk_drew ?_ | refine blk_alloc ?_ _)); refine blk_far ?_ NB204_206.out _; (with_reducible repeat (first | refine blk_drewN ?_ _ | refine blk_drew ?_ | refine blk_alloc ?_ _)); exact BK204.out⟩, ⟨by (with_reducible repeat (first | refine blk_drewN ?_ _ | refine blk_drew ?_ | refine blk_alloc ?_ _)); refine blk_far ?_ NB205_206.out _; (with_reducible repeat (first | refine blk_drewN ?_ _ | refine blk_drew ?_ | refine blk_alloc ?_ _)); exact BK205.out⟩, ⟨by (with_reducible repeat (first | refine blk_drewN ?_ _ | refine blk_drew ?_ | refine blk_alloc ?_ _)); refine blk_put (cs := #[.int .i64 x207000_2, .int .i64 x207001_2, .int .i64 x207002_2, .int .i64 x207003_2, .int .i64 x207004_2, .int .i64 x207005_2, .int .i64 x207006_2, .int .i64 x207007_2]) ?_ 4 _ rfl; (with_reducible repeat (first | refine blk_drewN ?_ _ | refine blk_drew ?_ | refine blk_alloc ?_ _)); exact BK206.out⟩, ⟨by (with_reducible repeat (first | refine blk_drewN ?_ _ | refine blk_drew ?_ | refine blk_alloc ?_ _)); refine blk_far ?_ NB211_206.out _; (with_reducible repeat (first | refine blk_drewN ?_ _ | refine blk_drew ?_ | refine blk_alloc ?_ _)); exact BK211.out⟩, ⟨by repeat (first | (with_reducible first | exact HB.out | apply below_alloc | apply pw_below_drewN | apply below_drew1 | refine below_set ?_ GE204.out | refine below_set ?_ GE205.out | refine below_set ?_ GE206.out | refine below_set ?_ GE211.out) | exact HB.out)⟩⟩
                  rw [if_neg c146] at H
                  by_cases c158 : a1 = 7
                  · subst c158
                    have H1 : ((mixer_floor.f (wrap64 ((wrap64 (4 * t210)) - (wrap64 (x207006_2 - x212003_2)))) 3).bind fun t230 => (mixer_Mix.j2 k2 3 t230 x207000_2 x207001_2 x207002_2 x207003_2 x207004_2 x207005_2 x207006_2 x212003_2 x212000_2 x212001_2 x212002_2 x212003_2)) = some (r1, r2, r3, r4, r5, r6, r7, r8, r9) := by rw [if_pos rfl] at H; exact H
                    clear H
                    have H := H1
                    clear H1
                    have hbz159 : Go.bits .xor .i64 6 1 = 7 := by decide +kernel
                    replace H := Option.bind_eq_some_iff.mp H
                    obtain ⟨t230, A1600, H⟩ := H
                    replace H : (mixer_Mix.j2 k2 3 t230 x207000_2 x207001_2 x207002_2 x207003_2 x207004_2 x207005_2 x207006_2 x212003_2 x212000_2 x212001_2 x212002_2 x212003_2) = some (r1, r2, r3, r4, r5, r6, r7, r8, r9) := H
                    have A160 := Aside0.mk A1600
                    clear A1600
                    have H' := Aside0.mk H
                    clear H
                    have hnb161 := NB211_204.out
                    have hnc161 := NB204_211.out
                    have hnb162 := NB211_205.out
                    have hnc162 := NB205_211.out
                    have hnb163 := NB211_206.out
                    have hnc163 := NB206_211.out
                    have hcz164_0 := blk_cells4 (w := wr) (g := gb211) BK211.out
                    have hfz164_0 := blk_frozen BK211.out
                    have hnb165 := NB206_204.out
                    have hnc165 := NB204_206.out
                    have hnb166 := NB206_205.out
                    have hnc166 := NB205_206.out
                    have hcz167_0 := blk_cells8 (w := wr) (g := gb206) BK206.out
                    have hfz167_0 := blk_frozen BK206.out
                    have hnb168 := NB204_205.out
                    have hnc168 := NB205_204.out
                    have hcz169_0 := blk_cells4 (w := wr) (g := gb204) BK204.out
                    have hfz169_0 := blk_frozen BK204.out
                    go_wp2_with (first | (go_at_call 29; (with_reducible refine (mixer_floor.calls (wrap64 ((wrap64 (4 * t210)) - (wrap64 (x207006_2 - x212003_2)))) 3 t230 _ A160.out).mono ?_); rintro e w' ⟨rfl, ⟨nd, rfl⟩⟩; (try first | exact ⟨rfl, _, World.drewN_drewN _ _ _⟩ | exact ⟨rfl, _, Eq.trans (World.drewN_drewN _ _ _) (congrArg (World.drewN _) (Nat.add_assoc _ _ _))⟩)))
                    repeat (go_quiet (first | (go_at_call 29; (with_reducible refine (mixer_floor.calls (wrap64 ((wrap64 (4 * t210)) - (wrap64 (x207006_2 - x212003_2)))) 3 t230 _ A160.out).mono ?_); rintro e w' ⟨rfl, ⟨nd, rfl⟩⟩; (try first | exact ⟨rfl, _, World.drewN_drewN _ _ _⟩ | exact ⟨rfl, _, Eq.trans (World.drewN_drewN _ _ _) (congrArg (World.drewN _) (Nat.add_assoc _ _ _))⟩))); try go_wp2_with (first | (go_at_call 29; (with_reducible refine (mixer_floor.calls (wrap64 ((wrap64 (4 * t210)) - (wrap64 (x207006_2 - x212003_2)))) 3 t230 _ A160.out).mono ?_); rintro e w' ⟨rfl, ⟨nd, rfl⟩⟩; (try first | exact ⟨rfl, _, World.drewN_drewN _ _ _⟩ | exact ⟨rfl, _, Eq.trans (World.drewN_drewN _ _ _) (congrArg (World.drewN _) (Nat.add_assoc _ _ _))⟩))))
                    go_meet
                    case rel => exact ⟨_, (3), (t230), (x207000_2), (x207001_2), (x207002_2), (x207003_2), (x207004_2), (x207005_2), (x207006_2), (x212003_2), (by first | rfl | (simp; done) | (simp [*]; done)), (by first | rfl | (simp; done) | (simp [*]; done)), H', ⟨by have := HJ2.out; have := HK2.out; first | omega | exact Nat.le_refl _⟩, ⟨by (with_reducible repeat (first | refine blk_drewN ?_ _ | refine blk_drew ?_ | refine blk_alloc ?_ _)); refine blk_far ?_ NB204_206.out _; (with_reducible repeat (first | refine blk_drewN ?_ _ | refine blk_drew ?_ | refine blk_alloc ?_ _)); exact BK204.out⟩, ⟨by (with_reducible repeat (first | refine blk_drewN ?_ _ | refine blk_drew ?_ | refine blk_alloc ?_ _)); refine blk_far ?_ NB205_206.out _; (with_reducible repeat (first | refine blk_drewN ?_ _ | refine blk_drew ?_ | refine blk_alloc ?_ _)); exact BK205.out⟩, ⟨by (with_reducible repeat (first | refine blk_drewN ?_ _ | refine blk_drew ?_ | refine blk_alloc ?_ _)); refine blk_put (cs := #[.int .i64 x207000_2, .int .i64 x207001_2, .int .i64 x207002_2, .int .i64 x207003_2, .int .i64 x207004_2, .int .i64 x207005_2, .int .i64 x207006_2, .int .i64 x207007_2]) ?_ 7 _ rfl; (with_reducible repeat (first | refine blk_drewN ?_ _ | refine blk_drew ?_ | refine blk_alloc ?_ _)); exact BK206.out⟩, ⟨by (with_reducible repeat (first | refine blk_drewN ?_ _ | refine blk_drew ?_ | refine blk_alloc ?_ _)); refine blk_far ?_ NB211_206.out _; (with_reducible repeat (first | refine blk_drewN ?_ _ | refine blk_drew ?_ | refine blk_alloc ?_ _)); exact BK211.out⟩, ⟨by repeat (first | (with_reducible first | exact HB.out | apply below_alloc | apply pw_below_drewN | apply below_drew1 | refine below_set ?_ GE204.out | refine below_set ?_ GE205.out | refine below_set ?_ GE206.out | refine below_set ?_ GE211.out) | exact HB.out)⟩⟩
                  rw [if_neg c158] at H
                  by_cases c170 : a1 = 8
                  · subst c170
                    have H1 : ((mixer_floor.f (wrap64 ((wrap64 (4 * t210)) - (wrap64 (x212003_2 - x207007_2)))) 3).bind fun t231 => (mixer_Mix.j2 k2 3 t231 x207000_2 x207001_2 x207002_2 x207003_2 x207004_2 x207005_2 x212003_2 x207007_2 x212000_2 x212001_2 x212002_2 x212003_2)) = some (r1, r2, r3, r4, r5, r6, r7, r8, r9) := by rw [if_pos rfl] at H; exact H
                    clear H
                    have H := H1
                    clear H1
                    have hbz171 : Go.bits .xor .i64 7 1 = 6 := by decide +kernel
                    replace H := Option.bind_eq_some_iff.mp H
                    obtain ⟨t231, A1720, H⟩ := H
                    replace H : (mixer_Mix.j2 k2 3 t231 x207000_2 x207001_2 x207002_2 x207003_2 x207004_2 x207005_2 x212003_2 x207007_2 x212000_2 x212001_2 x212002_2 x212003_2) = some (r1, r2, r3, r4, r5, r6, r7, r8, r9) := H
                    have A172 := Aside0.mk A1720
                    clear A1720
                    have H' := Aside0.mk H
                    clear H
                    have hnb173 := NB211_204.out
                    have hnc173 := NB204_211.out
                    have hnb174 := NB211_205.out
                    have hnc174 := NB205_211.out
                    have hnb175 := NB211_206.out
                    have hnc175 := NB206_211.out
                    have hcz176_0 := blk_cells4 (w := wr) (g := gb211) BK211.out
                    have hfz176_0 := blk_frozen BK211.out
                    have hnb177 := NB206_204.out
                    have hnc177 := NB204_206.out
                    have hnb178 := NB206_205.out
                    have hnc178 := NB205_206.out
                    have hcz179_0 := blk_cells8 (w := wr) (g := gb206) BK206.out
                    have hfz179_0 := blk_frozen BK206.out
                    have hnb180 := NB204_205.out
                    have hnc180 := NB205_204.out
                    have hcz181_0 := blk_cells4 (w := wr) (g := gb204) BK204.out
                    have hfz181_0 := blk_frozen BK204.out
                    go_wp2_with (first | (go_at_call 29; (with_reducible refine (mixer_floor.calls (wrap64 ((wrap64 (4 * t210)) - (wrap64 (x212003_2 - x207007_2)))) 3 t231 _ A172.out).mono ?_); rintro e w' ⟨rfl, ⟨nd, rfl⟩⟩; (try first | exact ⟨rfl, _, World.drewN_drewN _ _ _⟩ | exact ⟨rfl, _, Eq.trans (World.drewN_drewN _ _ _) (congrArg (World.drewN _) (Nat.add_assoc _ _ _))⟩)))
                    repeat (go_quiet (first | (go_at_call 29; (with_reducible refine (mixer_floor.calls (wrap64 ((wrap64 (4 * t210)) - (wrap64 (x212003_2 - x207007_2)))) 3 t231 _ A172.out).mono ?_); rintro e w' ⟨rfl, ⟨nd, rfl⟩⟩; (try first | exact ⟨rfl, _, World.drewN_drewN _ _ _⟩ | exact ⟨rfl, _, Eq.trans (World.drewN_drewN _ _ _) (congrArg (World.drewN _) (Nat.add_assoc _ _ _))⟩))); try go_wp2_with (first | (go_at_call 29; (with_reducible refine (mixer_floor.calls (wrap64 ((wrap64 (4 * t210)) - (wrap64 (x212003_2 - x207007_2)))) 3 t231 _ A172.out).mono ?_); rintro e w' ⟨rfl, ⟨nd, rfl⟩⟩; (try first | exact ⟨rfl, _, World.drewN_drewN _ _ _⟩ | exact ⟨rfl, _, Eq.trans (World.drewN_drewN _ _ _) (congrArg (World.drewN _) (Nat.add_assoc _ _ _))⟩))))
                    go_meet
                    case rel => exact ⟨_, (3), (t231), (x207000_2), (x207001_2), (x207002_2), (x207003_2), (x207004_2), (x207005_2), (x212003_2), (x207007_2), (by first | rfl | (simp; done) | (simp [*]; done)), (by first | rfl | (simp; done) | (simp [*]; done)), H', ⟨by have := HJ2.out; have := HK2.out; first | omega | exact Nat.le_refl _⟩, ⟨by (with_reducible repeat (first | refine blk_drewN ?_ _ | refine blk_drew ?_ | refine blk_alloc ?_ _)); refine blk_far ?_ NB204_206.out _; (with_reducible repeat (first | refine blk_drewN ?_ _ | refine blk_drew ?_ | refine blk_alloc ?_ _)); exact BK204.out⟩, ⟨by (with_reducible repeat (first | refine blk_drewN ?_ _ | refine blk_drew ?_ | refine blk_alloc ?_ _)); refine blk_far ?_ NB205_206.out _; (with_reducible repeat (first | refine blk_drewN ?_ _ | refine blk_drew ?_ | refine blk_alloc ?_ _)); exact BK205.out⟩, ⟨by (with_reducible repeat (first | refine blk_drewN ?_ _ | refine blk_drew ?_ | refine blk_alloc ?_ _)); refine blk_put (cs := #[.int .i64 x207000_2, .int .i64 x207001_2, .int .i64 x207002_2, .int .i64 x207003_2, .int .i64 x207004_2, .int .i64 x207005_2, .int .i64 x207006_2, .int .i64 x207007_2]) ?_ 6 _ rfl; (with_reducible repeat (first | refine blk_drewN ?_ _ | refine blk_drew ?_ | refine blk_alloc ?_ _)); exact BK206.out⟩, ⟨by (with_reducible repeat (first | refine blk_drewN ?_ _ | refine blk_drew ?_ | refine blk_alloc ?_ _)); refine blk_far ?_ NB211_206.out _; (with_reducible repeat (first | refine blk_drewN ?_ _ | refine blk_drew ?_ | refine blk_alloc ?_ _)); exact BK211.out⟩, ⟨by repeat (first | (with_reducible first | exact HB.out | apply below_alloc | apply pw_below_drewN | apply below_drew1 | refine below_set ?_ GE204.out | refine below_set ?_ GE205.out | refine below_set ?_ GE206.out | refine below_set ?_ GE211.out) | exact HB.out)⟩⟩
                  rw [if_neg c170] at H
                  exact absurd H (by simp)
                · rw [if_neg c85] at H
                  have c85b0 : decide (0 < a1) = false := decide_eq_false c85
                  clear c85
                  (first | rw [c85b0] | (simp only [i64_w, i32_w]; rw [c85b0]) | skip)
                  have H' := Aside0.mk H
                  clear H
                  go_wp2
                  repeat (go_quiet (fail); try go_wp2)
                  go_meet
                  case rel => exact ⟨_, ((-1)), (t210), (x207000_2), (x207001_2), (x207002_2), (x207003_2), (x207004_2), (x207005_2), (x207006_2), (x207007_2), (by first | rfl | (simp; done) | (simp [*]; done)), (by first | rfl | (simp; done) | (simp [*]; done)), H', ⟨by have := HJ2.out; have := HK2.out; first | omega | exact Nat.le_refl _⟩, ⟨by (with_reducible repeat (first | refine blk_drewN ?_ _ | refine blk_drew ?_ | refine blk_alloc ?_ _)); exact BK204.out⟩, ⟨by (with_reducible repeat (first | refine blk_drewN ?_ _ | refine blk_drew ?_ | refine blk_alloc ?_ _)); exact BK205.out⟩, ⟨by (with_reducible repeat (first | refine blk_drewN ?_ _ | refine blk_drew ?_ | refine blk_alloc ?_ _)); exact BK206.out⟩, ⟨by (with_reducible repeat (first | refine blk_drewN ?_ _ | refine blk_drew ?_ | refine blk_alloc ?_ _)); exact BK211.out⟩, ⟨by repeat (first | (with_reducible first | exact HB.out | apply below_alloc | apply pw_below_drewN | apply below_drew1 | refine below_set ?_ GE204.out | refine below_set ?_ GE205.out | refine below_set ?_ GE206.out | refine below_set ?_ GE211.out) | exact HB.out)⟩⟩
              case rest =>
                clear HC80
                try clear c1
                try clear c2
                try clear p2
                try clear c3
                try clear c4
                try clear c5
                try clear c6
                try clear p6
                try clear c7
                try clear c7b0
                try clear c8
                try clear c9
                try clear c10
                try clear c11
                try clear c12
                try clear c13
                try clear c14
                try clear c15
                try clear c16
                try clear c17
                try clear c18
                try clear c23
                try clear c23b0
                try clear c24
                try clear c26
                try clear c27
                try clear c28
                try clear c29
                try clear c31
                try clear c32
                try clear c33
                try clear c35
                try clear c36
                try clear c38
                try clear c40
                try clear c41
                try clear c42
                try clear c43
                try clear c45
                try clear c46
                try clear c47
                try clear c49
                try clear c50
                try clear c52
                try clear c54
                try clear c55
                try clear c56
                try clear c57
                try clear c59
                try clear c60
                try clear c61
                try clear c63
                try clear c64
                try clear p64
                try clear c66
                try clear c68
                try clear c69
                try clear c70
                try clear c71
                try clear c73
                try clear c74
                try clear c75
                try clear c77
                try clear c78
                try clear c81
                try clear c82
                try clear c83
                try clear c85
                try clear c85b0
                try clear c86
                try clear c89
                try clear c90
                try clear c91
                try clear c93
                try clear c94
                try clear c96
                try clear c98
                try clear c101
                try clear c102
                try clear c103
                try clear c105
                try clear c106
                try clear c108
                try clear c110
                try clear c113
                try clear c114
                try clear c115
                try clear c117
                try clear c118
                try clear c120
                try clear c122
                try clear c125
                try clear c126
                try clear c127
                try clear c129
                try clear c130
                try clear c132
                try clear c134
                try clear c137
                try clear c138
                try clear c139
                try clear c141
                try clear c142
                try clear c144
                try clear c146
                try clear c149
                try clear c150
                try clear c151
                try clear c153
                try clear c154
                try clear c156
                try clear c158
                try clear c161
                try clear c162
                try clear c163
                try clear c165
                try clear c166
                try clear c168
                try clear c170
                try clear c173
                try clear c174
                try clear c175
                try clear c177
                try clear c178
                try clear c180
                try clear hcz104_0
                try clear hcz107_0
                try clear hcz109_0
                try clear hcz116_0
                try clear hcz119_0
                try clear hcz11_0
                try clear hcz121_0
                try clear hcz128_0
                try clear hcz131_0
                try clear hcz133_0
                try clear hcz13_0
                try clear hcz140_0
                try clear hcz143_0
                try clear hcz145_0
                try clear hcz152_0
                try clear hcz155_0
                try clear hcz157_0
                try clear hcz164_0
                try clear hcz167_0
                try clear hcz169_0
                try clear hcz176_0
                try clear hcz179_0
                try clear hcz181_0
                try clear hcz18_0
                try clear hcz20_0
                try clear hcz30_0
                try clear hcz34_0
                try clear hcz37_0
                try clear hcz44_0
                try clear hcz48_0
                try clear hcz51_0
                try clear hcz58_0
                try clear hcz62_0
                try clear hcz65_0
                try clear hcz72_0
                try clear hcz76_0
                try clear hcz79_0
                try clear hcz84_0
                try clear hcz92_0
                try clear hcz95_0
                try clear hcz97_0
                try clear hfz104_0
                try clear hfz107_0
                try clear hfz109_0
                try clear hfz116_0
                try clear hfz119_0
                try clear hfz11_0
                try clear hfz121_0
                try clear hfz128_0
                try clear hfz131_0
                try clear hfz133_0
                try clear hfz13_0
                try clear hfz140_0
                try clear hfz143_0
                try clear hfz145_0
                try clear hfz152_0
                try clear hfz155_0
                try clear hfz157_0
                try clear hfz164_0
                try clear hfz167_0
                try clear hfz169_0
                try clear hfz176_0
                try clear hfz179_0
                try clear hfz181_0
                try clear hfz18_0
                try clear hfz20_0
                try clear hfz30_0
                try clear hfz34_0
                try clear hfz37_0
                try clear hfz44_0
                try clear hfz48_0
                try clear hfz51_0
                try clear hfz58_0
                try clear hfz62_0
                try clear hfz65_0
                try clear hfz72_0
                try clear hfz76_0
                try clear hfz79_0
                try clear hfz84_0
                try clear hfz92_0
                try clear hfz95_0
                try clear hfz97_0
                try clear p2
                obtain ⟨kq, x10_79, x11_79, x207000_79, x207001_79, x207002_79, x207003_79, x207004_79, x207005_79, x207006_79, x207007_79, rfl, rfl, HA, HJ79, BK204, BK205, BK206, BK211, HB⟩ := hcut
                cases kq with
                | zero => exact absurd HA.out (by simp [mixer_Mix.j2])
                | succ kj79 =>
                  have H := HA.out
                  clear HA
                  simp only [mixer_Mix.j2] at H
                  have H' := Aside0.mk H
                  clear H
                  have hnb182 := NB211_204.out
                  have hnc182 := NB204_211.out
                  have hnb183 := NB211_205.out
                  have hnc183 := NB205_211.out
                  have hnb184 := NB211_206.out
                  have hnc184 := NB206_211.out
                  have hcz185_0 := blk_cells4 (w := wc) (g := gb211) BK211.out
                  have hfz185_0 := blk_frozen BK211.out
                  go_wp2
                  go_loopg [78] kj79 (fun kq v78 w' => ∃ (x78_4 : Int) (x207000_4 : Int) (x207001_4 : Int) (x207002_4 : Int) (x207003_4 : Int) (x207004_4 : Int) (x207005_4 : Int) (x207006_4 : Int) (x207007_4 : Int), v78 = .int .i64 x78_4 ∧ Aside0 (mixer_Mix.l1 kq x10_79 x11_79 x78_4 x207000_4 x207001_4 x207002_4 x207003_4 x207004_4 x207005_4 x207006_4 x207007_4 x212000_2 x212001_2 x212002_2 x212003_2 = some (r1, r2, r3, r4, r5, r6, r7, r8, r9)) ∧ Aside0 (kq ≤ kj79) ∧ Aside0 (w'.heap[gb204]? = some (.cells #[.int .i64 t207, .int .i64 t208, .int .i64 t209, .int .i64 t210] 39 (0, 0))) ∧ Aside0 (w'.heap[gb205]? = some (.cells #[.int .i64 x206000_2, .int .i64 x206001_2, .int .i64 x206002_2, .int .i64 x206003_2, .int .i64 x206004_2, .int .i64 x206005_2, .int .i64 x206006_2, .int .i64 x206007_2] 22 (0, 0))) ∧ Aside0 (w'.heap[gb206]? = some (.cells #[.int .i64 x207000_4, .int .i64 x207001_4, .int .i64 x207002_4, .int .i64 x207003_4, .int .i64 x207004_4, .int .i64 x207005_4, .int .i64 x207006_4, .int .i64 x207007_4] 22 (0, 0))) ∧ Aside0 (w'.heap[gb211]? = some (.cells #[.int .i64 x212000_2, .int .i64 x212001_2, .int .i64 x212002_2, .int .i64 x212003_2] 54 (0, 0))) ∧ Aside0 (Below w.heap.size w w'))
                  case atStart => exact ⟨(0), (x207000_79), (x207001_79), (x207002_79), (x207003_79), (x207004_79), (x207005_79), (x207006_79), (x207007_79), (by first | rfl | (simp; done) | (simp [*]; done)), H', ⟨Nat.le_refl _⟩, ⟨by (with_reducible repeat (first | refine blk_drewN ?_ _ | refine blk_drew ?_ | refine blk_alloc ?_ _)); exact BK204.out⟩, ⟨by (with_reducible repeat (first | refine blk_drewN ?_ _ | refine blk_drew ?_ | refine blk_alloc ?_ _)); exact BK205.out⟩, ⟨by (with_reducible repeat (first | refine blk_drewN ?_ _ | refine blk_drew ?_ | refine blk_alloc ?_ _)); exact BK206.out⟩, ⟨by (with_reducible repeat (first | refine blk_drewN ?_ _ | refine blk_drew ?_ | refine blk_alloc ?_ _)); exact BK211.out⟩, ⟨by repeat (first | (with_reducible first | exact HB.out | apply below_alloc | apply pw_below_drewN | apply below_drew1 | refine below_set ?_ GE204.out | refine below_set ?_ GE205.out | refine below_set ?_ GE206.out | refine below_set ?_ GE211.out) | exact HB.out)⟩⟩
                  case round =>
                    clear H'
                    try clear c1
                    try clear c2
                    try clear p2
                    try clear c3
                    try clear c4
                    try clear c5
                    try clear c6
                    try clear p6
                    try clear c7
                    try clear c7b0
                    try clear c8
                    try clear c9
                    try clear c10
                    try clear c11
                    try clear c12
                    try clear c13
                    try clear c14
                    try clear c15
                    try clear c16
                    try clear c17
                    try clear c18
                    try clear c23
                    try clear c23b0
                    try clear c24
                    try clear c26
                    try clear c27
                    try clear c28
                    try clear c29
                    try clear c31
                    try clear c32
                    try clear c33
                    try clear c35
                    try clear c36
                    try clear c38
                    try clear c40
                    try clear c41
                    try clear c42
                    try clear c43
                    try clear c45
                    try clear c46
                    try clear c47
                    try clear c49
                    try clear c50
                    try clear c52
                    try clear c54
                    try clear c55
                    try clear c56
                    try clear c57
                    try clear c59
                    try clear c60
                    try clear c61
                    try clear c63
                    try clear c64
                    try clear p64
                    try clear c66
                    try clear c68
                    try clear c69
                    try clear c70
                    try clear c71
                    try clear c73
                    try clear c74
                    try clear c75
                    try clear c77
                    try clear c78
                    try clear c81
                    try clear c82
                    try clear c83
                    try clear c85
                    try clear c85b0
                    try clear c86
                    try clear c89
                    try clear c90
                    try clear c91
                    try clear c93
                    try clear c94
                    try clear c96
                    try clear c98
                    try clear c101
                    try clear c102
                    try clear c103
                    try clear c105
                    try clear c106
                    try clear c108
                    try clear c110
                    try clear c113
                    try clear c114
                    try clear c115
                    try clear c117
                    try clear c118
                    try clear c120
                    try clear c122
                    try clear c125
                    try clear c126
                    try clear c127
                    try clear c129
                    try clear c130
                    try clear c132
                    try clear c134
                    try clear c137
                    try clear c138
                    try clear c139
                    try clear c141
                    try clear c142
                    try clear c144
                    try clear c146
                    try clear c149
                    try clear c150
                    try clear c151
                    try clear c153
                    try clear c154
                    try clear c156
                    try clear c158
                    try clear c161
                    try clear c162
                    try clear c163
                    try clear c165
                    try clear c166
                    try clear c168
                    try clear c170
                    try clear c173
                    try clear c174
                    try clear c175
                    try clear c177
                    try clear c178
                    try clear c180
                    try clear c182
                    try clear c183
                    try clear c184
                    try clear hcz104_0
                    try clear hcz107_0
                    try clear hcz109_0
                    try clear hcz116_0
                    try clear hcz119_0
                    try clear hcz11_0
                    try clear hcz121_0
                    try clear hcz128_0
                    try clear hcz131_0
                    try clear hcz133_0
                    try clear hcz13_0
                    try clear hcz140_0
                    try clear hcz143_0
                    try clear hcz145_0
                    try clear hcz152_0
                    try clear hcz155_0
                    try clear hcz157_0
                    try clear hcz164_0
                    try clear hcz167_0
                    try clear hcz169_0
                    try clear hcz176_0
                    try clear hcz179_0
                    try clear hcz181_0
                    try clear hcz185_0
                    try clear hcz18_0
                    try clear hcz20_0
                    try clear hcz30_0
                    try clear hcz34_0
                    try clear hcz37_0
                    try clear hcz44_0
                    try clear hcz48_0
                    try clear hcz51_0
                    try clear hcz58_0
                    try clear hcz62_0
                    try clear hcz65_0
                    try clear hcz72_0
                    try clear hcz76_0
                    try clear hcz79_0
                    try clear hcz84_0
                    try clear hcz92_0
                    try clear hcz95_0
                    try clear hcz97_0
                    try clear hfz104_0
                    try clear hfz107_0
                    try clear hfz109_0
                    try clear hfz116_0
                    try clear hfz119_0
                    try clear hfz11_0
                    try clear hfz121_0
                    try clear hfz128_0
                    try clear hfz131_0
                    try clear hfz133_0
                    try clear hfz13_0
                    try clear hfz140_0
                    try clear hfz143_0
                    try clear hfz145_0
                    try clear hfz152_0
                    try clear hfz155_0
                    try clear hfz157_0
                    try clear hfz164_0
                    try clear hfz167_0
                    try clear hfz169_0
                    try clear hfz176_0
                    try clear hfz179_0
                    try clear hfz181_0
                    try clear hfz185_0
                    try clear hfz18_0
                    try clear hfz20_0
                    try clear hfz30_0
                    try clear hfz34_0
                    try clear hfz37_0
                    try clear hfz44_0
                    try clear hfz48_0
                    try clear hfz51_0
                    try clear hfz58_0
                    try clear hfz62_0
                    try clear hfz65_0
                    try clear hfz72_0
                    try clear hfz76_0
                    try clear hfz79_0
                    try clear hfz84_0
                    try clear hfz92_0
                    try clear hfz95_0
                    try clear hfz97_0
                    try clear p2
                    try clear p6
                    try clear p64
                    obtain ⟨x78_4, x207000_4, x207001_4, x207002_4, x207003_4, x207004_4, x207005_4, x207006_4, x207007_4, rfl, HA, HK4, BK204, BK205, BK206, BK211, HB⟩ := hrel
                    cases gk with
                    | zero => exact absurd HA.out (by simp [mixer_Mix.l1])
                    | succ k4 =>
                      have H := HA.out
                      clear HA
                      simp only [mixer_Mix.l1] at H
                      by_cases c186 : x78_4 < 4
                      · rw [if_pos c186] at H
                        have c186b0 : decide (x78_4 < 4) = true := decide_eq_true c186
                        clear c186
                        by_cases c187 : x78_4 = 0
                        · subst c187
                          have H1 : (if 0 = x10_79 then (mixer_Mix.l1 k4 x10_79 x11_79 1 x207000_4 x207001_4 x207002_4 x207003_4 x207004_4 x207005_4 x207006_4 x207007_4 x212000_2 x212001_2 x212002_2 x212003_2) else ((fix_Clamp.f x11_79 (wrap64 (-x212000_2)) x212000_2).bind fun t232 => ((mixer_floor.f (wrap64 (x212000_2 + t232)) 2).bind fun t233 => (mixer_Mix.l1 k4 x10_79 x11_79 1 t233 (wrap64 (x212000_2 - t233)) x207002_4 x207003_4 x207004_4 x207005_4 x207006_4 x207007_4 x212000_2 x212001_2 x212002_2 x212003_2)))) = some (r1, r2, r3, r4, r5, r6, r7, r8, r9) := by rw [if_pos rfl] at H; exact H
                          clear H
                          have H := H1
                          clear H1
                          by_cases c188 : 0 = x10_79
                          · rw [if_pos c188] at H
                            have c188b0 : (0 == x10_79) = true := beq_iff_eq.mpr c188
                            have c188b1 : (0 != x10_79) = false := bne_eq_false_iff_eq.mpr c188
                            clear c188
                            have H' := Aside0.mk H
                            clear H
                            go_wp2
                            go_roundg k4
                            case measure => have := HJ2.out; have := HK2.out; have := HJ79.out; have := HK4.out; omega
                            case rel => exact ⟨(1), (x207000_4), (x207001_4), (x207002_4), (x207003_4), (x207004_4), (x207005_4), (x207006_4), (x207007_4), (by first | rfl | (simp; done) | (simp [*]; done)), H', ⟨by have := HJ2.out; have := HK2.out; have := HJ79.out; have := HK4.out; omega⟩, ⟨by (with_reducible repeat (first | refine blk_drewN ?_ _ | refine blk_drew ?_ | refine blk_alloc ?_ _)); exact BK204.out⟩, ⟨by (with_reducible repeat (first | refine blk_drewN ?_ _ | refine blk_drew ?_ | refine blk_alloc ?_ _)); exact BK205.out⟩, ⟨by (with_reducible repeat (first | refine blk_drewN ?_ _ | refine blk_drew ?_ | refine blk_alloc ?_ _)); exact BK206.out⟩, ⟨by (with_reducible repeat (first | refine blk_drewN ?_ _ | refine blk_drew ?_ | refine blk_alloc ?_ _)); exact BK211.out⟩, ⟨by repeat (first | (with_reducible first | exact HB.out | apply below_alloc | apply pw_below_drewN | apply below_drew1 | refine below_set ?_ GE204.out | refine below_set ?_ GE205.out | refine below_set ?_ GE206.out | refine below_set ?_ GE211.out) | exact HB.out)⟩⟩
                          · rw [if_neg c188] at H
                            have c188b0 : (0 == x10_79) = false := beq_eq_false_iff_ne.mpr c188
                            have c188b1 : (0 != x10_79) = true := bne_iff_ne.mpr c188
                            replace H := Option.bind_eq_some_iff.mp H
                            obtain ⟨t232, A1890, H⟩ := H
                            replace H : ((mixer_floor.f (wrap64 (x212000_2 + t232)) 2).bind fun t233 => (mixer_Mix.l1 k4 x10_79 x11_79 1 t233 (wrap64 (x212000_2 - t233)) x207002_4 x207003_4 x207004_4 x207005_4 x207006_4 x207007_4 x212000_2 x212001_2 x212002_2 x212003_2)) = some (r1, r2, r3, r4, r5, r6, r7, r8, r9) := H
                            have A189 := Aside0.mk A1890
                            clear A1890
                            replace H := Option.bind_eq_some_iff.mp H
                            obtain ⟨t233, A1900, H⟩ := H
                            replace H : (mixer_Mix.l1 k4 x10_79 x11_79 1 t233 (wrap64 (x212000_2 - t233)) x207002_4 x207003_4 x207004_4 x207005_4 x207006_4 x207007_4 x212000_2 x212001_2 x212002_2 x212003_2) = some (r1, r2, r3, r4, r5, r6, r7, r8, r9) := H
                            have A190 := Aside0.mk A1900
                            clear A1900
                            have H' := Aside0.mk H
                            clear H
                            go_wp2_with (first | (go_at_call 18; (with_reducible refine (fix_Clamp.calls x11_79 (wrap64 (-x212000_2)) x212000_2 t232 _ A189.out).mono ?_); rintro e w' ⟨rfl, ⟨nd, rfl⟩⟩; (try first | exact ⟨rfl, _, World.drewN_drewN _ _ _⟩ | exact ⟨rfl, _, Eq.trans (World.drewN_drewN _ _ _) (congrArg (World.drewN _) (Nat.add_assoc _ _ _))⟩)) | (go_at_call 29; (with_reducible refine (mixer_floor.calls (wrap64 (x212000_2 + t232)) 2 t233 _ A190.out).mono ?_); rintro e w' ⟨rfl, ⟨nd, rfl⟩⟩; (try first | exact ⟨rfl, _, World.drewN_drewN _ _ _⟩ | exact ⟨rfl, _, Eq.trans (World.drewN_drewN _ _ _) (congrArg (World.drewN _) (Nat.add_assoc _ _ _))⟩); have hnb191 := NB206_204.out; have hnc191 := NB204_206.out; have hnb192 := NB206_205.out; have hnc192 := NB205_206.out; have hnb193 := NB206_211.out; have hnc193 := NB211_206.out; have hcz194_0 := blk_cells8 (w := wr) (g := gb206) BK206.out; have hfz194_0 := blk_frozen BK206.out))
                            go_roundg k4
                            case measure => have := HJ2.out; have := HK2.out; have := HJ79.out; have := HK4.out; omega
                            case rel => exact ⟨(1), (t233), (wrap64 (x212000_2 - t233)), (x207002_4), (x207003_4), (x207004_4), (x207005_4), (x207006_4), (x207007_4), (by first | rfl | (simp; done) | (simp [*]; done)), H', ⟨by have := HJ2.out; have := HK2.out; have := HJ79.out; have := HK4.out; omega⟩, ⟨by (with_reducible repeat (first | refine blk_drewN ?_ _ | refine blk_drew ?_ | refine blk_alloc ?_ _)); refine blk_far ?_ NB204_206.out _; (with_reducible repeat (first | refine blk_drewN ?_ _ | refine blk_drew ?_ | refine blk_alloc ?_ _)); refine blk_far ?_ NB204_206.out _; (with_reducible repeat (first | refine blk_drewN ?_ _ | refine blk_drew ?_ | refine blk_alloc ?_ _)); exact BK204.out⟩, ⟨by (with_reducible repeat (first | refine blk_drewN ?_ _ | refine blk_drew ?_ | refine blk_alloc ?_ _)); refine blk_far ?_ NB205_206.out _; (with_reducible repeat (first | refine blk_drewN ?_ _ | refine blk_drew ?_ | refine blk_alloc ?_ _)); refine blk_far ?_ NB205_206.out _; (with_reducible repeat (first | refine blk_drewN ?_ _ | refine blk_drew ?_ | refine blk_alloc ?_ _)); exact BK205.out⟩, ⟨by (with_reducible repeat (first | refine blk_drewN ?_ _ | refine blk_drew ?_ | refine blk_alloc ?_ _)); refine blk_put (cs := #[.int .i64 t233, .int .i64 x207001_4, .int .i64 x207002_4, .int .i64 x207003_4, .int .i64 x207004_4, .int .i64 x207005_4, .int .i64 x207006_4, .int .i64 x207007_4]) ?_ 1 _ rfl; (with_reducible repeat (first | refine blk_drewN ?_ _ | refine blk_drew ?_ | refine blk_alloc ?_ _)); refine blk_put (cs := #[.int .i64 x207000_4, .int .i64 x207001_4, .int .i64 x207002_4, .int .i64 x207003_4, .int .i64 x207004_4, .int .i64 x207005_4, .int .i64 x207006_4, .int .i64 x207007_4]) ?_ 0 _ rfl; (with_reducible repeat (first | refine blk_drewN ?_ _ | refine blk_drew ?_ | refine blk_alloc ?_ _)); exact BK206.out⟩, ⟨by (with_reducible repeat (first | refine blk_drewN ?_ _ | refine blk_drew ?_ | refine blk_alloc ?_ _)); refine blk_far ?_ NB211_206.out _; (with_reducible repeat (first | refine blk_drewN ?_ _ | refine blk_drew ?_ | refine blk_alloc ?_ _)); refine blk_far ?_ NB211_206.out _; (with_reducible repeat (first | refine blk_drewN ?_ _ | refine blk_drew ?_ | refine blk_alloc ?_ _)); exact BK211.out⟩, ⟨by repeat (first | (with_reducible first | exact HB.out | apply below_alloc | apply pw_below_drewN | apply below_drew1 | refine below_set ?_ GE204.out | refine below_set ?_ GE205.out | refine below_set ?_ GE206.out | refine below_set ?_ GE211.out) | exact HB.out)⟩⟩
                        rw [if_neg c187] at H
                        by_cases c195 : x78_4 = 1
                        · subst c195
                          have H1 : (if 1 = x10_79 then (mixer_Mix.l1 k4 x10_79 x11_79 2 x207000_4 x207001_4 x207002_4 x207003_4 x207004_4 x207005_4 x207006_4 x207007_4 x212000_2 x212001_2 x212002_2 x212003_2) else ((fix_Clamp.f x11_79 (wrap64 (-x212001_2)) x212001_2).bind fun t234 => ((mixer_floor.f (wrap64 (x212001_2 + t234)) 2).bind fun t235 => (mixer_Mix.l1 k4 x10_79 x11_79 2 x207000_4 x207001_4 t235 (wrap64 (x212001_2 - t235)) x207004_4 x207005_4 x207006_4 x207007_4 x212000_2 x212001_2 x212002_2 x212003_2)))) = some (r1, r2, r3, r4, r5, r6, r7, r8, r9) := by rw [if_pos rfl] at H; exact H
                          clear H
                          have H := H1
                          clear H1
                          by_cases c196 : 1 = x10_79
                          · rw [if_pos c196] at H
                            have c196b0 : (1 == x10_79) = true := beq_iff_eq.mpr c196
                            have c196b1 : (1 != x10_79) = false := bne_eq_false_iff_eq.mpr c196
                            clear c196
                            have H' := Aside0.mk H
                            clear H
                            go_wp2
                            go_roundg k4
                            case measure => have := HJ2.out; have := HK2.out; have := HJ79.out; have := HK4.out; omega
                            case rel => exact ⟨(2), (x207000_4), (x207001_4), (x207002_4), (x207003_4), (x207004_4), (x207005_4), (x207006_4), (x207007_4), (by first | rfl | (simp; done) | (simp [*]; done)), H', ⟨by have := HJ2.out; have := HK2.out; have := HJ79.out; have := HK4.out; omega⟩, ⟨by (with_reducible repeat (first | refine blk_drewN ?_ _ | refine blk_drew ?_ | refine blk_alloc ?_ _)); exact BK204.out⟩, ⟨by (with_reducible repeat (first | refine blk_drewN ?_ _ | refine blk_drew ?_ | refine blk_alloc ?_ _)); exact BK205.out⟩, ⟨by (with_reducible repeat (first | refine blk_drewN ?_ _ | refine blk_drew ?_ | refine blk_alloc ?_ _)); exact BK206.out⟩, ⟨by (with_reducible repeat (first | refine blk_drewN ?_ _ | refine blk_drew ?_ | refine blk_alloc ?_ _)); exact BK211.out⟩, ⟨by repeat (first | (with_reducible first | exact HB.out | apply below_alloc | apply pw_below_drewN | apply below_drew1 | refine below_set ?_ GE204.out | refine below_set ?_ GE205.out | refine below_set ?_ GE206.out | refine below_set ?_ GE211.out) | exact HB.out)⟩⟩
                          · rw [if_neg c196] at H
                            have c196b0 : (1 == x10_79) = false := beq_eq_false_iff_ne.mpr c196
                            have c196b1 : (1 != x10_79) = true := bne_iff_ne.mpr c196
                            replace H := Option.bind_eq_some_iff.mp H
                            obtain ⟨t234, A1970, H⟩ := H
                            replace H : ((mixer_floor.f (wrap64 (x212001_2 + t234)) 2).bind fun t235 => (mixer_Mix.l1 k4 x10_79 x11_79 2 x207000_4 x207001_4 t235 (wrap64 (x212001_2 - t235)) x207004_4 x207005_4 x207006_4 x207007_4 x212000_2 x212001_2 x212002_2 x212003_2)) = some (r1, r2, r3, r4, r5, r6, r7, r8, r9) := H
                            have A197 := Aside0.mk A1970
                            clear A1970
                            replace H := Option.bind_eq_some_iff.mp H
                            obtain ⟨t235, A1980, H⟩ := H
                            replace H : (mixer_Mix.l1 k4 x10_79 x11_79 2 x207000_4 x207001_4 t235 (wrap64 (x212001_2 - t235)) x207004_4 x207005_4 x207006_4 x207007_4 x212000_2 x212001_2 x212002_2 x212003_2) = some (r1, r2, r3, r4, r5, r6, r7, r8, r9) := H
                            have A198 := Aside0.mk A1980
                            clear A1980
                            have H' := Aside0.mk H
                            clear H
                            go_wp2_with (first | (go_at_call 18; (with_reducible refine (fix_Clamp.calls x11_79 (wrap64 (-x212001_2)) x212001_2 t234 _ A197.out).mono ?_); rintro e w' ⟨rfl, ⟨nd, rfl⟩⟩; (try first | exact ⟨rfl, _, World.drewN_drewN _ _ _⟩ | exact ⟨rfl, _, Eq.trans (World.drewN_drewN _ _ _) (congrArg (World.drewN _) (Nat.add_assoc _ _ _))⟩)) | (go_at_call 29; (with_reducible refine (mixer_floor.calls (wrap64 (x212001_2 + t234)) 2 t235 _ A198.out).mono ?_); rintro e w' ⟨rfl, ⟨nd, rfl⟩⟩; (try first | exact ⟨rfl, _, World.drewN_drewN _ _ _⟩ | exact ⟨rfl, _, Eq.trans (World.drewN_drewN _ _ _) (congrArg (World.drewN _) (Nat.add_assoc _ _ _))⟩); have hnb199 := NB206_204.out; have hnc199 := NB204_206.out; have hnb200 := NB206_205.out; have hnc200 := NB205_206.out; have hnb201 := NB206_211.out; have hnc201 := NB211_206.out; have hcz202_0 := blk_cells8 (w := wr) (g := gb206) BK206.out; have hfz202_0 := blk_frozen BK206.out))
                            go_roundg k4
                            case measure => have := HJ2.out; have := HK2.out; have := HJ79.out; have := HK4.out; omega
                            case rel => exact ⟨(2), (x207000_4), (x207001_4), (t235), (wrap64 (x212001_2 - t235)), (x207004_4), (x207005_4), (x207006_4), (x207007_4), (by first | rfl | (simp; done) | (simp [*]; done)), H', ⟨by have := HJ2.out; have := HK2.out; have := HJ79.out; have := HK4.out; omega⟩, ⟨by (with_reducible repeat (first | refine blk_drewN ?_ _ | refine blk_drew ?_ | refine blk_alloc ?_ _)); refine blk_far ?_ NB204_206.out _; (with_reducible repeat (first | refine blk_drewN ?_ _ | refine blk_drew ?_ | refine blk_alloc ?_ _)); refine blk_far ?_ NB204_206.out _; (with_reducible repeat (first | refine blk_drewN ?_ _ | refine blk_drew ?_ | refine blk_alloc ?_ _)); exact BK204.out⟩, ⟨by (with_reducible repeat (first | refine blk_drewN ?_ _ | refine blk_drew ?_ | refine blk_alloc ?_ _)); refine blk_far ?_ NB205_206.out _; (with_reducible repeat (first | refine blk_drewN ?_ _ | refine blk_drew ?_ | refine blk_alloc ?_ _)); refine blk_far ?_ NB205_206.out _; (with_reducible repeat (first | refine blk_drewN ?_ _ | refine blk_drew ?_ | refine blk_alloc ?_ _)); exact BK205.out⟩, ⟨by (with_reducible repeat (first | refine blk_drewN ?_ _ | refine blk_drew ?_ | refine blk_alloc ?_ _)); refine blk_put (cs := #[.int .i64 x207000_4, .int .i64 x207001_4, .int .i64 t235, .int .i64 x207003_4, .int .i64 x207004_4, .int .i64 x207005_4, .int .i64 x207006_4, .int .i64 x207007_4]) ?_ 3 _ rfl; (with_reducible repeat (first | refine blk_drewN ?_ _ | refine blk_drew ?_ | refine blk_alloc ?_ _)); refine blk_put (cs := #[.int .i64 x207000_4, .int .i64 x207001_4, .int .i64 x207002_4, .int .i64 x207003_4, .int .i64 x207004_4, .int .i64 x207005_4, .int .i64 x207006_4, .int .i64 x207007_4]) ?_ 2 _ rfl; (with_reducible repeat (first | refine blk_drewN ?_ _ | refine blk_drew ?_ | refine blk_alloc ?_ _)); exact BK206.out⟩, ⟨by (with_reducible repeat (first | refine blk_drewN ?_ _ | refine blk_drew ?_ | refine blk_alloc ?_ _)); refine blk_far ?_ NB211_206.out _; (with_reducible repeat (first | refine blk_drewN ?_ _ | refine blk_drew ?_ | refine blk_alloc ?_ _)); refine blk_far ?_ NB211_206.out _; (with_reducible repeat (first | refine blk_drewN ?_ _ | refine blk_drew ?_ | refine blk_alloc ?_ _)); exact BK211.out⟩, ⟨by repeat (first | (with_reducible first | exact HB.out | apply below_alloc | apply pw_below_drewN | apply below_drew1 | refine below_set ?_ GE204.out | refine below_set ?_ GE205.out | refine below_set ?_ GE206.out | refine below_set ?_ GE211.out) | exact HB.out)⟩⟩
                        rw [if_neg c195] at H
                        by_cases c203 : x78_4 = 2
                        · subst c203
                          have H1 : (if 2 = x10_79 then (mixer_Mix.l1 k4 x10_79 x11_79 3 x207000_4 x207001_4 x207002_4 x207003_4 x207004_4 x207005_4 x207006_4 x207007_4 x212000_2 x212001_2 x212002_2 x212003_2) else ((fix_Clamp.f x11_79 (wrap64 (-x212002_2)) x212002_2).bind fun t236 => ((mixer_floor.f (wrap64 (x212002_2 + t236)) 2).bind fun t237 => (mixer_Mix.l1 k4 x10_79 x11_79 3 x207000_4 x207001_4 x207002_4 x207003_4 t237 (wrap64 (x212002_2 - t237)) x207006_4 x207007_4 x212000_2 x212001_2 x212002_2 x212003_2)))) = some (r1, r2, r3, r4, r5, r6, r7, r8, r9) := by rw [if_pos rfl] at H; exact H
                          clear H
                          have H := H1
                          clear H1
                          by_cases c204 : 2 = x10_79
                          · rw [if_pos c204] at H
                            have c204b0 : (2 == x10_79) = true := beq_iff_eq.mpr c204
                            have c204b1 : (2 != x10_79) = false := bne_eq_false_iff_eq.mpr c204
                            clear c204
                            have H' := Aside0.mk H
                            clear H
                            go_wp2
                            go_roundg k4
                            case measure => have := HJ2.out; have := HK2.out; have := HJ79.out; have := HK4.out; omega
                            case rel => exact ⟨(3), (x207000_4), (x207001_4), (x207002_4), (x207003_4), (x207004_4), (x207005_4), (x207006_4), (x207007_4), (by first | rfl | (simp; done) | (simp [*]; done)), H', ⟨by have := HJ2.out; have := HK2.out; have := HJ79.out; have := HK4.out; omega⟩, ⟨by (with_reducible repeat (first | refine blk_drewN ?_ _ | refine blk_drew ?_ | refine blk_alloc ?_ _)); exact BK204.out⟩, ⟨by (with_reducible repeat (first | refine blk_drewN ?_ _ | refine blk_drew ?_ | refine blk_alloc ?_ _)); exact BK205.out⟩, ⟨by (with_reducible repeat (first | refine blk_drewN ?_ _ | refine blk_drew ?_ | refine blk_alloc ?_ _)); exact BK206.out⟩, ⟨by (with_reducible repeat (first | refine blk_drewN ?_ _ | refine blk_drew ?_ | refine blk_alloc ?_ _)); exact BK211.out⟩, ⟨by repeat (first | (with_reducible first | exact HB.out | apply below_alloc | apply pw_below_drewN | apply below_drew1 | refine below_set ?_ GE204.out | refine below_set ?_ GE205.out | refine below_set ?_ GE206.out | refine below_set ?_ GE211.out) | exact HB.out)⟩⟩
                          · rw [if_neg c204] at H
                            have c204b0 : (2 == x10_79) = false := beq_eq_false_iff_ne.mpr c204
                            have c204b1 : (2 != x10_79) = true := bne_iff_ne.mpr c204
                            replace H := Option.bind_eq_some_iff.mp H
                            obtain ⟨t236, A2050, H⟩ := H
                            replace H : ((mixer_floor.f (wrap64 (x212002_2 + t236)) 2).bind fun t237 => (mixer_Mix.l1 k4 x10_79 x11_79 3 x207000_4 x207001_4 x207002_4 x207003_4 t237 (wrap64 (x212002_2 - t237)) x207006_4 x207007_4 x212000_2 x212001_2 x212002_2 x212003_2)) = some (r1, r2, r3, r4, r5, r6, r7, r8, r9) := H
                            have A205 := Aside0.mk A2050
                            clear A2050
                            replace H := Option.bind_eq_some_iff.mp H
                            obtain ⟨t237, A2060, H⟩ := H
                            replace H : (mixer_Mix.l1 k4 x10_79 x11_79 3 x207000_4 x207001_4 x207002_4 x207003_4 t237 (wrap64 (x212002_2 - t237)) x207006_4 x207007_4 x212000_2 x212001_2 x212002_2 x212003_2) = some (r1, r2, r3, r4, r5, r6, r7, r8, r9) := H
                            have A206 := Aside0.mk A2060
                            clear A2060
                            have H' := Aside0.mk H
                            clear H
                            go_wp2_with (first | (go_at_call 18; (with_reducible refine (fix_Clamp.calls x11_79 (wrap64 (-x212002_2)) x212002_2 t236 _ A205.out).mono ?_); rintro e w' ⟨rfl, ⟨nd, rfl⟩⟩; (try first | exact ⟨rfl, _, World.drewN_drewN _ _ _⟩ | exact ⟨rfl, _, Eq.trans (World.drewN_drewN _ _ _) (congrArg (World.drewN _) (Nat.add_assoc _ _ _))⟩)) | (go_at_call 29; (with_reducible refine (mixer_floor.calls (wrap64 (x212002_2 + t236)) 2 t237 _ A206.out).mono ?_); rintro e w' ⟨rfl, ⟨nd, rfl⟩⟩; (try first | exact ⟨rfl, _, World.drewN_drewN _ _ _⟩ | exact ⟨rfl, _, Eq.trans (World.drewN_drewN _ _ _) (congrArg (World.drewN _) (Nat.add_assoc _ _ _))⟩); have hnb207 := NB206_204.out; have hnc207 := NB204_206.out; have hnb208 := NB206_205.out; have hnc208 := NB205_206.out; have hnb209 := NB206_211.out; have hnc209 := NB211_206.out; have hcz210_0 := blk_cells8 (w := wr) (g := gb206) BK206.out; have hfz210_0 := blk_frozen BK206.out))
                            go_roundg k4
                            case measure => have := HJ2.out; have := HK2.out; have := HJ79.out; have := HK4.out; omega
                            case rel => exact ⟨(3), (x207000_4), (x207001_4), (x207002_4), (x207003_4), (t237), (wrap64 (x212002_2 - t237)), (x207006_4), (x207007_4), (by first | rfl | (simp; done) | (simp [*]; done)), H', ⟨by have := HJ2.out; have := HK2.out; have := HJ79.out; have := HK4.out; omega⟩, ⟨by (with_reducible repeat (first | refine blk_drewN ?_ _ | refine blk_drew ?_ | refine blk_alloc ?_ _)); refine blk_far ?_ NB204_206.out _; (with_reducible repeat (first | refine blk_drewN ?_ _ | refine blk_drew ?_ | refine blk_alloc ?_ _)); refine blk_far ?_ NB204_206.out _; (with_reducible repeat (first | refine blk_drewN ?_ _ | refine blk_drew ?_ | refine blk_alloc ?_ _)); exact BK204.out⟩, ⟨by (with_reducible repeat (first | refine blk_drewN ?_ _ | refine blk_drew ?_ | refine blk_alloc ?_ _)); refine blk_far ?_ NB205_206.out _; (with_reducible repeat (first | refine blk_drewN ?_ _ | refine blk_drew ?_ | refine blk_alloc ?_ _)); refine blk_far ?_ NB205_206.out _; (with_reducible repeat (first | refine blk_drewN ?_ _ | refine blk_drew ?_ | refine blk_alloc ?_ _)); exact BK205.out⟩, ⟨by (with_reducible repeat (first | refine blk_drewN ?_ _ | refine blk_drew ?_ | refine blk_alloc ?_ _)); refine blk_put (cs := #[.int .i64 x207000_4, .int .i64 x207001_4, .int .i64 x207002_4, .int .i64 x207003_4, .int .i64 t237, .int .i64 x207005_4, .int .i64 x207006_4, .int .i64 x207007_4]) ?_ 5 _ rfl; (with_reducible repeat (first | refine blk_drewN ?_ _ | refine blk_drew ?_ | refine blk_alloc ?_ _)); refine blk_put (cs := #[.int .i64 x207000_4, .int .i64 x207001_4, .int .i64 x207002_4, .int .i64 x207003_4, .int .i64 x207004_4, .int .i64 x207005_4, .int .i64 x207006_4, .int .i64 x207007_4]) ?_ 4 _ rfl; (with_reducible repeat (first | refine blk_drewN ?_ _ | refine blk_drew ?_ | refine blk_alloc ?_ _)); exact BK206.out⟩, ⟨by (with_reducible repeat (first | refine blk_drewN ?_ _ | refine blk_drew ?_ | refine blk_alloc ?_ _)); refine blk_far ?_ NB211_206.out _; (with_reducible repeat (first | refine blk_drewN ?_ _ | refine blk_drew ?_ | refine blk_alloc ?_ _)); refine blk_far ?_ NB211_206.out _; (with_reducible repeat (first | refine blk_drewN ?_ _ | refine blk_drew ?_ | refine blk_alloc ?_ _)); exact BK211.out⟩, ⟨by repeat (first | (with_reducible first | exact HB.out | apply below_alloc | apply pw_below_drewN | apply below_drew1 | refine below_set ?_ GE204.out | refine below_set ?_ GE205.out | refine below_set ?_ GE206.out | refine below_set ?_ GE211.out) | exact HB.out)⟩⟩
                        rw [if_neg c203] at H
                        by_cases c211 : x78_4 = 3
                        · subst c211
                          have H1 : (if 3 = x10_79 then (mixer_Mix.l1 k4 x10_79 x11_79 4 x207000_4 x207001_4 x207002_4 x207003_4 x207004_4 x207005_4 x207006_4 x207007_4 x212000_2 x212001_2 x212002_2 x212003_2) else ((fix_Clamp.f x11_79 (wrap64 (-x212003_2)) x212003_2).bind fun t238 => ((mixer_floor.f (wrap64 (x212003_2 + t238)) 2).bind fun t239 => (mixer_Mix.l1 k4 x10_79 x11_79 4 x207000_4 x207001_4 x207002_4 x207003_4 x207004_4 x207005_4 t239 (wrap64 (x212003_2 - t239)) x212000_2 x212001_2 x212002_2 x212003_2)))) = some (r1, r2, r3, r4, r5, r6, r7, r8, r9) := by rw [if_pos rfl] at H; exact H
                          clear H
                          have H := H1
                          clear H1
                          by_cases c212 : 3 = x10_79
                          · rw [if_pos c212] at H
                            have c212b0 : (3 == x10_79) = true := beq_iff_eq.mpr c212
                            have c212b1 : (3 != x10_79) = false := bne_eq_false_iff_eq.mpr c212
                            clear c212
                            have H' := Aside0.mk H
                            clear H
                            go_wp2
                            go_roundg k4
                            case measure => have := HJ2.out; have := HK2.out; have := HJ79.out; have := HK4.out; omega
                            case rel => exact ⟨(4), (x207000_4), (x207001_4), (x207002_4), (x207003_4), (x207004_4), (x207005_4), (x207006_4), (x207007_4), (by first | rfl | (simp; done) | (simp [*]; done)), H', ⟨by have := HJ2.out; have := HK2.out; have := HJ79.out; have := HK4.out; omega⟩, ⟨by (with_reducible repeat (first | refine blk_drewN ?_ _ | refine blk_drew ?_ | refine blk_alloc ?_ _)); exact BK204.out⟩, ⟨by (with_reducible repeat (first | refine blk_drewN ?_ _ | refine blk_drew ?_ | refine blk_alloc ?_ _)); exact BK205.out⟩, ⟨by (with_reducible repeat (first | refine blk_drewN ?_ _ | refine blk_drew ?_ | refine blk_alloc ?_ _)); exact BK206.out⟩, ⟨by (with_reducible repeat (first | refine blk_drewN ?_ _ | refine blk_drew ?_ | refine blk_alloc ?_ _)); exact BK211.out⟩, ⟨by repeat (first | (with_reducible first | exact HB.out | apply below_alloc | apply pw_below_drewN | apply below_drew1 | refine below_set ?_ GE204.out | refine below_set ?_ GE205.out | refine below_set ?_ GE206.out | refine below_set ?_ GE211.out) | exact HB.out)⟩⟩
                          · rw [if_neg c212] at H
                            have c212b0 : (3 == x10_79) = false := beq_eq_false_iff_ne.mpr c212
                            have c212b1 : (3 != x10_79) = true := bne_iff_ne.mpr c212
                            replace H := Option.bind_eq_some_iff.mp H
                            obtain ⟨t238, A2130, H⟩ := H
                            replace H : ((mixer_floor.f (wrap64 (x212003_2 + t238)) 2).bind fun t239 => (mixer_Mix.l1 k4 x10_79 x11_79 4 x207000_4 x207001_4 x207002_4 x207003_4 x207004_4 x207005_4 t239 (wrap64 (x212003_2 - t239)) x212000_2 x212001_2 x212002_2 x212003_2)) = some (r1, r2, r3, r4, r5, r6, r7, r8, r9) := H
                            have A213 := Aside0.mk A2130
                            clear A2130
                            replace H := Option.bind_eq_some_iff.mp H
                            obtain ⟨t239, A2140, H⟩ := H
                            replace H : (mixer_Mix.l1 k4 x10_79 x11_79 4 x207000_4 x207001_4 x207002_4 x207003_4 x207004_4 x207005_4 t239 (wrap64 (x212003_2 - t239)) x212000_2 x212001_2 x212002_2 x212003_2) = some (r1, r2, r3, r4, r5, r6, r7, r8, r9) := H
                            have A214 := Aside0.mk A2140
                            clear A2140
                            have H' := Aside0.mk H
                            clear H
                            go_wp2_with (first | (go_at_call 18; (with_reducible refine (fix_Clamp.calls x11_79 (wrap64 (-x212003_2)) x212003_2 t238 _ A213.out).mono ?_); rintro e w' ⟨rfl, ⟨nd, rfl⟩⟩; (try first | exact ⟨rfl, _, World.drewN_drewN _ _ _⟩ | exact ⟨rfl, _, Eq.trans (World.drewN_drewN _ _ _) (congrArg (World.drewN _) (Nat.add_assoc _ _ _))⟩)) | (go_at_call 29; (with_reducible refine (mixer_floor.calls (wrap64 (x212003_2 + t238)) 2 t239 _ A214.out).mono ?_); rintro e w' ⟨rfl, ⟨nd, rfl⟩⟩; (try first | exact ⟨rfl, _, World.drewN_drewN _ _ _⟩ | exact ⟨rfl, _, Eq.trans (World.drewN_drewN _ _ _) (congrArg (World.drewN _) (Nat.add_assoc _ _ _))⟩); have hnb215 := NB206_204.out; have hnc215 := NB204_206.out; have hnb216 := NB206_205.out; have hnc216 := NB205_206.out; have hnb217 := NB206_211.out; have hnc217 := NB211_206.out; have hcz218_0 := blk_cells8 (w := wr) (g := gb206) BK206.out; have hfz218_0 := blk_frozen BK206.out))
                            go_roundg k4
                            case measure => have := HJ2.out; have := HK2.out; have := HJ79.out; have := HK4.out; omega
                            case rel => exact ⟨(4), (x207000_4), (x207001_4), (x207002_4), (x207003_4), (x207004_4), (x207005_4), (t239), (wrap64 (x212003_2 - t239)), (by first | rfl | (simp; done) | (simp [*]; done)), H', ⟨by have := HJ2.out; have := HK2.out; have := HJ79.out; have := HK4.out; omega⟩, ⟨by (with_reducible repeat (first | refine blk_drewN ?_ _ | refine blk_drew ?_ | refine blk_alloc ?_ _)); refine blk_far ?_ NB204_206.out _; (with_reducible repeat (first | refine blk_drewN ?_ _ | refine blk_drew ?_ | refine blk_alloc ?_ _)); refine blk_far ?_ NB204_206.out _; (with_reducible repeat (first | refine blk_drewN ?_ _ | refine blk_drew ?_ | refine blk_alloc ?_ _)); exact BK204.out⟩, ⟨by (with_reducible repeat (first | refine blk_drewN ?_ _ | refine blk_drew ?_ | refine blk_alloc ?_ _)); refine blk_far ?_ NB205_206.out _; (with_reducible repeat (first | refine blk_drewN ?_ _ | refine blk_drew ?_ | refine blk_alloc ?_ _)); refine blk_far ?_ NB205_206.out _; (with_reducible repeat (first | refine blk_drewN ?_ _ | refine blk_drew ?_ | refine blk_alloc ?_ _)); exact BK205.out⟩, ⟨by (with_reducible repeat (first | refine blk_drewN ?_ _ | refine blk_drew ?_ | refine blk_alloc ?_ _)); refine blk_put (cs := #[.int .i64 x207000_4, .int .i64 x207001_4, .int .i64 x207002_4, .int .i64 x207003_4, .int .i64 x207004_4, .int .i64 x207005_4, .int .i64 t239, .int .i64 x207007_4]) ?_ 7 _ rfl; (with_reducible repeat (first | refine blk_drewN ?_ _ | refine blk_drew ?_ | refine blk_alloc ?_ _)); refine blk_put (cs := #[.int .i64 x207000_4, .int .i64 x207001_4, .int .i64 x207002_4, .int .i64 x207003_4, .int .i64 x207004_4, .int .i64 x207005_4, .int .i64 x207006_4, .int .i64 x207007_4]) ?_ 6 _ rfl; (with_reducible repeat (first | refine blk_drewN ?_ _ | refine blk_drew ?_ | refine blk_alloc ?_ _)); exact BK206.out⟩, ⟨by (with_reducible repeat (first | refine blk_drewN ?_ _ | refine blk_drew ?_ | refine blk_alloc ?_ _)); refine blk_far ?_ NB211_206.out _; (with_reducible repeat (first | refine blk_drewN ?_ _ | refine blk_drew ?_ | refine blk_alloc ?_ _)); refine blk_far ?_ NB211_206.out _; (with_reducible repeat (first | refine blk_drewN ?_ _ | refine blk_drew ?_ | refine blk_alloc ?_ _)); exact BK211.out⟩, ⟨by repeat (first | (with_reducible first | exact HB.out | apply below_alloc | apply pw_below_drewN | apply below_drew1 | refine below_set ?_ GE204.out | refine below_set ?_ GE205.out | refine below_set ?_ GE206.out | refine below_set ?_ GE211.out) | exact HB.out)⟩⟩
                        rw [if_neg c211] at H
                        exact absurd H (by simp)
                      · rw [if_neg c186] at H
                        have c186b0 : decide (x78_4 < 4) = false := decide_eq_false c186
                        clear c186
                        simp only [Option.some.injEq, Prod.mk.injEq] at H
                        obtain ⟨rfl, rfl, rfl, rfl, rfl, rfl, rfl, rfl, rfl⟩ := H
                        have hnb219 := NB206_204.out
                        have hnc219 := NB204_206.out
                        have hnb220 := NB206_205.out
                        have hnc220 := NB205_206.out
                        have hnb221 := NB206_211.out
                        have hnc221 := NB211_206.out
                        have hcz222_0 := blk_cells8 (w := wr) (g := gb206) BK206.out
                        have hfz222_0 := blk_frozen BK206.out
                        have hnb223 := NB205_204.out
                        have hnc223 := NB204_205.out
                        have hnb224 := NB205_211.out
                        have hnc224 := NB211_205.out
                        have hcz225_0 := blk_cells8 (w := wr) (g := gb205) BK205.out
                        have hfz225_0 := blk_frozen BK205.out
                        go_wp2
                        refine bodyPost_ret (results_ct rfl _ _ gb205 22 #[.int .i64 x207000_4, .int .i64 x207001_4, .int .i64 x207002_4, .int .i64 x207003_4, .int .i64 x207004_4, .int .i64 x207005_4, .int .i64 x207006_4, .int .i64 x207007_4] (0, 0) _ rfl (by (with_reducible repeat (first | refine blk_drewN ?_ _ | refine blk_drew ?_ | refine blk_alloc ?_ _)); refine blk_put (cs := #[.int .i64 x207000_4, .int .i64 x207001_4, .int .i64 x207002_4, .int .i64 x207003_4, .int .i64 x207004_4, .int .i64 x207005_4, .int .i64 x207006_4, .int .i64 x206007_2]) ?_ 7 _ rfl; (with_reducible repeat (first | refine blk_drewN ?_ _ | refine blk_drew ?_ | refine blk_alloc ?_ _)); refine blk_put (cs := #[.int .i64 x207000_4, .int .i64 x207001_4, .int .i64 x207002_4, .int .i64 x207003_4, .int .i64 x207004_4, .int .i64 x207005_4, .int .i64 x206006_2, .int .i64 x206007_2]) ?_ 6 _ rfl; (with_reducible repeat (first | refine blk_drewN ?_ _ | refine blk_drew ?_ | refine blk_alloc ?_ _)); refine blk_put (cs := #[.int .i64 x207000_4, .int .i64 x207001_4, .int .i64 x207002_4, .int .i64 x207003_4, .int .i64 x207004_4, .int .i64 x206005_2, .int .i64 x206006_2, .int .i64 x206007_2]) ?_ 5 _ rfl; (with_reducible repeat (first | refine blk_drewN ?_ _ | refine blk_drew ?_ | refine blk_alloc ?_ _)); refine blk_put (cs := #[.int .i64 x207000_4, .int .i64 x207001_4, .int .i64 x207002_4, .int .i64 x207003_4, .int .i64 x206004_2, .int .i64 x206005_2, .int .i64 x206006_2, .int .i64 x206007_2]) ?_ 4 _ rfl; (with_reducible repeat (first | refine blk_drewN ?_ _ | refine blk_drew ?_ | refine blk_alloc ?_ _)); refine blk_put (cs := #[.int .i64 x207000_4, .int .i64 x207001_4, .int .i64 x207002_4, .int .i64 x206003_2, .int .i64 x206004_2, .int .i64 x206005_2, .int .i64 x206006_2, .int .i64 x206007_2]) ?_ 3 _ rfl; (with_reducible repeat (first | refine blk_drewN ?_ _ | refine blk_drew ?_ | refine blk_alloc ?_ _)); refine blk_put (cs := #[.int .i64 x207000_4, .int .i64 x207001_4, .int .i64 x206002_2, .int .i64 x206003_2, .int .i64 x206004_2, .int .i64 x206005_2, .int .i64 x206006_2, .int .i64 x206007_2]) ?_ 2 _ rfl; (with_reducible repeat (first | refine blk_drewN ?_ _ | refine blk_drew ?_ | refine blk_alloc ?_ _)); refine blk_put (cs := #[.int .i64 x207000_4, .int .i64 x206001_2, .int .i64 x206002_2, .int .i64 x206003_2, .int .i64 x206004_2, .int .i64 x206005_2, .int .i64 x206006_2, .int .i64 x206007_2]) ?_ 1 _ rfl; (with_reducible repeat (first | refine blk_drewN ?_ _ | refine blk_drew ?_ | refine blk_alloc ?_ _)); refine blk_put (cs := #[.int .i64 x206000_2, .int .i64 x206001_2, .int .i64 x206002_2, .int .i64 x206003_2, .int .i64 x206004_2, .int .i64 x206005_2, .int .i64 x206006_2, .int .i64 x206007_2]) ?_ 0 _ rfl; (with_reducible repeat (first | refine blk_drewN ?_ _ | refine blk_drew ?_ | refine blk_alloc ?_ _)); exact BK205.out) Try.underlying22 rfl (by kernel_rfl)) rfl ?_
                        exact ⟨by first | rfl | (simp [errW_none, errW_some] <;> rfl) | (simp [*, errW_none, errW_some] <;> rfl), by repeat (first | (with_reducible first | exact HB.out | apply below_alloc | apply pw_below_drewN | apply below_drew1 | refine below_set ?_ GE204.out | refine below_set ?_ GE205.out | refine below_set ?_ GE206.out | refine below_set ?_ GE211.out) | exact HB.out)⟩

end Go.Proofs.Ytbgggogkblkopaa.PWorldObeys
