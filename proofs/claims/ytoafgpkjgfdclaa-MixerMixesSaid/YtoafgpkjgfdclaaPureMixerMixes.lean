/- The law MixerMixes: what motors do for a wrench, and what they do together, are the document's answers: for every wrench, every dead motor, every commands. -/
import Derived.Test.YtoafgpkjgfdclaaPMixerMixesx9
namespace Go.Proofs.Ytoafgpkjgfdclaa.Pure
open Go.RowKit Go.Proofs.Ytoafgpkjgfdclaa.PMixerMixes Go.Proofs.YtoafgpkjgfdclaaW.PrintWords Go.Proofs.YtoafgpkjgfdclaaW.PrintLast

set_option linter.unusedSimpArgs false
def cl (x lo hi : Int) : Int := if x < lo then lo else if x > hi then hi else x
def fl (a b : Int) : Int := if Int.tmod a b < 0 then wrap64 (wrap64 (Int.tdiv a b) - 1) else wrap64 (Int.tdiv a b)
theorem clamp_f (x lo hi : Int) : fix_Clamp.f x lo hi = some (cl x lo hi) := by
  unfold fix_Clamp.f cl; split <;> (try split) <;> rfl
theorem rclamp_f (x lo hi : Int) : windhoverref01_Clamp.f x lo hi = some (cl x lo hi) := by
  unfold windhoverref01_Clamp.f cl; split <;> (try split) <;> rfl
theorem floor2_f (a : Int) : mixer_floor.f a 2 = some (fl a 2) := by
  unfold mixer_floor.f fix_Down.f fl; simp; split <;> rfl
theorem floor3_f (a : Int) : mixer_floor.f a 3 = some (fl a 3) := by
  unfold mixer_floor.f fix_Down.f fl; simp; split <;> rfl
theorem floor4_f (a : Int) : mixer_floor.f a 4 = some (fl a 4) := by
  unfold mixer_floor.f fix_Down.f fl; simp; split <;> rfl
theorem rfloor2_f (a : Int) : windhoverref01_Floor.f a 2 = some (fl a 2) := by
  unfold windhoverref01_Floor.f fl; simp; split <;> rfl
theorem rfloor3_f (a : Int) : windhoverref01_Floor.f a 3 = some (fl a 3) := by
  unfold windhoverref01_Floor.f fl; simp; split <;> rfl
theorem rfloor4_f (a : Int) : windhoverref01_Floor.f a 4 = some (fl a 4) := by
  unfold windhoverref01_Floor.f fl; simp; split <;> rfl
def push (l x y s t : Int) : Int := wrap64 (wrap64 (l + wrap64 (s * x)) + wrap64 (t * y))
theorem push0 (l x y t : Int) : windhoverref16_Push.f l x y t 0 = some (push l x y 1 1) := by
  simp [windhoverref16_Push.f, push, rd]
theorem push1 (l x y t : Int) : windhoverref16_Push.f l x y t 1 = some (push l x y (-1) 1) := by
  simp [windhoverref16_Push.f, push, rd]
theorem push2 (l x y t : Int) : windhoverref16_Push.f l x y t 2 = some (push l x y (-1) (-1)) := by
  simp [windhoverref16_Push.f, push, rd]
theorem push3 (l x y t : Int) : windhoverref16_Push.f l x y t 3 = some (push l x y 1 (-1)) := by
  simp [windhoverref16_Push.f, push, rd]
def up (q t : Int) : Int := fl (wrap64 (t + cl q (wrap64 (-t)) t)) 2
def low (q t : Int) : Int := wrap64 (t - up q t)
theorem l1_n (k : Nat) (q c0 c1 c2 c3 c4 c5 c6 c7 t0 t1 t2 t3 : Int) : mixer_Mix.l1 (k + 5) (-1) q 0 c0 c1 c2 c3 c4 c5 c6 c7 t0 t1 t2 t3 = some (up q t0, low q t0, up q t1, low q t1, up q t2, low q t2, up q t3, low q t3, 0) := by
  simp [mixer_Mix.l1, clamp_f, floor2_f, up, low]
theorem l1_0 (k : Nat) (q c0 c1 c2 c3 c4 c5 c6 c7 t0 t1 t2 t3 : Int) : mixer_Mix.l1 (k + 5) 0 q 0 c0 c1 c2 c3 c4 c5 c6 c7 t0 t1 t2 t3 = some (c0, c1, up q t1, low q t1, up q t2, low q t2, up q t3, low q t3, 0) := by
  simp [mixer_Mix.l1, clamp_f, floor2_f, up, low]
theorem l1_1 (k : Nat) (q c0 c1 c2 c3 c4 c5 c6 c7 t0 t1 t2 t3 : Int) : mixer_Mix.l1 (k + 5) 1 q 0 c0 c1 c2 c3 c4 c5 c6 c7 t0 t1 t2 t3 = some (up q t0, low q t0, c2, c3, up q t2, low q t2, up q t3, low q t3, 0) := by
  simp [mixer_Mix.l1, clamp_f, floor2_f, up, low]
theorem l1_2 (k : Nat) (q c0 c1 c2 c3 c4 c5 c6 c7 t0 t1 t2 t3 : Int) : mixer_Mix.l1 (k + 5) 2 q 0 c0 c1 c2 c3 c4 c5 c6 c7 t0 t1 t2 t3 = some (up q t0, low q t0, up q t1, low q t1, c4, c5, up q t3, low q t3, 0) := by
  simp [mixer_Mix.l1, clamp_f, floor2_f, up, low]
theorem l1_3 (k : Nat) (q c0 c1 c2 c3 c4 c5 c6 c7 t0 t1 t2 t3 : Int) : mixer_Mix.l1 (k + 5) 3 q 0 c0 c1 c2 c3 c4 c5 c6 c7 t0 t1 t2 t3 = some (up q t0, low q t0, up q t1, low q t1, up q t2, low q t2, c6, c7, 0) := by
  simp [mixer_Mix.l1, clamp_f, floor2_f, up, low]
theorem w0 : wrap64 0 = 0 := by decide +kernel
theorem w5 : wrap64 5 = 5 := by decide +kernel
theorem w6 : wrap64 6 = 6 := by decide +kernel
theorem w7 : wrap64 7 = 7 := by decide +kernel
theorem w1 : wrap64 1 = 1 := by decide +kernel
theorem w2 : wrap64 2 = 2 := by decide +kernel
theorem w3 : wrap64 3 = 3 := by decide +kernel
theorem w4 : wrap64 4 = 4 := by decide +kernel
theorem r0_n (k : Nat) (q c0 c1 c2 c3 c4 c5 c6 c7 l x y t : Int) : windhoverref16_Mix.l0 (k + 5) (-1) q 0 c0 c1 c2 c3 c4 c5 c6 c7 l x y t = some (up q (push l x y 1 1), low q (push l x y 1 1), up q (push l x y (-1) 1), low q (push l x y (-1) 1), up q (push l x y (-1) (-1)), low q (push l x y (-1) (-1)), up q (push l x y 1 (-1)), low q (push l x y 1 (-1)), 0) := by
  simp [windhoverref16_Mix.l0, rclamp_f, rfloor2_f, up, low, push0, push1, push2, push3, w1, w2, w3, w4]
theorem r0_0 (k : Nat) (q c0 c1 c2 c3 c4 c5 c6 c7 l x y t : Int) : windhoverref16_Mix.l0 (k + 5) 0 q 0 c0 c1 c2 c3 c4 c5 c6 c7 l x y t = some (c0, c1, up q (push l x y (-1) 1), low q (push l x y (-1) 1), up q (push l x y (-1) (-1)), low q (push l x y (-1) (-1)), up q (push l x y 1 (-1)), low q (push l x y 1 (-1)), 0) := by
  simp [windhoverref16_Mix.l0, rclamp_f, rfloor2_f, up, low, push1, push2, push3, w1, w2, w3, w4]
theorem r0_1 (k : Nat) (q c0 c1 c2 c3 c4 c5 c6 c7 l x y t : Int) : windhoverref16_Mix.l0 (k + 5) 1 q 0 c0 c1 c2 c3 c4 c5 c6 c7 l x y t = some (up q (push l x y 1 1), low q (push l x y 1 1), c2, c3, up q (push l x y (-1) (-1)), low q (push l x y (-1) (-1)), up q (push l x y 1 (-1)), low q (push l x y 1 (-1)), 0) := by
  simp [windhoverref16_Mix.l0, rclamp_f, rfloor2_f, up, low, push0, push2, push3, w1, w2, w3, w4]
theorem r0_2 (k : Nat) (q c0 c1 c2 c3 c4 c5 c6 c7 l x y t : Int) : windhoverref16_Mix.l0 (k + 5) 2 q 0 c0 c1 c2 c3 c4 c5 c6 c7 l x y t = some (up q (push l x y 1 1), low q (push l x y 1 1), up q (push l x y (-1) 1), low q (push l x y (-1) 1), c4, c5, up q (push l x y 1 (-1)), low q (push l x y 1 (-1)), 0) := by
  simp [windhoverref16_Mix.l0, rclamp_f, rfloor2_f, up, low, push0, push1, push3, w1, w2, w3, w4]
theorem r0_3 (k : Nat) (q c0 c1 c2 c3 c4 c5 c6 c7 l x y t : Int) : windhoverref16_Mix.l0 (k + 5) 3 q 0 c0 c1 c2 c3 c4 c5 c6 c7 l x y t = some (up q (push l x y 1 1), low q (push l x y 1 1), up q (push l x y (-1) 1), low q (push l x y (-1) 1), up q (push l x y (-1) (-1)), low q (push l x y (-1) (-1)), c6, c7, 0) := by
  simp [windhoverref16_Mix.l0, rclamp_f, rfloor2_f, up, low, push0, push1, push2, w1, w2, w3, w4]
theorem limit_f (a b c d : Int) : mixer_Limit.f a b c d = some (cl a 328 456, cl b (-64) 64, cl c (-64) 64, cl d (-100) 100) := by
  simp [mixer_Limit.f, clamp_f]
theorem rlimit_f (a b c d : Int) : windhoverref16_Limit.f a b c d = some (cl a 328 456, cl b (-64) 64, cl c (-64) 64, cl d (-100) 100) := by
  simp [windhoverref16_Limit.f, rclamp_f]
theorem ww (a : Int) : wrap64 (wrap64 a) = wrap64 a := by unfold wrap64; omega
theorem wpush (l x y s t : Int) : wrap64 (push l x y s t) = push l x y s t := by unfold push; exact ww _
/-- What Mix says, whichever motor is dead. -/
def answer (a b c d e : Int) : Int × Int × Int × Int × Int × Int × Int × Int × Int :=
  let l := cl a 328 456; let x := cl b (-64) 64; let y := cl c (-64) 64; let t := cl d (-100) 100
  let p0 := push l x y 1 1; let p1 := push l x y (-1) 1; let p2 := push l x y (-1) (-1); let p3 := push l x y 1 (-1)
  if e < 0 ∨ e > 8 then (0, 0, 0, 0, 0, 0, 0, 0, 1) else
  if e = 0 then (up t p0, low t p0, up t p1, low t p1, up t p2, low t p2, up t p3, low t p3, 0) else
  if e = 1 then let q := fl (wrap64 (wrap64 (4 * t) - wrap64 (-p0))) 3; (0, p0, up q p1, low q p1, up q p2, low q p2, up q p3, low q p3, 0) else
  if e = 2 then let q := fl (wrap64 (wrap64 (4 * t) - p0)) 3; (p0, 0, up q p1, low q p1, up q p2, low q p2, up q p3, low q p3, 0) else
  if e = 3 then let q := fl (wrap64 (wrap64 (4 * t) - wrap64 (-p1))) 3; (up q p0, low q p0, 0, p1, up q p2, low q p2, up q p3, low q p3, 0) else
  if e = 4 then let q := fl (wrap64 (wrap64 (4 * t) - p1)) 3; (up q p0, low q p0, p1, 0, up q p2, low q p2, up q p3, low q p3, 0) else
  if e = 5 then let q := fl (wrap64 (wrap64 (4 * t) - wrap64 (-p2))) 3; (up q p0, low q p0, up q p1, low q p1, 0, p2, up q p3, low q p3, 0) else
  if e = 6 then let q := fl (wrap64 (wrap64 (4 * t) - p2)) 3; (up q p0, low q p0, up q p1, low q p1, p2, 0, up q p3, low q p3, 0) else
  if e = 7 then let q := fl (wrap64 (wrap64 (4 * t) - wrap64 (-p3))) 3; (up q p0, low q p0, up q p1, low q p1, up q p2, low q p2, 0, p3, 0) else
  let q := fl (wrap64 (wrap64 (4 * t) - p3)) 3; (up q p0, low q p0, up q p1, low q p1, up q p2, low q p2, p3, 0, 0)
theorem cases_of {e : Int} (h : ¬ (e < 0 ∨ e > 8)) : e = 0 ∨ e = 1 ∨ e = 2 ∨ e = 3 ∨ e = 4 ∨ e = 5 ∨ e = 6 ∨ e = 7 ∨ e = 8 := by omega
theorem mix_f (k : Nat) (a b c d e : Int) : mixer_Mix.f (k + 12) a b c d e = some (answer a b c d e) := by
  by_cases h : e < 0 ∨ e > 8
  · rcases h with h | h
    · simp [mixer_Mix.f, mixer_Mix.j0, h, answer]
    · have h0 : ¬ e < 0 := by omega
      simp [mixer_Mix.f, mixer_Mix.j0, h, h0, answer]
  · rcases cases_of h with rfl | rfl | rfl | rfl | rfl | rfl | rfl | rfl | rfl <;>
      simp [mixer_Mix.f, mixer_Mix.j0, limit_f, mixer_signs.f, mixer_Mix.l0, floor3_f, mixer_Mix.j2, l1_n, l1_0, l1_1, l1_2, l1_3, push, ww, answer]
theorem rmix_f (k : Nat) (a b c d e : Int) : windhoverref16_Mix.f (k + 12) a b c d e = some (answer a b c d e) := by
  by_cases h : e < 0 ∨ e > 8
  · rcases h with h | h
    · simp [windhoverref16_Mix.f, windhoverref16_Mix.j0, h, answer]
    · have h0 : ¬ e < 0 := by omega
      simp [windhoverref16_Mix.f, windhoverref16_Mix.j0, h, h0, answer]
  · rcases cases_of h with rfl | rfl | rfl | rfl | rfl | rfl | rfl | rfl | rfl <;>
      simp [windhoverref16_Mix.f, windhoverref16_Mix.j0, rlimit_f, rfloor3_f, windhoverref16_Mix.j1, r0_n, r0_0, r0_1, r0_2, r0_3, wpush, answer, push0, push1, push2, push3, w0, w1, w2, w3, w4, w5, w6, w7, show Int.tdiv 1 2 = 0 from rfl, show Int.tdiv 3 2 = 1 from rfl, show Int.tdiv 5 2 = 2 from rfl, show Int.tdiv 7 2 = 3 from rfl]

theorem cl_bd (x : Int) : 0 ≤ cl x 0 600 ∧ cl x 0 600 ≤ 600 := by unfold cl; split <;> (try split) <;> omega
theorem work_f (k : Nat) (a b c d e f g h : Int) : mixer_Work.f (k + 6) a b c d e f g h = some (fl (wrap64 (wrap64 (wrap64 (wrap64 (0 + wrap64 ((cl a 0 600) + (cl b 0 600))) + wrap64 ((cl c 0 600) + (cl d 0 600))) + wrap64 ((cl e 0 600) + (cl f 0 600))) + wrap64 ((cl g 0 600) + (cl h 0 600)))) 4, fl (wrap64 (wrap64 (wrap64 (wrap64 (0 + wrap64 (1 * (wrap64 ((cl a 0 600) + (cl b 0 600))))) + wrap64 ((-1) * (wrap64 ((cl c 0 600) + (cl d 0 600))))) + wrap64 ((-1) * (wrap64 ((cl e 0 600) + (cl f 0 600))))) + wrap64 (1 * (wrap64 ((cl g 0 600) + (cl h 0 600)))))) 4, fl (wrap64 (wrap64 (wrap64 (wrap64 (0 + wrap64 (1 * (wrap64 ((cl a 0 600) + (cl b 0 600))))) + wrap64 (1 * (wrap64 ((cl c 0 600) + (cl d 0 600))))) + wrap64 ((-1) * (wrap64 ((cl e 0 600) + (cl f 0 600))))) + wrap64 ((-1) * (wrap64 ((cl g 0 600) + (cl h 0 600)))))) 4, fl (wrap64 (wrap64 (wrap64 (wrap64 (0 + wrap64 ((cl a 0 600) - (cl b 0 600))) + wrap64 ((cl c 0 600) - (cl d 0 600))) + wrap64 ((cl e 0 600) - (cl f 0 600))) + wrap64 ((cl g 0 600) - (cl h 0 600)))) 4) := by
  simp [mixer_Work.f, mixer_Work.l0, mixer_signs.f, clamp_f, floor4_f]
theorem rwork_f (k : Nat) (a b c d e f g h : Int) : windhoverref16_Work.f (k + 6) a b c d e f g h = some (fl (wrap64 (wrap64 (wrap64 ((wrap64 ((cl a 0 600) + (cl b 0 600))) + wrap64 ((cl c 0 600) + (cl d 0 600))) + wrap64 ((cl e 0 600) + (cl f 0 600))) + wrap64 ((cl g 0 600) + (cl h 0 600)))) 4, fl (wrap64 (wrap64 (wrap64 ((wrap64 ((cl a 0 600) + (cl b 0 600))) - wrap64 ((cl c 0 600) + (cl d 0 600))) - wrap64 ((cl e 0 600) + (cl f 0 600))) + wrap64 ((cl g 0 600) + (cl h 0 600)))) 4, fl (wrap64 (wrap64 (wrap64 ((wrap64 ((cl a 0 600) + (cl b 0 600))) + wrap64 ((cl c 0 600) + (cl d 0 600))) - wrap64 ((cl e 0 600) + (cl f 0 600))) - wrap64 ((cl g 0 600) + (cl h 0 600)))) 4, fl (wrap64 (wrap64 (wrap64 ((wrap64 ((cl a 0 600) - (cl b 0 600))) + wrap64 ((cl c 0 600) - (cl d 0 600))) + wrap64 ((cl e 0 600) - (cl f 0 600))) + wrap64 ((cl g 0 600) - (cl h 0 600)))) 4) := by
  simp [windhoverref16_Work.f, windhoverref16_Work.l0, rclamp_f, rfloor4_f]
theorem work_eq (k : Nat) (a b c d e f g h : Int) : ∃ r, mixer_Work.f (k + 6) a b c d e f g h = some r ∧ windhoverref16_Work.f (k + 6) a b c d e f g h = some r := by
  have ha := cl_bd a; have hb := cl_bd b; have hc := cl_bd c; have hd := cl_bd d
  have he := cl_bd e; have hf := cl_bd f; have hg := cl_bd g; have hh := cl_bd h
  rw [work_f, rwork_f]
  generalize cl a 0 600 = a at *; generalize cl b 0 600 = b at *; generalize cl c 0 600 = c at *; generalize cl d 0 600 = d at *
  generalize cl e 0 600 = e at *; generalize cl f 0 600 = f at *; generalize cl g 0 600 = g at *; generalize cl h 0 600 = h at *
  refine ⟨_, rfl, ?_⟩
  congr 1
  refine Prod.ext ?_ (Prod.ext ?_ (Prod.ext ?_ ?_)) <;> dsimp only <;> refine congrArg (fun z => fl z 4) ?_ <;> unfold wrap64 <;> omega
theorem awake_f : windhoverlaw16_awake.f 30 = some true := by
  decide +kernel
theorem MixerMixes : windhoverlaw16_MixerMixes.Pure := by
  intro a b c d e f g h i j k l m _ _ _ _ _ _ _ _ _ _ _ _ _
  obtain ⟨r, hr1, hr2⟩ := work_eq 24 f g h i j k l m
  refine ⟨30, ?_⟩
  have h1 := mix_f 18 a b c d e
  have h2 := rmix_f 18 a b c d e
  simp only [windhoverlaw16_MixerMixes.f, h1, h2, hr1, hr2, limit_f, rlimit_f, awake_f, Option.bind_some]
  simp
end Go.Proofs.Ytoafgpkjgfdclaa.Pure
