/- The law MixerJolts: a motor that dies unseen takes no more than Kick from each axis: for every wrench and motor. -/
import Derived.Test.YtoafgpkjgfdclaaPMixerJoltsx6
namespace Go.Proofs.Ytoafgpkjgfdclaa.Pure
open Go.RowKit Go.Proofs.Ytoafgpkjgfdclaa.PMixerJolts Go.Proofs.YtoafgpkjgfdclaaW.PrintWords Go.Proofs.YtoafgpkjgfdclaaW.PrintLast
set_option linter.unusedSimpArgs false
def cl (x lo hi : Int) : Int := if x < lo then lo else if x > hi then hi else x
def fl (a b : Int) : Int := if Int.tmod a b < 0 then wrap64 (wrap64 (Int.tdiv a b) - 1) else wrap64 (Int.tdiv a b)
theorem clamp_f (x lo hi : Int) : fix_Clamp.f x lo hi = some (cl x lo hi) := by
  unfold fix_Clamp.f cl; split <;> (try split) <;> rfl
theorem floor2_f (a : Int) : mixer_floor.f a 2 = some (fl a 2) := by
  unfold mixer_floor.f fix_Down.f fl; simp; split <;> rfl
theorem floor3_f (a : Int) : mixer_floor.f a 3 = some (fl a 3) := by
  unfold mixer_floor.f fix_Down.f fl; simp; split <;> rfl
theorem floor4_f (a : Int) : mixer_floor.f a 4 = some (fl a 4) := by
  unfold mixer_floor.f fix_Down.f fl; simp; split <;> rfl
def push (l x y s t : Int) : Int := wrap64 (wrap64 (l + wrap64 (s * x)) + wrap64 (t * y))
def up (q t : Int) : Int := fl (wrap64 (t + cl q (wrap64 (-t)) t)) 2
def low (q t : Int) : Int := wrap64 (t - up q t)
theorem l1_n (k : Nat) (q c0 c1 c2 c3 c4 c5 c6 c7 t0 t1 t2 t3 : Int) : mixer_Mix.l1 (k + 5) (-1) q 0 c0 c1 c2 c3 c4 c5 c6 c7 t0 t1 t2 t3 = some (up q t0, low q t0, up q t1, low q t1, up q t2, low q t2, up q t3, low q t3, 0) := by
  simp [mixer_Mix.l1, clamp_f, floor2_f, up, low]
theorem l1_0 (k : Nat) (q c0 c1 c2 c3 c4 c5 c6 c7 t0 t1 t2 t3 : Int) : mixer_Mix.l1 (k + 5) 0 q 0 c0 c1 c2 c3 c4 c5 c6 c7 t0 t1 t2 t3 = some (c0, c1, up q t1, low q t1, up q t2, low q t2, up q t3, low q t3, 0) := by
  simp [mixer_Mix.l1, clamp_f, floor2_f, up, low]
theorem l1_1 (k : Nat) (q c0 c1 c2 c3 c4 c5 c6 c7 t0 t1 t2 t3 : Int) : mixer_Mix.l1 (k + 5) 1 q 0 c0 c1 c2 c3 c4 c5 c6 c7 t0 t1 t2 t3 = some (up q t0, low q t0, c2, c3, up q t2, low q t2, up q t3, low q t3, 0) := by
  simp [mixer_Mix.l1, clamp_f, floor2_f, up, low]
theorem l1_2 (k : Nat) (q c0 c1 c2 c3 c4 c5 c6 c7 t0 t1 t2 t3 : Int) : mixer_Mix.l1 (k + 5) 2 q 0 c0 c1 c2 c3 c4 c5 c6 c7 t0 t1 t2 t3 = some (up q t0, low q t0, up q t1, low q t1, c4, c5, up q t3, low q t3, 0) := by
  simp [mixer_Mix.l1, clamp_f, floor2_f, up, low]
theorem l1_3 (k : Nat) (q c0 c1 c2 c3 c4 c5 c6 c7 t0 t1 t2 t3 : Int) : mixer_Mix.l1 (k + 5) 3 q 0 c0 c1 c2 c3 c4 c5 c6 c7 t0 t1 t2 t3 = some (up q t0, low q t0, up q t1, low q t1, up q t2, low q t2, c6, c7, 0) := by
  simp [mixer_Mix.l1, clamp_f, floor2_f, up, low]
theorem w0 : wrap64 0 = 0 := by decide +kernel
theorem w5 : wrap64 5 = 5 := by decide +kernel
theorem w6 : wrap64 6 = 6 := by decide +kernel
theorem w7 : wrap64 7 = 7 := by decide +kernel
theorem w1 : wrap64 1 = 1 := by decide +kernel
theorem w2 : wrap64 2 = 2 := by decide +kernel
theorem w3 : wrap64 3 = 3 := by decide +kernel
theorem w4 : wrap64 4 = 4 := by decide +kernel
theorem limit_f (a b c d : Int) : mixer_Limit.f a b c d = some (cl a 328 456, cl b (-64) 64, cl c (-64) 64, cl d (-100) 100) := by
  simp [mixer_Limit.f, clamp_f]
theorem ww (a : Int) : wrap64 (wrap64 a) = wrap64 a := by unfold wrap64; omega
theorem wpush (l x y s t : Int) : wrap64 (push l x y s t) = push l x y s t := by unfold push; exact ww _
/-- What Mix says, whichever motor is dead. -/
def answer (a b c d e : Int) : Int × Int × Int × Int × Int × Int × Int × Int × Int :=
  let l := cl a 328 456; let x := cl b (-64) 64; let y := cl c (-64) 64; let t := cl d (-100) 100
  let p0 := push l x y 1 1; let p1 := push l x y (-1) 1; let p2 := push l x y (-1) (-1); let p3 := push l x y 1 (-1)
  if e < 0 ∨ e > 8 then (0, 0, 0, 0, 0, 0, 0, 0, 1) else
  if e = 0 then (up t p0, low t p0, up t p1, low t p1, up t p2, low t p2, up t p3, low t p3, 0) else
  if e = 1 then let q := fl (wrap64 (wrap64 (4 * t) - wrap64 (-p0))) 3; (0, p0, up q p1, low q p1, up q p2, low q p2, up q p3, low q p3, 0) else
  if e = 2 then let q := fl (wrap64 (wrap64 (4 * t) - p0)) 3; (p0, 0, up q p1, low q p1, up q p2, low q p2, up q p3, low q p3, 0) else
  if e = 3 then let q := fl (wrap64 (wrap64 (4 * t) - wrap64 (-p1))) 3; (up q p0, low q p0, 0, p1, up q p2, low q p2, up q p3, low q p3, 0) else
  if e = 4 then let q := fl (wrap64 (wrap64 (4 * t) - p1)) 3; (up q p0, low q p0, p1, 0, up q p2, low q p2, up q p3, low q p3, 0) else
  if e = 5 then let q := fl (wrap64 (wrap64 (4 * t) - wrap64 (-p2))) 3; (up q p0, low q p0, up q p1, low q p1, 0, p2, up q p3, low q p3, 0) else
  if e = 6 then let q := fl (wrap64 (wrap64 (4 * t) - p2)) 3; (up q p0, low q p0, up q p1, low q p1, p2, 0, up q p3, low q p3, 0) else
  if e = 7 then let q := fl (wrap64 (wrap64 (4 * t) - wrap64 (-p3))) 3; (up q p0, low q p0, up q p1, low q p1, up q p2, low q p2, 0, p3, 0) else
  let q := fl (wrap64 (wrap64 (4 * t) - p3)) 3; (up q p0, low q p0, up q p1, low q p1, up q p2, low q p2, p3, 0, 0)
theorem cases_of {e : Int} (h : ¬ (e < 0 ∨ e > 8)) : e = 0 ∨ e = 1 ∨ e = 2 ∨ e = 3 ∨ e = 4 ∨ e = 5 ∨ e = 6 ∨ e = 7 ∨ e = 8 := by omega
theorem mix_f (k : Nat) (a b c d e : Int) : mixer_Mix.f (k + 12) a b c d e = some (answer a b c d e) := by
  by_cases h : e < 0 ∨ e > 8
  · rcases h with h | h
    · simp [mixer_Mix.f, mixer_Mix.j0, h, answer]
    · have h0 : ¬ e < 0 := by omega
      simp [mixer_Mix.f, mixer_Mix.j0, h, h0, answer]
  · rcases cases_of h with rfl | rfl | rfl | rfl | rfl | rfl | rfl | rfl | rfl <;>
      simp [mixer_Mix.f, mixer_Mix.j0, limit_f, mixer_signs.f, mixer_Mix.l0, floor3_f, mixer_Mix.j2, l1_n, l1_0, l1_1, l1_2, l1_3, push, ww, answer]
theorem work_f (k : Nat) (a b c d e f g h : Int) : mixer_Work.f (k + 6) a b c d e f g h = some (fl (wrap64 (wrap64 (wrap64 (wrap64 (0 + wrap64 ((cl a 0 600) + (cl b 0 600))) + wrap64 ((cl c 0 600) + (cl d 0 600))) + wrap64 ((cl e 0 600) + (cl f 0 600))) + wrap64 ((cl g 0 600) + (cl h 0 600)))) 4, fl (wrap64 (wrap64 (wrap64 (wrap64 (0 + wrap64 (1 * (wrap64 ((cl a 0 600) + (cl b 0 600))))) + wrap64 ((-1) * (wrap64 ((cl c 0 600) + (cl d 0 600))))) + wrap64 ((-1) * (wrap64 ((cl e 0 600) + (cl f 0 600))))) + wrap64 (1 * (wrap64 ((cl g 0 600) + (cl h 0 600)))))) 4, fl (wrap64 (wrap64 (wrap64 (wrap64 (0 + wrap64 (1 * (wrap64 ((cl a 0 600) + (cl b 0 600))))) + wrap64 (1 * (wrap64 ((cl c 0 600) + (cl d 0 600))))) + wrap64 ((-1) * (wrap64 ((cl e 0 600) + (cl f 0 600))))) + wrap64 ((-1) * (wrap64 ((cl g 0 600) + (cl h 0 600)))))) 4, fl (wrap64 (wrap64 (wrap64 (wrap64 (0 + wrap64 ((cl a 0 600) - (cl b 0 600))) + wrap64 ((cl c 0 600) - (cl d 0 600))) + wrap64 ((cl e 0 600) - (cl f 0 600))) + wrap64 ((cl g 0 600) - (cl h 0 600)))) 4) := by
  simp [mixer_Work.f, mixer_Work.l0, mixer_signs.f, clamp_f, floor4_f]

theorem awake_f : windhoverlaw16_awake.f 30 = some true := by
  decide +kernel
theorem wsm {a : Int} (h1 : -4611686018427387904 ≤ a) (h2 : a ≤ 4611686018427387904) : wrap64 a = a := by unfold wrap64; omega
theorem cl_in (x : Int) {lo hi : Int} (h : lo ≤ hi) : lo ≤ cl x lo hi ∧ cl x lo hi ≤ hi := by unfold cl; split <;> (try split) <;> omega
theorem cl_id {x lo hi : Int} (h : lo ≤ x) (h2 : x ≤ hi) : cl x lo hi = x := by unfold cl; rw [if_neg (by omega), if_neg (by omega)]
theorem fl2 {a : Int} (h : 0 ≤ a) (h2 : a ≤ 4611686018427387904) : fl a 2 = a / 2 := by
  unfold fl
  rw [Int.tmod_eq_emod_of_nonneg h, Int.tdiv_eq_ediv_of_nonneg h, if_neg (by omega), wsm (by omega) (by omega)]
theorem fl4 {a x : Int} (h : a = 4 * x) (h1 : -1000000 ≤ x) (h2 : x ≤ 1000000) : fl a 4 = x := by
  subst h
  unfold fl
  rw [Int.mul_tdiv_cancel_left _ (by decide), Int.mul_tmod_right, if_neg (by omega), wsm (by omega) (by omega)]
theorem up_is {q p : Int} (h1 : 0 ≤ p) (h2 : p ≤ 1000) : up q p = (p + cl q (-p) p) / 2 ∧ low q p = p - (p + cl q (-p) p) / 2 := by
  have hc := cl_in q (lo := -p) (hi := p) (by omega)
  have e : up q p = (p + cl q (-p) p) / 2 := by
    unfold up
    rw [wsm (a := -p) (by omega) (by omega), wsm (by omega) (by omega), fl2 (by omega) (by omega)]
  refine ⟨e, ?_⟩
  unfold low
  rw [e, wsm (by omega) (by omega)]
/-- An arm's two motors. -/
theorem arm {q p : Int} (h1 : 0 ≤ p) (h2 : p ≤ 1000) : 0 ≤ up q p ∧ 0 ≤ low q p ∧ up q p + low q p = p := by
  have hc := cl_in q (lo := -p) (hi := p) (by omega)
  obtain ⟨e1, e2⟩ := up_is (q := q) h1 h2
  rw [e1, e2]; omega
theorem push_is {l x y : Int} (hl : 328 ≤ l ∧ l ≤ 456) (hx : -64 ≤ x ∧ x ≤ 64) (hy : -64 ≤ y ∧ y ≤ 64) :
    push l x y 1 1 = l + x + y ∧ push l x y (-1) 1 = l - x + y ∧ push l x y (-1) (-1) = l - x - y ∧ push l x y 1 (-1) = l + x - y := by
  unfold push wrap64; omega
/-- What is left of the law's tests: its motors within their bounds, the dead one's at rest, their sum, and what they do. -/
theorem work_is (k : Nat) {a b c d e f g h p0 p1 p2 p3 l x y : Int} (ha : 0 ≤ a) (hb : 0 ≤ b) (hc : 0 ≤ c) (hd : 0 ≤ d) (he : 0 ≤ e) (hf : 0 ≤ f) (hg : 0 ≤ g) (hh : 0 ≤ h)
    (s0 : a + b = p0) (s1 : c + d = p1) (s2 : e + f = p2) (s3 : g + h = p3) (q0 : p0 = l + x + y) (q1 : p1 = l - x + y) (q2 : p2 = l - x - y) (q3 : p3 = l + x - y) (hl : 328 ≤ l ∧ l ≤ 456) (hx : -64 ≤ x ∧ x ≤ 64) (hy : -64 ≤ y ∧ y ≤ 64) :
    mixer_Work.f (k + 6) a b c d e f g h = some (l, x, y, fl (a - b + (c - d) + (e - f) + (g - h)) 4) := by
  rw [work_f, cl_id (x := a) (by omega) (by omega), cl_id (x := b) (by omega) (by omega), cl_id (x := c) (by omega) (by omega), cl_id (x := d) (by omega) (by omega), cl_id (x := e) (by omega) (by omega), cl_id (x := f) (by omega) (by omega), cl_id (x := g) (by omega) (by omega), cl_id (x := h) (by omega) (by omega)]
  have pa : ∀ m : Int, (-1) * m = -m := fun m => by omega
  simp (disch := omega) only [wsm, Int.one_mul, pa, Int.zero_add]
  congr 1
  refine Prod.ext ?_ (Prod.ext ?_ (Prod.ext ?_ ?_)) <;> dsimp only
  · exact fl4 (by omega) (by omega) (by omega)
  · exact fl4 (by omega) (by omega) (by omega)
  · exact fl4 (by omega) (by omega) (by omega)
theorem awake_k (n : Nat) : windhoverlaw16_awake.f (n + 30) = some true := by
  induction n with
  | zero => exact awake_f
  | succ n ih => rw [show n + 1 + 30 = n + 30 + 1 from by omega]; exact windhoverlaw16_awake.mono _ _ ih
theorem bnd {a b c d : Int} : (328 ≤ cl a 328 456 ∧ cl a 328 456 ≤ 456) ∧ (-64 ≤ cl b (-64) 64 ∧ cl b (-64) 64 ≤ 64) ∧ (-64 ≤ cl c (-64) 64 ∧ cl c (-64) 64 ≤ 64) ∧ (-100 ≤ cl d (-100) 100 ∧ cl d (-100) 100 ≤ 100) :=
  ⟨cl_in _ (by decide), cl_in _ (by decide), cl_in _ (by decide), cl_in _ (by decide)⟩
theorem flq {a : Int} (h1 : -1000000 ≤ a) (h2 : a ≤ 1000000) : 4 * fl a 4 ≤ a ∧ a < 4 * fl a 4 + 4 := by
  unfold fl
  by_cases h : 0 ≤ a
  · rw [Int.tmod_eq_emod_of_nonneg h, Int.tdiv_eq_ediv_of_nonneg h, if_neg (by omega), wsm (by omega) (by omega)]
    omega
  · obtain ⟨n, rfl⟩ : ∃ n, a = -n := ⟨-a, by omega⟩
    have hn : 0 ≤ n := by omega
    rw [Int.neg_tmod, Int.neg_tdiv, Int.tmod_eq_emod_of_nonneg hn, Int.tdiv_eq_ediv_of_nonneg hn, wsm (a := -(n / 4)) (by omega) (by omega)]
    by_cases q : -(n % 4) < 0
    · rw [if_pos q, wsm (by omega) (by omega)]; omega
    · rw [if_neg q]; omega
theorem work_gen (k : Nat) {a b c d e f g h : Int} (ha : 0 ≤ a ∧ a ≤ 600) (hb : 0 ≤ b ∧ b ≤ 600) (hc : 0 ≤ c ∧ c ≤ 600) (hd : 0 ≤ d ∧ d ≤ 600) (he : 0 ≤ e ∧ e ≤ 600) (hf : 0 ≤ f ∧ f ≤ 600) (hg : 0 ≤ g ∧ g ≤ 600) (hh : 0 ≤ h ∧ h ≤ 600) :
    ∃ L X Y T, mixer_Work.f (k + 6) a b c d e f g h = some (L, X, Y, T) ∧ (4 * L ≤ a + b + c + d + e + f + g + h ∧ a + b + c + d + e + f + g + h < 4 * L + 4) ∧ (4 * X ≤ a + b - c - d - e - f + g + h ∧ a + b - c - d - e - f + g + h < 4 * X + 4) ∧ (4 * Y ≤ a + b + c + d - e - f - g - h ∧ a + b + c + d - e - f - g - h < 4 * Y + 4) := by
  rw [work_f, cl_id ha.1 ha.2, cl_id hb.1 hb.2, cl_id hc.1 hc.2, cl_id hd.1 hd.2, cl_id he.1 he.2, cl_id hf.1 hf.2, cl_id hg.1 hg.2, cl_id hh.1 hh.2]
  have pa : ∀ m : Int, (-1) * m = -m := fun m => by omega
  simp (disch := omega) only [wsm, Int.one_mul, pa, Int.zero_add]
  refine ⟨_, _, _, _, rfl, ?_, ?_, ?_⟩
  · have := flq (a := a + b + (c + d) + (e + f) + (g + h)) (by omega) (by omega); omega
  · have := flq (a := a + b + -(c + d) + -(e + f) + (g + h)) (by omega) (by omega); omega
  · have := flq (a := a + b + (c + d) + -(e + f) + -(g + h)) (by omega) (by omega); omega
set_option maxHeartbeats 4000000 in
theorem kicks {dies m0 m1 m2 m3 m4 m5 m6 m7 : Int} (h0 : 0 ≤ m0 ∧ m0 ≤ 342) (h1 : 0 ≤ m1 ∧ m1 ≤ 342) (h2 : 0 ≤ m2 ∧ m2 ≤ 342) (h3 : 0 ≤ m3 ∧ m3 ≤ 342) (h4 : 0 ≤ m4 ∧ m4 ≤ 342) (h5 : 0 ≤ m5 ∧ m5 ≤ 342) (h6 : 0 ≤ m6 ∧ m6 ≤ 342) (h7 : 0 ≤ m7 ∧ m7 ≤ 342)
    (hs : ∃ l, m0 + m1 + m2 + m3 + m4 + m5 + m6 + m7 = 4 * l) (hx : ∃ x, m0 + m1 - m2 - m3 - m4 - m5 + m6 + m7 = 4 * x) (hy : ∃ y, m0 + m1 + m2 + m3 - m4 - m5 - m6 - m7 = 4 * y) (hd : 1 ≤ dies ∧ dies ≤ 8) :
    windhoverlaw16_MixerJolts.j0 40 dies 0 false m0 m1 m2 m3 m4 m5 m6 m7 = some true := by
  obtain ⟨L, X, Y, T, hw, g1, g2, g3⟩ := work_gen 33 (a := m0) (b := m1) (c := m2) (d := m3) (e := m4) (f := m5) (g := m6) (h := m7) (by omega) (by omega) (by omega) (by omega) (by omega) (by omega) (by omega) (by omega)
  obtain ⟨l, hs⟩ := hs; obtain ⟨x, hx⟩ := hx; obtain ⟨y, hy⟩ := hy
  obtain rfl : L = l := by omega
  obtain rfl : X = x := by omega
  obtain rfl : Y = y := by omega
  rw [show (40 : Nat) = 39 + 1 from rfl, windhoverlaw16_MixerJolts.j0, if_neg (by decide), show mixer_Work.f 39 m0 m1 m2 m3 m4 m5 m6 m7 = _ from hw, Option.bind_some]
  dsimp only
  have hc : dies = 1 ∨ dies = 2 ∨ dies = 3 ∨ dies = 4 ∨ dies = 5 ∨ dies = 6 ∨ dies = 7 ∨ dies = 8 := by omega
  clear hd hw g1 g2 g3
  rcases hc with rfl | rfl | rfl | rfl | rfl | rfl | rfl | rfl
  · obtain ⟨L', X', Y', T', hw', k1, k2, k3⟩ := work_gen 33 (a := 0) (b := m1) (c := m2) (d := m3) (e := m4) (f := m5) (g := m6) (h := m7) (by omega) (by omega) (by omega) (by omega) (by omega) (by omega) (by omega) (by omega)
    rw [show mixer_Work.f 39 0 m1 m2 m3 m4 m5 m6 m7 = _ from hw']
    have w1 : wrap64 (L - L') = L - L' := wsm (by omega) (by omega)
    have w2 : wrap64 (X - X') = X - X' := wsm (by omega) (by omega)
    have w3 : wrap64 (Y - Y') = Y - Y' := wsm (by omega) (by omega)
    have n1 : 0 ≤ L - L' ∧ L - L' ≤ 86 := by omega
    have n2 : -86 ≤ X - X' ∧ X - X' ≤ 86 := by omega
    have n3 : -86 ≤ Y - Y' ∧ Y - Y' ≤ 86 := by omega
    simp only [w1, w2, w3, Option.bind_some]
    simp [n1, n2, n3, awake_k 9]
    omega
  · obtain ⟨L', X', Y', T', hw', k1, k2, k3⟩ := work_gen 33 (a := m0) (b := 0) (c := m2) (d := m3) (e := m4) (f := m5) (g := m6) (h := m7) (by omega) (by omega) (by omega) (by omega) (by omega) (by omega) (by omega) (by omega)
    rw [show mixer_Work.f 39 m0 0 m2 m3 m4 m5 m6 m7 = _ from hw']
    have w1 : wrap64 (L - L') = L - L' := wsm (by omega) (by omega)
    have w2 : wrap64 (X - X') = X - X' := wsm (by omega) (by omega)
    have w3 : wrap64 (Y - Y') = Y - Y' := wsm (by omega) (by omega)
    have n1 : 0 ≤ L - L' ∧ L - L' ≤ 86 := by omega
    have n2 : -86 ≤ X - X' ∧ X - X' ≤ 86 := by omega
    have n3 : -86 ≤ Y - Y' ∧ Y - Y' ≤ 86 := by omega
    simp only [w1, w2, w3, Option.bind_some]
    simp [n1, n2, n3, awake_k 9]
    omega
  · obtain ⟨L', X', Y', T', hw', k1, k2, k3⟩ := work_gen 33 (a := m0) (b := m1) (c := 0) (d := m3) (e := m4) (f := m5) (g := m6) (h := m7) (by omega) (by omega) (by omega) (by omega) (by omega) (by omega) (by omega) (by omega)
    rw [show mixer_Work.f 39 m0 m1 0 m3 m4 m5 m6 m7 = _ from hw']
    have w1 : wrap64 (L - L') = L - L' := wsm (by omega) (by omega)
    have w2 : wrap64 (X - X') = X - X' := wsm (by omega) (by omega)
    have w3 : wrap64 (Y - Y') = Y - Y' := wsm (by omega) (by omega)
    have n1 : 0 ≤ L - L' ∧ L - L' ≤ 86 := by omega
    have n2 : -86 ≤ X - X' ∧ X - X' ≤ 86 := by omega
    have n3 : -86 ≤ Y - Y' ∧ Y - Y' ≤ 86 := by omega
    simp only [w1, w2, w3, Option.bind_some]
    simp [n1, n2, n3, awake_k 9]
    omega
  · obtain ⟨L', X', Y', T', hw', k1, k2, k3⟩ := work_gen 33 (a := m0) (b := m1) (c := m2) (d := 0) (e := m4) (f := m5) (g := m6) (h := m7) (by omega) (by omega) (by omega) (by omega) (by omega) (by omega) (by omega) (by omega)
    rw [show mixer_Work.f 39 m0 m1 m2 0 m4 m5 m6 m7 = _ from hw']
    have w1 : wrap64 (L - L') = L - L' := wsm (by omega) (by omega)
    have w2 : wrap64 (X - X') = X - X' := wsm (by omega) (by omega)
    have w3 : wrap64 (Y - Y') = Y - Y' := wsm (by omega) (by omega)
    have n1 : 0 ≤ L - L' ∧ L - L' ≤ 86 := by omega
    have n2 : -86 ≤ X - X' ∧ X - X' ≤ 86 := by omega
    have n3 : -86 ≤ Y - Y' ∧ Y - Y' ≤ 86 := by omega
    simp only [w1, w2, w3, Option.bind_some]
    simp [n1, n2, n3, awake_k 9]
    omega
  · obtain ⟨L', X', Y', T', hw', k1, k2, k3⟩ := work_gen 33 (a := m0) (b := m1) (c := m2) (d := m3) (e := 0) (f := m5) (g := m6) (h := m7) (by omega) (by omega) (by omega) (by omega) (by omega) (by omega) (by omega) (by omega)
    rw [show mixer_Work.f 39 m0 m1 m2 m3 0 m5 m6 m7 = _ from hw']
    have w1 : wrap64 (L - L') = L - L' := wsm (by omega) (by omega)
    have w2 : wrap64 (X - X') = X - X' := wsm (by omega) (by omega)
    have w3 : wrap64 (Y - Y') = Y - Y' := wsm (by omega) (by omega)
    have n1 : 0 ≤ L - L' ∧ L - L' ≤ 86 := by omega
    have n2 : -86 ≤ X - X' ∧ X - X' ≤ 86 := by omega
    have n3 : -86 ≤ Y - Y' ∧ Y - Y' ≤ 86 := by omega
    simp only [w1, w2, w3, Option.bind_some]
    simp [n1, n2, n3, awake_k 9]
    omega
  · obtain ⟨L', X', Y', T', hw', k1, k2, k3⟩ := work_gen 33 (a := m0) (b := m1) (c := m2) (d := m3) (e := m4) (f := 0) (g := m6) (h := m7) (by omega) (by omega) (by omega) (by omega) (by omega) (by omega) (by omega) (by omega)
    rw [show mixer_Work.f 39 m0 m1 m2 m3 m4 0 m6 m7 = _ from hw']
    have w1 : wrap64 (L - L') = L - L' := wsm (by omega) (by omega)
    have w2 : wrap64 (X - X') = X - X' := wsm (by omega) (by omega)
    have w3 : wrap64 (Y - Y') = Y - Y' := wsm (by omega) (by omega)
    have n1 : 0 ≤ L - L' ∧ L - L' ≤ 86 := by omega
    have n2 : -86 ≤ X - X' ∧ X - X' ≤ 86 := by omega
    have n3 : -86 ≤ Y - Y' ∧ Y - Y' ≤ 86 := by omega
    simp only [w1, w2, w3, Option.bind_some]
    simp [n1, n2, n3, awake_k 9]
    omega
  · obtain ⟨L', X', Y', T', hw', k1, k2, k3⟩ := work_gen 33 (a := m0) (b := m1) (c := m2) (d := m3) (e := m4) (f := m5) (g := 0) (h := m7) (by omega) (by omega) (by omega) (by omega) (by omega) (by omega) (by omega) (by omega)
    rw [show mixer_Work.f 39 m0 m1 m2 m3 m4 m5 0 m7 = _ from hw']
    have w1 : wrap64 (L - L') = L - L' := wsm (by omega) (by omega)
    have w2 : wrap64 (X - X') = X - X' := wsm (by omega) (by omega)
    have w3 : wrap64 (Y - Y') = Y - Y' := wsm (by omega) (by omega)
    have n1 : 0 ≤ L - L' ∧ L - L' ≤ 86 := by omega
    have n2 : -86 ≤ X - X' ∧ X - X' ≤ 86 := by omega
    have n3 : -86 ≤ Y - Y' ∧ Y - Y' ≤ 86 := by omega
    simp only [w1, w2, w3, Option.bind_some]
    simp [n1, n2, n3, awake_k 9]
    omega
  · obtain ⟨L', X', Y', T', hw', k1, k2, k3⟩ := work_gen 33 (a := m0) (b := m1) (c := m2) (d := m3) (e := m4) (f := m5) (g := m6) (h := 0) (by omega) (by omega) (by omega) (by omega) (by omega) (by omega) (by omega) (by omega)
    rw [show mixer_Work.f 39 m0 m1 m2 m3 m4 m5 m6 0 = _ from hw']
    have w1 : wrap64 (L - L') = L - L' := wsm (by omega) (by omega)
    have w2 : wrap64 (X - X') = X - X' := wsm (by omega) (by omega)
    have w3 : wrap64 (Y - Y') = Y - Y' := wsm (by omega) (by omega)
    have n1 : 0 ≤ L - L' ∧ L - L' ≤ 86 := by omega
    have n2 : -86 ≤ X - X' ∧ X - X' ≤ 86 := by omega
    have n3 : -86 ≤ Y - Y' ∧ Y - Y' ≤ 86 := by omega
    simp only [w1, w2, w3, Option.bind_some]
    simp [n1, n2, n3, awake_k 9]
    omega
set_option maxHeartbeats 4000000 in
theorem MixerJolts : windhoverlaw16_MixerJolts.Pure := by
  intro a b c d e _ _ _ _ _
  refine ⟨40, ?_⟩
  have hm : mixer_Mix.f 40 a b c d 0 = _ := mix_f 28 a b c d 0
  obtain ⟨hl, hx, hy, ht⟩ := bnd (a := a) (b := b) (c := c) (d := d)
  unfold answer at hm
  generalize cl a 328 456 = l at hl hm
  generalize cl b (-64) 64 = x at hx hm
  generalize cl c (-64) 64 = y at hy hm
  generalize cl d (-100) 100 = t at ht hm
  obtain ⟨g0, g1, g2, g3⟩ := push_is hl hx hy
  dsimp only at hm
  rw [g0, g1, g2, g3, if_neg (by decide), if_pos rfl] at hm
  obtain ⟨u0, v0⟩ := up_is (q := t) (p := l + x + y) (by omega) (by omega)
  obtain ⟨u1, v1⟩ := up_is (q := t) (p := l - x + y) (by omega) (by omega)
  obtain ⟨u2, v2⟩ := up_is (q := t) (p := l - x - y) (by omega) (by omega)
  obtain ⟨u3, v3⟩ := up_is (q := t) (p := l + x - y) (by omega) (by omega)
  rw [cl_id (by omega) (by omega)] at u0 v0 u1 v1 u2 v2 u3 v3
  unfold windhoverlaw16_MixerJolts.f
  rw [hm, Option.bind_some]
  dsimp only
  rw [if_pos rfl]
  by_cases h : e < 1
  · rw [if_pos h, show (40 : Nat) = 39 + 1 from rfl, windhoverlaw16_MixerJolts.j0]
    simp [awake_k 9]
  · rw [if_neg h]
    by_cases h8 : e > 8
    · rw [show decide (e > 8) = true from by simpa using h8, show (40 : Nat) = 39 + 1 from rfl, windhoverlaw16_MixerJolts.j0]
      simp [awake_k 9]
    · rw [show decide (e > 8) = false from by simp; omega]
      exact kicks (by omega) (by omega) (by omega) (by omega) (by omega) (by omega) (by omega) (by omega) ⟨l, by omega⟩ ⟨x, by omega⟩ ⟨y, by omega⟩ (by omega)
end Go.Proofs.Ytoafgpkjgfdclaa.Pure
