/- The plain law of WorldObeys. -/
import Derived.Test.YtbgggogkblkopaaPWorldObeysx8
namespace Go.Proofs.Ytbgggogkblkopaa.Pure
open Go.RowKit Go.Proofs.Ytbgggogkblkopaa.PWorldObeys Go.Proofs.YtbgggogkblkopaaW.PrintWords Go.Proofs.YtbgggogkblkopaaW.PrintLast

set_option linter.unusedVariables false
set_option linter.unusedSimpArgs false
theorem Ev.now {α : Type} (r : α) : Ev (fun _ => some r) r := ⟨0, fun _ _ => rfl⟩

theorem wsm {a : Int} (h1 : -9223372036854775808 ≤ a) (h2 : a ≤ 9223372036854775807) : wrap64 a = a := by unfold wrap64; omega
theorem ev_eq {α : Type} {g : Nat → Option α} {r s : α} (h : r = s) (e : Ev g s) : Ev g r := h ▸ e
def I64 (n : Int) : Prop := -9223372036854775808 ≤ n ∧ n ≤ 9223372036854775807

def sat (n : Int) : Int := if n > 9223372036854775807 then 9223372036854775807 else if n < -9223372036854775808 then -9223372036854775808 else n

theorem I64_of {a : Int} (h : (Lit.int .i64 a).wf = true) : I64 a := by
  simp [Lit.wf, IntKind.min, IntKind.max, IntKind.signed, IntKind.bits] at h
  unfold I64; omega

/-! ### Add, Sub, Mul: kept within an int -/
theorem add_ev' {a b : Int} (ha : I64 a) (hb : I64 b) : Ev (fun k => fix_Add.f k a b) (sat (a + b)) := by
  have key : ∀ c : Bool, c = decide (a > 0 ∧ b > 0 ∧ wrap64 (a + b) < 0) → Ev (fun k => fix_Add.j0 k a b (wrap64 (a + b)) c) (sat (a + b)) := by
    intro c hc
    refine Ev.step (f := fun _ => some (sat (a + b))) (fun k => ?_) (Ev.now _)
    rw [fix_Add.j0]
    unfold I64 at *
    have hw : (wrap64 (a + b) = a + b ∧ -9223372036854775808 ≤ a + b ∧ a + b ≤ 9223372036854775807) ∨ (wrap64 (a + b) = a + b - 18446744073709551616 ∧ a + b > 9223372036854775807) ∨ (wrap64 (a + b) = a + b + 18446744073709551616 ∧ a + b < -9223372036854775808) := by
      unfold wrap64; omega
    generalize wrap64 (a + b) = s at *
    unfold sat
    by_cases h : a > 0 ∧ b > 0 ∧ s < 0
    · rw [hc, if_pos (by simpa using h)]
      rw [if_pos (by omega)]
    · rw [hc, if_neg (by simpa using h)]
      by_cases h1 : a < 0
      · rw [if_pos h1]
        by_cases h2 : b < 0
        · rw [if_pos h2]
          by_cases h3 : s ≥ 0
          · rw [if_pos h3, if_neg (by omega), if_pos (by omega)]
          · rw [if_neg h3, if_neg (by omega), if_neg (by omega)]; congr 1; omega
        · rw [if_neg h2, if_neg (by omega), if_neg (by omega)]; congr 1; omega
      · rw [if_neg h1, if_neg (by omega), if_neg (by omega)]; congr 1; omega
  by_cases h1 : a > 0
  · by_cases h2 : b > 0
    · exact Ev.congr (fun k => by rw [fix_Add.f, if_pos h1, if_pos h2]) (key _ (by simp [h1, h2]))
    · exact Ev.congr (fun k => by rw [fix_Add.f, if_pos h1, if_neg h2]) (key _ (by simp [h2]))
  · exact Ev.congr (fun k => by rw [fix_Add.f, if_neg h1]) (key _ (by simp [h1]))
theorem sub_ev' {a b : Int} (ha : I64 a) (hb : I64 b) : Ev (fun k => fix_Sub.f k a b) (sat (a - b)) := by
  have key : ∀ c : Bool, c = decide (a ≥ 0 ∧ b < 0 ∧ wrap64 (a - b) < 0) → Ev (fun k => fix_Sub.j0 k a b (wrap64 (a - b)) c) (sat (a - b)) := by
    intro c hc
    refine Ev.step (f := fun _ => some (sat (a - b))) (fun k => ?_) (Ev.now _)
    rw [fix_Sub.j0]
    unfold I64 at *
    have hw : (wrap64 (a - b) = a - b ∧ -9223372036854775808 ≤ a - b ∧ a - b ≤ 9223372036854775807) ∨ (wrap64 (a - b) = a - b - 18446744073709551616 ∧ a - b > 9223372036854775807) ∨ (wrap64 (a - b) = a - b + 18446744073709551616 ∧ a - b < -9223372036854775808) := by
      unfold wrap64; omega
    generalize wrap64 (a - b) = s at *
    unfold sat
    by_cases h : a ≥ 0 ∧ b < 0 ∧ s < 0
    · rw [hc, if_pos (by simpa using h)]
      rw [if_pos (by omega)]
    · rw [hc, if_neg (by simpa using h)]
      by_cases h1 : a < 0
      · rw [if_pos h1]
        by_cases h2 : b > 0
        · rw [if_pos h2]
          by_cases h3 : s ≥ 0
          · rw [if_pos h3, if_neg (by omega), if_pos (by omega)]
          · rw [if_neg h3, if_neg (by omega), if_neg (by omega)]; congr 1; omega
        · rw [if_neg h2, if_neg (by omega), if_neg (by omega)]; congr 1; omega
      · rw [if_neg h1, if_neg (by omega), if_neg (by omega)]; congr 1; omega
  by_cases h1 : a ≥ 0
  · by_cases h2 : b < 0
    · exact Ev.congr (fun k => by rw [fix_Sub.f, if_pos h1, if_pos h2]) (key _ (by simp [h1, h2]))
    · exact Ev.congr (fun k => by rw [fix_Sub.f, if_pos h1, if_neg h2]) (key _ (by simp [h2]))
  · exact Ev.congr (fun k => by rw [fix_Sub.f, if_neg h1]) (key _ (by simp [h1]))

def cl (x lo hi : Int) : Int := if x < lo then lo else if x > hi then hi else x
def fl (a b : Int) : Int := if Int.tmod a b < 0 then wrap64 (wrap64 (Int.tdiv a b) - 1) else wrap64 (Int.tdiv a b)
theorem clamp_f (x lo hi : Int) : fix_Clamp.f x lo hi = some (cl x lo hi) := by
  unfold fix_Clamp.f cl; split <;> (try split) <;> rfl
theorem floor2_f (a : Int) : mixer_floor.f a 2 = some (fl a 2) := by
  unfold mixer_floor.f fix_Down.f fl; simp; split <;> rfl
theorem floor3_f (a : Int) : mixer_floor.f a 3 = some (fl a 3) := by
  unfold mixer_floor.f fix_Down.f fl; simp; split <;> rfl
theorem floor4_f (a : Int) : mixer_floor.f a 4 = some (fl a 4) := by
  unfold mixer_floor.f fix_Down.f fl; simp; split <;> rfl
def push (l x y s t : Int) : Int := wrap64 (wrap64 (l + wrap64 (s * x)) + wrap64 (t * y))
def up (q t : Int) : Int := fl (wrap64 (t + cl q (wrap64 (-t)) t)) 2
def low (q t : Int) : Int := wrap64 (t - up q t)
theorem l1_n (k : Nat) (q c0 c1 c2 c3 c4 c5 c6 c7 t0 t1 t2 t3 : Int) : mixer_Mix.l1 (k + 5) (-1) q 0 c0 c1 c2 c3 c4 c5 c6 c7 t0 t1 t2 t3 = some (up q t0, low q t0, up q t1, low q t1, up q t2, low q t2, up q t3, low q t3, 0) := by
  simp [mixer_Mix.l1, clamp_f, floor2_f, up, low]
theorem l1_0 (k : Nat) (q c0 c1 c2 c3 c4 c5 c6 c7 t0 t1 t2 t3 : Int) : mixer_Mix.l1 (k + 5) 0 q 0 c0 c1 c2 c3 c4 c5 c6 c7 t0 t1 t2 t3 = some (c0, c1, up q t1, low q t1, up q t2, low q t2, up q t3, low q t3, 0) := by
  simp [mixer_Mix.l1, clamp_f, floor2_f, up, low]
theorem l1_1 (k : Nat) (q c0 c1 c2 c3 c4 c5 c6 c7 t0 t1 t2 t3 : Int) : mixer_Mix.l1 (k + 5) 1 q 0 c0 c1 c2 c3 c4 c5 c6 c7 t0 t1 t2 t3 = some (up q t0, low q t0, c2, c3, up q t2, low q t2, up q t3, low q t3, 0) := by
  simp [mixer_Mix.l1, clamp_f, floor2_f, up, low]
theorem l1_2 (k : Nat) (q c0 c1 c2 c3 c4 c5 c6 c7 t0 t1 t2 t3 : Int) : mixer_Mix.l1 (k + 5) 2 q 0 c0 c1 c2 c3 c4 c5 c6 c7 t0 t1 t2 t3 = some (up q t0, low q t0, up q t1, low q t1, c4, c5, up q t3, low q t3, 0) := by
  simp [mixer_Mix.l1, clamp_f, floor2_f, up, low]
theorem l1_3 (k : Nat) (q c0 c1 c2 c3 c4 c5 c6 c7 t0 t1 t2 t3 : Int) : mixer_Mix.l1 (k + 5) 3 q 0 c0 c1 c2 c3 c4 c5 c6 c7 t0 t1 t2 t3 = some (up q t0, low q t0, up q t1, low q t1, up q t2, low q t2, c6, c7, 0) := by
  simp [mixer_Mix.l1, clamp_f, floor2_f, up, low]
theorem w0 : wrap64 0 = 0 := by decide +kernel
theorem w1 : wrap64 1 = 1 := by decide +kernel
theorem w2 : wrap64 2 = 2 := by decide +kernel
theorem limit_f (a b c d : Int) : mixer_Limit.f a b c d = some (cl a 328 456, cl b (-64) 64, cl c (-64) 64, cl d (-100) 100) := by
  simp [mixer_Limit.f, clamp_f]
theorem ww (a : Int) : wrap64 (wrap64 a) = wrap64 a := by unfold wrap64; omega
/-- What Mix says, whichever motor is dead. -/
def answer (a b c d e : Int) : Int × Int × Int × Int × Int × Int × Int × Int × Int :=
  let l := cl a 328 456; let x := cl b (-64) 64; let y := cl c (-64) 64; let t := cl d (-100) 100
  let p0 := push l x y 1 1; let p1 := push l x y (-1) 1; let p2 := push l x y (-1) (-1); let p3 := push l x y 1 (-1)
  if e < 0 ∨ e > 8 then (0, 0, 0, 0, 0, 0, 0, 0, 1) else
  if e = 0 then (up t p0, low t p0, up t p1, low t p1, up t p2, low t p2, up t p3, low t p3, 0) else
  if e = 1 then let q := fl (wrap64 (wrap64 (4 * t) - wrap64 (-p0))) 3; (0, p0, up q p1, low q p1, up q p2, low q p2, up q p3, low q p3, 0) else
  if e = 2 then let q := fl (wrap64 (wrap64 (4 * t) - p0)) 3; (p0, 0, up q p1, low q p1, up q p2, low q p2, up q p3, low q p3, 0) else
  if e = 3 then let q := fl (wrap64 (wrap64 (4 * t) - wrap64 (-p1))) 3; (up q p0, low q p0, 0, p1, up q p2, low q p2, up q p3, low q p3, 0) else
  if e = 4 then let q := fl (wrap64 (wrap64 (4 * t) - p1)) 3; (up q p0, low q p0, p1, 0, up q p2, low q p2, up q p3, low q p3, 0) else
  if e = 5 then let q := fl (wrap64 (wrap64 (4 * t) - wrap64 (-p2))) 3; (up q p0, low q p0, up q p1, low q p1, 0, p2, up q p3, low q p3, 0) else
  if e = 6 then let q := fl (wrap64 (wrap64 (4 * t) - p2)) 3; (up q p0, low q p0, up q p1, low q p1, p2, 0, up q p3, low q p3, 0) else
  if e = 7 then let q := fl (wrap64 (wrap64 (4 * t) - wrap64 (-p3))) 3; (up q p0, low q p0, up q p1, low q p1, up q p2, low q p2, 0, p3, 0) else
  let q := fl (wrap64 (wrap64 (4 * t) - p3)) 3; (up q p0, low q p0, up q p1, low q p1, up q p2, low q p2, p3, 0, 0)
theorem cases_of {e : Int} (h : ¬ (e < 0 ∨ e > 8)) : e = 0 ∨ e = 1 ∨ e = 2 ∨ e = 3 ∨ e = 4 ∨ e = 5 ∨ e = 6 ∨ e = 7 ∨ e = 8 := by omega
theorem mix_f (k : Nat) (a b c d e : Int) : mixer_Mix.f (k + 12) a b c d e = some (answer a b c d e) := by
  by_cases h : e < 0 ∨ e > 8
  · rcases h with h | h
    · simp [mixer_Mix.f, mixer_Mix.j0, h, answer]
    · have h0 : ¬ e < 0 := by omega
      simp [mixer_Mix.f, mixer_Mix.j0, h, h0, answer]
  · rcases cases_of h with rfl | rfl | rfl | rfl | rfl | rfl | rfl | rfl | rfl <;>
      simp [mixer_Mix.f, mixer_Mix.j0, limit_f, mixer_signs.f, mixer_Mix.l0, floor3_f, mixer_Mix.j2, l1_n, l1_0, l1_1, l1_2, l1_3, push, ww, answer]
theorem work_f (k : Nat) (a b c d e f g h : Int) : mixer_Work.f (k + 6) a b c d e f g h = some (fl (wrap64 (wrap64 (wrap64 (wrap64 (0 + wrap64 ((cl a 0 600) + (cl b 0 600))) + wrap64 ((cl c 0 600) + (cl d 0 600))) + wrap64 ((cl e 0 600) + (cl f 0 600))) + wrap64 ((cl g 0 600) + (cl h 0 600)))) 4, fl (wrap64 (wrap64 (wrap64 (wrap64 (0 + wrap64 (1 * (wrap64 ((cl a 0 600) + (cl b 0 600))))) + wrap64 ((-1) * (wrap64 ((cl c 0 600) + (cl d 0 600))))) + wrap64 ((-1) * (wrap64 ((cl e 0 600) + (cl f 0 600))))) + wrap64 (1 * (wrap64 ((cl g 0 600) + (cl h 0 600)))))) 4, fl (wrap64 (wrap64 (wrap64 (wrap64 (0 + wrap64 (1 * (wrap64 ((cl a 0 600) + (cl b 0 600))))) + wrap64 (1 * (wrap64 ((cl c 0 600) + (cl d 0 600))))) + wrap64 ((-1) * (wrap64 ((cl e 0 600) + (cl f 0 600))))) + wrap64 ((-1) * (wrap64 ((cl g 0 600) + (cl h 0 600)))))) 4, fl (wrap64 (wrap64 (wrap64 (wrap64 (0 + wrap64 ((cl a 0 600) - (cl b 0 600))) + wrap64 ((cl c 0 600) - (cl d 0 600))) + wrap64 ((cl e 0 600) - (cl f 0 600))) + wrap64 ((cl g 0 600) - (cl h 0 600)))) 4) := by
  simp [mixer_Work.f, mixer_Work.l0, mixer_signs.f, clamp_f, floor4_f]

theorem wsmx {a : Int} (h1 : -4611686018427387904 ≤ a) (h2 : a ≤ 4611686018427387904) : wrap64 a = a := by unfold wrap64; omega
theorem cl_in (x : Int) {lo hi : Int} (h : lo ≤ hi) : lo ≤ cl x lo hi ∧ cl x lo hi ≤ hi := by unfold cl; split <;> (try split) <;> omega
theorem cl_id {x lo hi : Int} (h : lo ≤ x) (h2 : x ≤ hi) : cl x lo hi = x := by unfold cl; rw [if_neg (by omega), if_neg (by omega)]
theorem fl2 {a : Int} (h : 0 ≤ a) (h2 : a ≤ 4611686018427387904) : fl a 2 = a / 2 := by
  unfold fl
  rw [Int.tmod_eq_emod_of_nonneg h, Int.tdiv_eq_ediv_of_nonneg h, if_neg (by omega), wsmx (by omega) (by omega)]
theorem fl4 {a x : Int} (h : a = 4 * x) (h1 : -1000000 ≤ x) (h2 : x ≤ 1000000) : fl a 4 = x := by
  subst h
  unfold fl
  rw [Int.mul_tdiv_cancel_left _ (by decide), Int.mul_tmod_right, if_neg (by omega), wsmx (by omega) (by omega)]
theorem up_is {q p : Int} (h1 : 0 ≤ p) (h2 : p ≤ 1000) : up q p = (p + cl q (-p) p) / 2 ∧ low q p = p - (p + cl q (-p) p) / 2 := by
  have hc := cl_in q (lo := -p) (hi := p) (by omega)
  have e : up q p = (p + cl q (-p) p) / 2 := by
    unfold up
    rw [wsmx (a := -p) (by omega) (by omega), wsmx (by omega) (by omega), fl2 (by omega) (by omega)]
  refine ⟨e, ?_⟩
  unfold low
  rw [e, wsmx (by omega) (by omega)]
/-- An arm's two motors. -/
theorem arm {q p : Int} (h1 : 0 ≤ p) (h2 : p ≤ 1000) : 0 ≤ up q p ∧ 0 ≤ low q p ∧ up q p + low q p = p := by
  have hc := cl_in q (lo := -p) (hi := p) (by omega)
  obtain ⟨e1, e2⟩ := up_is (q := q) h1 h2
  rw [e1, e2]; omega
theorem push_is {l x y : Int} (hl : 328 ≤ l ∧ l ≤ 456) (hx : -64 ≤ x ∧ x ≤ 64) (hy : -64 ≤ y ∧ y ≤ 64) :
    push l x y 1 1 = l + x + y ∧ push l x y (-1) 1 = l - x + y ∧ push l x y (-1) (-1) = l - x - y ∧ push l x y 1 (-1) = l + x - y := by
  unfold push wrap64; omega
/-- What is left of the law's tests: its motors within their bounds, the dead one's at rest, their sum, and what they do. -/
theorem work_is (k : Nat) {a b c d e f g h p0 p1 p2 p3 l x y : Int} (ha : 0 ≤ a) (hb : 0 ≤ b) (hc : 0 ≤ c) (hd : 0 ≤ d) (he : 0 ≤ e) (hf : 0 ≤ f) (hg : 0 ≤ g) (hh : 0 ≤ h)
    (s0 : a + b = p0) (s1 : c + d = p1) (s2 : e + f = p2) (s3 : g + h = p3) (q0 : p0 = l + x + y) (q1 : p1 = l - x + y) (q2 : p2 = l - x - y) (q3 : p3 = l + x - y) (hl : 328 ≤ l ∧ l ≤ 456) (hx : -64 ≤ x ∧ x ≤ 64) (hy : -64 ≤ y ∧ y ≤ 64) :
    mixer_Work.f (k + 6) a b c d e f g h = some (l, x, y, fl (a - b + (c - d) + (e - f) + (g - h)) 4) := by
  rw [work_f, cl_id (x := a) (by omega) (by omega), cl_id (x := b) (by omega) (by omega), cl_id (x := c) (by omega) (by omega), cl_id (x := d) (by omega) (by omega), cl_id (x := e) (by omega) (by omega), cl_id (x := f) (by omega) (by omega), cl_id (x := g) (by omega) (by omega), cl_id (x := h) (by omega) (by omega)]
  have pa : ∀ m : Int, (-1) * m = -m := fun m => by omega
  simp (disch := omega) only [wsmx, Int.one_mul, pa, Int.zero_add]
  congr 1
  refine Prod.ext ?_ (Prod.ext ?_ (Prod.ext ?_ ?_)) <;> dsimp only
  · exact fl4 (by omega) (by omega) (by omega)
  · exact fl4 (by omega) (by omega) (by omega)
  · exact fl4 (by omega) (by omega) (by omega)
theorem bnd {a b c d : Int} : (328 ≤ cl a 328 456 ∧ cl a 328 456 ≤ 456) ∧ (-64 ≤ cl b (-64) 64 ∧ cl b (-64) 64 ≤ 64) ∧ (-64 ≤ cl c (-64) 64 ∧ cl c (-64) 64 ≤ 64) ∧ (-100 ≤ cl d (-100) 100 ∧ cl d (-100) 100 ≤ 100) :=
  ⟨cl_in _ (by decide), cl_in _ (by decide), cl_in _ (by decide), cl_in _ (by decide)⟩

-- Lw SQ
theorem w_sat_id {a : Int} (h1 : -9223372036854775808 ≤ a) (h2 : a ≤ 9223372036854775807) : sat a = a := by unfold sat; rw [if_neg (by omega), if_neg (by omega)]
theorem w_add {a b : Int} (a1 : -4000000000000000000 ≤ a) (a2 : a ≤ 4000000000000000000) (b1 : -4000000000000000000 ≤ b) (b2 : b ≤ 4000000000000000000) : Ev (fun k => fix_Add.f k a b) (a + b) :=
  ev_eq (w_sat_id (by omega) (by omega)).symm (add_ev' ⟨by omega, by omega⟩ ⟨by omega, by omega⟩)
theorem w_sub {a b : Int} (a1 : -4000000000000000000 ≤ a) (a2 : a ≤ 4000000000000000000) (b1 : -4000000000000000000 ≤ b) (b2 : b ≤ 4000000000000000000) : Ev (fun k => fix_Sub.f k a b) (a - b) :=
  ev_eq (w_sat_id (by omega) (by omega)).symm (sub_ev' ⟨by omega, by omega⟩ ⟨by omega, by omega⟩)
theorem w_sub0 {a : Int} (h : I64 a) : Ev (fun k => fix_Sub.f k a 0) a :=
  ev_eq (by rw [Int.sub_zero]; exact (w_sat_id h.1 h.2).symm) (sub_ev' h ⟨by decide, by decide⟩)
set_option maxRecDepth 100000 in
theorem awake23_ev : Ev (fun k => windhoverlaw23_awake.f k) true := by
  have h : windhoverlaw23_awake.f 60 = some true := by decide +kernel
  exact Ev.of (fun k => windhoverlaw23_awake.mono k) h
theorem fin23 : Ev (fun k => (windhoverlaw23_awake.f k).bind fun t => some t) true := Ev.bind awake23_ev (Ev.now true)
theorem mix_ev (a b c d e : Int) : Ev (fun k => mixer_Mix.f k a b c d e) (answer a b c d e) :=
  ⟨12, fun k hk => by obtain ⟨n, rfl⟩ : ∃ n, k = n + 12 := ⟨k - 12, by omega⟩; exact mix_f n a b c d e⟩
theorem work_ev {a b c d e f g h p0 p1 p2 p3 l x y : Int} (h0 : 0 ≤ a ∧ 0 ≤ b ∧ a + b = p0) (h1 : 0 ≤ c ∧ 0 ≤ d ∧ c + d = p1) (h2 : 0 ≤ e ∧ 0 ≤ f ∧ e + f = p2) (h3 : 0 ≤ g ∧ 0 ≤ h ∧ g + h = p3) (q0 : p0 = l + x + y) (q1 : p1 = l - x + y) (q2 : p2 = l - x - y) (q3 : p3 = l + x - y) (hl : 328 ≤ l ∧ l ≤ 456) (hx : -64 ≤ x ∧ x ≤ 64) (hy : -64 ≤ y ∧ y ≤ 64) :
    Ev (fun k => mixer_Work.f k a b c d e f g h) (l, x, y, fl (a - b + (c - d) + (e - f) + (g - h)) 4) :=
  ⟨6, fun k hk => by obtain ⟨n, rfl⟩ : ∃ n, k = n + 6 := ⟨k - 6, by omega⟩; exact work_is n h0.1 h0.2.1 h1.1 h1.2.1 h2.1 h2.2.1 h3.1 h3.2.1 h0.2.2 h1.2.2 h2.2.2 h3.2.2 q0 q1 q2 q3 hl hx hy⟩
/-- Motors that are arms of a wrench, the dead one at rest. -/
def Motors (e l x y m0 m1 m2 m3 m4 m5 m6 m7 : Int) : Prop :=
  (0 ≤ m0 ∧ 0 ≤ m1 ∧ m0 + m1 = l + x + y) ∧ (0 ≤ m2 ∧ 0 ≤ m3 ∧ m2 + m3 = l - x + y) ∧ (0 ≤ m4 ∧ 0 ≤ m5 ∧ m4 + m5 = l - x - y) ∧ (0 ≤ m6 ∧ 0 ≤ m7 ∧ m6 + m7 = l + x - y) ∧
  (e = 0 ∨ (e = 1 ∧ m0 = 0) ∨ (e = 2 ∧ m1 = 0) ∨ (e = 3 ∧ m2 = 0) ∨ (e = 4 ∧ m3 = 0) ∨ (e = 5 ∧ m4 = 0) ∨ (e = 6 ∧ m5 = 0) ∨ (e = 7 ∧ m6 = 0) ∨ (e = 8 ∧ m7 = 0))
set_option maxHeartbeats 4000000 in
theorem answer_is {a b c d e : Int} (h : ¬ (e < 0 ∨ e > 8)) :
    ∃ m0 m1 m2 m3 m4 m5 m6 m7, answer a b c d e = (m0, m1, m2, m3, m4, m5, m6, m7, 0) ∧ Motors e (cl a 328 456) (cl b (-64) 64) (cl c (-64) 64) m0 m1 m2 m3 m4 m5 m6 m7 := by
  obtain ⟨hl, hx, hy, ht⟩ := bnd (a := a) (b := b) (c := c) (d := d)
  unfold answer
  generalize cl a 328 456 = l at *
  generalize cl b (-64) 64 = x at *
  generalize cl c (-64) 64 = y at *
  generalize cl d (-100) 100 = t at *
  obtain ⟨g0, g1, g2, g3⟩ := push_is hl hx hy
  dsimp only
  rw [g0, g1, g2, g3, if_neg h]
  have a0 : ∀ q, _ := fun q => arm (q := q) (p := l + x + y) (by omega) (by omega)
  have a1 : ∀ q, _ := fun q => arm (q := q) (p := l - x + y) (by omega) (by omega)
  have a2 : ∀ q, _ := fun q => arm (q := q) (p := l - x - y) (by omega) (by omega)
  have a3 : ∀ q, _ := fun q => arm (q := q) (p := l + x - y) (by omega) (by omega)
  unfold Motors
  rcases cases_of h with rfl | rfl | rfl | rfl | rfl | rfl | rfl | rfl | rfl
  · exact ⟨_, _, _, _, _, _, _, _, rfl, a0 _, a1 _, a2 _, a3 _, .inl rfl⟩
  · exact ⟨_, _, _, _, _, _, _, _, rfl, ⟨by omega, by omega, by omega⟩, a1 _, a2 _, a3 _, .inr (.inl ⟨rfl, rfl⟩)⟩
  · exact ⟨_, _, _, _, _, _, _, _, rfl, ⟨by omega, by omega, by omega⟩, a1 _, a2 _, a3 _, .inr (.inr (.inl ⟨rfl, rfl⟩))⟩
  · exact ⟨_, _, _, _, _, _, _, _, rfl, a0 _, ⟨by omega, by omega, by omega⟩, a2 _, a3 _, .inr (.inr (.inr (.inl ⟨rfl, rfl⟩)))⟩
  · exact ⟨_, _, _, _, _, _, _, _, rfl, a0 _, ⟨by omega, by omega, by omega⟩, a2 _, a3 _, .inr (.inr (.inr (.inr (.inl ⟨rfl, rfl⟩))))⟩
  · exact ⟨_, _, _, _, _, _, _, _, rfl, a0 _, a1 _, ⟨by omega, by omega, by omega⟩, a3 _, .inr (.inr (.inr (.inr (.inr (.inl ⟨rfl, rfl⟩)))))⟩
  · exact ⟨_, _, _, _, _, _, _, _, rfl, a0 _, a1 _, ⟨by omega, by omega, by omega⟩, a3 _, .inr (.inr (.inr (.inr (.inr (.inr (.inl ⟨rfl, rfl⟩))))))⟩
  · exact ⟨_, _, _, _, _, _, _, _, rfl, a0 _, a1 _, a2 _, ⟨by omega, by omega, by omega⟩, .inr (.inr (.inr (.inr (.inr (.inr (.inr (.inl ⟨rfl, rfl⟩)))))))⟩
  · exact ⟨_, _, _, _, _, _, _, _, rfl, a0 _, a1 _, a2 _, ⟨by omega, by omega, by omega⟩, .inr (.inr (.inr (.inr (.inr (.inr (.inr (.inr ⟨rfl, rfl⟩)))))))⟩
/-- What the world does once the motors' work is known. -/
theorem after_ev {p0 p1 p2 v0 v1 v2 H R C w0 w1 w2 l x y w g0 g1 g2 : Int} (hp0 : -1125899906842624 ≤ p0 ∧ p0 ≤ 1125899906842624) (hp1 : -1125899906842624 ≤ p1 ∧ p1 ≤ 1125899906842624) (hp2 : -1125899906842624 ≤ p2 ∧ p2 ≤ 1125899906842624)
    (hv0 : -1125899906842624 ≤ v0 ∧ v0 ≤ 1125899906842624) (hv1 : -1125899906842624 ≤ v1 ∧ v1 ≤ 1125899906842624) (hv2 : -1125899906842624 ≤ v2 ∧ v2 ≤ 1125899906842624)
    (hw0 : -1000 ≤ w0 ∧ w0 ≤ 1000) (hw1 : -1000 ≤ w1 ∧ w1 ≤ 1000) (hw2 : -1000 ≤ w2 ∧ w2 ≤ 1000) (hl : 328 ≤ l ∧ l ≤ 456) (hx : -64 ≤ x ∧ x ≤ 64) (hy : -64 ≤ y ∧ y ≤ 64) (hR : I64 R) (hw : I64 w) (hC : I64 C)
    (e0 : g0 = v0 + x + w0) (e1 : g1 = v1 + y + w1) (e2 : g2 = v2 + l + w2 - 392) :
    ∃ t r t', Ev (fun k => world_Step.l0 k 0 0 p0 p1 p2 v0 v1 v2 H R C w0 w1 w2 l x y w p0 p1 p2 x y l) (if p2 + g2 ≤ 0 then (p0, p1, 0, 0, 0, 0, t, 0, C, 0) else (p0 + g0, p1 + g1, p2 + g2, g0, g1, g2, t', r, C, 0)) := by
  refine ⟨Int.tmod (wrap64 ((Int.tmod (wrap64 (Int.tmod H 1048576)) 1048576) + 1048576)) 1048576, sat (R + w), Int.tmod (wrap64 ((Int.tmod (wrap64 ((Int.tmod H 1048576) + (Int.tmod (sat (R + w)) 1048576))) 1048576) + 1048576)) 1048576, ?_⟩
  refine Ev.step (f := fun k => (fix_Add.f k v0 x).bind fun t160 => ((fix_Add.f k t160 w0).bind fun t161 => (world_Step.l0 k 0 1 p0 p1 p2 t161 v1 v2 H R C w0 w1 w2 l x y w p0 p1 p2 x y l))) (fun k => by rw [world_Step.l0, if_pos (by decide), if_pos rfl]) ?_
  refine Ev.bind (w_add (by omega) (by omega) (by omega) (by omega)) ?_
  refine Ev.bind (w_add (by omega) (by omega) (by omega) (by omega)) ?_
  rw [← e0]
  refine Ev.step (f := fun k => (fix_Add.f k v1 y).bind fun t160 => ((fix_Add.f k t160 w1).bind fun t161 => (world_Step.l0 k 0 2 p0 p1 p2 g0 t161 v2 H R C w0 w1 w2 l x y w p0 p1 p2 x y l))) (fun k => by rw [world_Step.l0, if_pos (by decide), if_neg (by decide), if_pos rfl]) ?_
  refine Ev.bind (w_add (by omega) (by omega) (by omega) (by omega)) ?_
  refine Ev.bind (w_add (by omega) (by omega) (by omega) (by omega)) ?_
  rw [← e1]
  refine Ev.step (f := fun k => (fix_Add.f k v2 l).bind fun t160 => ((fix_Add.f k t160 w2).bind fun t161 => (world_Step.l0 k 0 3 p0 p1 p2 g0 g1 t161 H R C w0 w1 w2 l x y w p0 p1 p2 x y l))) (fun k => by rw [world_Step.l0, if_pos (by decide), if_neg (by decide), if_neg (by decide), if_pos rfl]) ?_
  refine Ev.bind (w_add (by omega) (by omega) (by omega) (by omega)) ?_
  refine Ev.bind (w_add (by omega) (by omega) (by omega) (by omega)) ?_
  refine Ev.step (f := fun k => (fix_Sub.f k (v2 + l + w2) 392).bind fun t166 => (world_Step.l1 k 0 0 p0 p1 p2 g0 g1 t166 H R C l x y w p0 p1 p2 g0 g1 t166)) (fun k => by rw [world_Step.l0, if_neg (by decide)]) ?_
  refine Ev.bind (w_sub (by omega) (by omega) (by omega) (by omega)) ?_
  rw [← e2]
  refine Ev.step (f := fun k => (fix_Add.f k p0 g0).bind fun t167 => (world_Step.l1 k 0 1 t167 p1 p2 g0 g1 g2 H R C l x y w p0 p1 p2 g0 g1 g2)) (fun k => by rw [world_Step.l1, if_pos (by decide), if_pos rfl]) ?_
  refine Ev.bind (w_add (by omega) (by omega) (by omega) (by omega)) ?_
  refine Ev.step (f := fun k => (fix_Add.f k p1 g1).bind fun t167 => (world_Step.l1 k 0 2 (p0 + g0) t167 p2 g0 g1 g2 H R C l x y w p0 p1 p2 g0 g1 g2)) (fun k => by rw [world_Step.l1, if_pos (by decide), if_neg (by decide), if_pos rfl]) ?_
  refine Ev.bind (w_add (by omega) (by omega) (by omega) (by omega)) ?_
  refine Ev.step (f := fun k => (fix_Add.f k p2 g2).bind fun t167 => (world_Step.l1 k 0 3 (p0 + g0) (p1 + g1) t167 g0 g1 g2 H R C l x y w p0 p1 p2 g0 g1 g2)) (fun k => by rw [world_Step.l1, if_pos (by decide), if_neg (by decide), if_neg (by decide), if_pos rfl]) ?_
  refine Ev.bind (w_add (by omega) (by omega) (by omega) (by omega)) ?_
  refine Ev.step (f := fun k => (fix_Add.f k R w).bind fun t170 => (if p2 + g2 ≤ 0 then ((world_within.f (wrap64 (Int.tmod H 1048576)) 1048576).bind fun t171 => ((fix_Sub.f k C 0).bind fun t172 => (some (p0, p1, 0, 0, 0, 0, t171, 0, t172, 0)))) else ((world_within.f (wrap64 ((Int.tmod H 1048576) + (Int.tmod t170 1048576))) 1048576).bind fun t173 => ((fix_Sub.f k C 0).bind fun t174 => (some (p0 + g0, p1 + g1, p2 + g2, g0, g1, g2, t173, t170, t174, 0)))))) (fun k => by rw [world_Step.l1, if_neg (by decide)]) ?_
  refine Ev.bind (add_ev' hR hw) ?_
  by_cases c : p2 + g2 ≤ 0
  · rw [if_pos c]
    refine Ev.congr (fun k => by rw [if_pos c, world_within.f, if_neg (by decide), Option.bind_some]) ?_
    exact Ev.bind (w_sub0 hC) (Ev.now _)
  · rw [if_neg c]
    refine Ev.congr (fun k => by rw [if_neg c, world_within.f, if_neg (by decide), Option.bind_some]) ?_
    exact Ev.bind (w_sub0 hC) (Ev.now _)
theorem j1_of {p0 p1 p2 v0 v1 v2 H R C m0 m1 m2 m3 m4 m5 m6 m7 w0 w1 w2 l x y w : Int} {r : Int × Int × Int × Int × Int × Int × Int × Int × Int × Int} (hm : Ev (fun k => mixer_Work.f k m0 m1 m2 m3 m4 m5 m6 m7) (l, x, y, w)) (h : Ev (fun k => world_Step.l0 k 0 0 p0 p1 p2 v0 v1 v2 H R C w0 w1 w2 l x y w p0 p1 p2 x y l) r) :
    Ev (fun k => world_Step.j1 k 0 p0 p1 p2 v0 v1 v2 H R C m0 m1 m2 m3 m4 m5 m6 m7 w0 w1 w2) r :=
  Ev.step (f := fun k => (mixer_Work.f k m0 m1 m2 m3 m4 m5 m6 m7).bind fun bt154 => (world_Step.l0 k 0 0 p0 p1 p2 v0 v1 v2 H R C w0 w1 w2 bt154.1 bt154.2.1 bt154.2.2.1 bt154.2.2.2 p0 p1 p2 bt154.2.1 bt154.2.2.1 bt154.1)) (fun k => by rw [world_Step.j1]) (Ev.bind hm h)
theorem step_of {e p0 p1 p2 v0 v1 v2 H R C m0 m1 m2 m3 m4 m5 m6 m7 w0 w1 w2 : Int} {r : Int × Int × Int × Int × Int × Int × Int × Int × Int × Int}
    (he : e = 0 ∨ (e = 1 ∧ m0 = 0) ∨ (e = 2 ∧ m1 = 0) ∨ (e = 3 ∧ m2 = 0) ∨ (e = 4 ∧ m3 = 0) ∨ (e = 5 ∧ m4 = 0) ∨ (e = 6 ∧ m5 = 0) ∨ (e = 7 ∧ m6 = 0) ∨ (e = 8 ∧ m7 = 0)) (h : Ev (fun k => world_Step.j1 k 0 p0 p1 p2 v0 v1 v2 H R C m0 m1 m2 m3 m4 m5 m6 m7 w0 w1 w2) r) :
    Ev (fun k => world_Step.f k p0 p1 p2 v0 v1 v2 H R C m0 m1 m2 m3 m4 m5 m6 m7 e w0 w1 w2 0) r := by
  have h8 : ¬ e < 0 ∧ ¬ e > 8 := by omega
  refine Ev.congr (f := fun k => world_Step.j0 k e 0 false p0 p1 p2 v0 v1 v2 H R C m0 m1 m2 m3 m4 m5 m6 m7 w0 w1 w2) (fun k => by rw [world_Step.f, if_neg h8.1, decide_eq_false h8.2]) ?_
  refine Ev.step (f := fun k => world_Step.j1 k 0 p0 p1 p2 v0 v1 v2 H R C m0 m1 m2 m3 m4 m5 m6 m7 w0 w1 w2) (fun k => ?_) h
  rcases he with rfl | ⟨rfl, rfl⟩ | ⟨rfl, rfl⟩ | ⟨rfl, rfl⟩ | ⟨rfl, rfl⟩ | ⟨rfl, rfl⟩ | ⟨rfl, rfl⟩ | ⟨rfl, rfl⟩ | ⟨rfl, rfl⟩ <;> rw [world_Step.j0, if_neg (by decide)]
  · rw [if_neg (by decide)]
  · rw [if_pos (by decide), if_pos rfl]
  · rw [if_pos (by decide), if_neg (by decide), if_pos rfl]
  · rw [if_pos (by decide), if_neg (by decide), if_neg (by decide), if_pos rfl]
  · rw [if_pos (by decide), if_neg (by decide), if_neg (by decide), if_neg (by decide), if_pos rfl]
  · rw [if_pos (by decide), if_neg (by decide), if_neg (by decide), if_neg (by decide), if_neg (by decide), if_pos rfl]
  · rw [if_pos (by decide), if_neg (by decide), if_neg (by decide), if_neg (by decide), if_neg (by decide), if_neg (by decide), if_pos rfl]
  · rw [if_pos (by decide), if_neg (by decide), if_neg (by decide), if_neg (by decide), if_neg (by decide), if_neg (by decide), if_neg (by decide), if_pos rfl]
  · rw [if_pos (by decide), if_neg (by decide), if_neg (by decide), if_neg (by decide), if_neg (by decide), if_neg (by decide), if_neg (by decide), if_neg (by decide), if_pos rfl]
theorem fl_I64 {a : Int} : I64 (fl a 4) := by
  unfold fl I64
  split <;> (unfold wrap64; omega)
/-- The law's three tests of one axis. -/
theorem axis_ev {g : Nat → Option Bool} {f : Nat → Option Bool} {p v w : Int} (hg : ∀ k, g (k + 1) = if p < (-1125899906842624) then ((windhoverlaw23_awake.f k).bind fun t => (some t)) else (if p > 1125899906842624 then ((windhoverlaw23_awake.f k).bind fun t => (some t)) else (if v < (-1125899906842624) then ((windhoverlaw23_awake.f k).bind fun t => (some t)) else (if v > 1125899906842624 then ((windhoverlaw23_awake.f k).bind fun t => (some t)) else (if w < (-1000) then ((windhoverlaw23_awake.f k).bind fun t => (some t)) else (if w > 1000 then ((windhoverlaw23_awake.f k).bind fun t => (some t)) else f k))))))
    (h : (-1125899906842624 ≤ p ∧ p ≤ 1125899906842624) → (-1125899906842624 ≤ v ∧ v ≤ 1125899906842624) → (-1000 ≤ w ∧ w ≤ 1000) → Ev f true) : Ev g true := by
  refine Ev.step hg ?_
  by_cases c1 : p < (-1125899906842624)
  · exact Ev.congr (fun k => by rw [if_pos c1]) fin23
  by_cases c2 : p > 1125899906842624
  · exact Ev.congr (fun k => by rw [if_neg c1, if_pos c2]) fin23
  by_cases c3 : v < (-1125899906842624)
  · exact Ev.congr (fun k => by rw [if_neg c1, if_neg c2, if_pos c3]) fin23
  by_cases c4 : v > 1125899906842624
  · exact Ev.congr (fun k => by rw [if_neg c1, if_neg c2, if_neg c3, if_pos c4]) fin23
  by_cases c5 : w < (-1000)
  · exact Ev.congr (fun k => by rw [if_neg c1, if_neg c2, if_neg c3, if_neg c4, if_pos c5]) fin23
  by_cases c6 : w > 1000
  · exact Ev.congr (fun k => by rw [if_neg c1, if_neg c2, if_neg c3, if_neg c4, if_neg c5, if_pos c6]) fin23
  exact Ev.congr (fun k => by rw [if_neg c1, if_neg c2, if_neg c3, if_neg c4, if_neg c5, if_neg c6]) (h ⟨by omega, by omega⟩ ⟨by omega, by omega⟩ ⟨by omega, by omega⟩)
set_option maxHeartbeats 4000000 in
theorem WorldObeys : windhoverlaw23_WorldObeys.Pure := by
  intro p0 p1 p2 v0 v1 v2 H R C a b c d t0 t1 t2 t3 t4 t5 t6 t7 e w0 w1 w2 t12 _ _ _ _ _ _ _ iR iC _ _ _ _ _ _ _ _ _ _ _ _ _ _ _ _ _
  have hR := I64_of iR
  have hC := I64_of iC
  clear iR iC
  apply Ev.rounds
  refine Ev.congr (fun k => by rw [windhoverlaw23_WorldObeys.f]) ?_
  refine Ev.bind (mix_ev a b c d e) ?_
  by_cases h : e < 0 ∨ e > 8
  · rw [show answer a b c d e = (0, 0, 0, 0, 0, 0, 0, 0, 1) by unfold answer; rw [if_pos h]]
    refine Ev.congr (fun k => by rw [if_neg (by decide)]) ?_
    by_cases h1 : e < 0
    · exact Ev.congr (fun k => by rw [if_pos h1]) fin23
    · exact Ev.congr (fun k => by rw [if_neg h1, if_pos (by omega)]) fin23
  obtain ⟨m0, m1, m2, m3, m4, m5, m6, m7, hm, M0, M1, M2, M3, Md⟩ := answer_is (a := a) (b := b) (c := c) (d := d) h
  rw [hm]
  clear hm
  refine Ev.congr (fun k => by rw [if_pos rfl]) ?_
  have hlim := limit_f a b c d
  obtain ⟨hl, hx, hy, ht⟩ := bnd (a := a) (b := b) (c := c) (d := d)
  generalize cl a 328 456 = l at *
  generalize cl b (-64) 64 = x at *
  generalize cl c (-64) 64 = y at *
  generalize cl d (-100) 100 = t at *
  dsimp only
  refine axis_ev (fun k => by rw [windhoverlaw23_WorldObeys.l0, if_pos (by decide), if_pos rfl]) (fun hp0 hv0 hw0 => ?_)
  refine axis_ev (fun k => by rw [windhoverlaw23_WorldObeys.l0, if_pos (by decide), if_neg (by decide), if_pos rfl]) (fun hp1 hv1 hw1 => ?_)
  refine axis_ev (fun k => by rw [windhoverlaw23_WorldObeys.l0, if_pos (by decide), if_neg (by decide), if_neg (by decide), if_pos rfl]) (fun hp2 hv2 hw2 => ?_)
  have hwk := work_ev M0 M1 M2 M3 rfl rfl rfl rfl hl hx hy
  have hfl : I64 (fl (m0 - m1 + (m2 - m3) + (m4 - m5) + (m6 - m7)) 4) := fl_I64
  generalize fl (m0 - m1 + (m2 - m3) + (m4 - m5) + (m6 - m7)) 4 = w at *
  obtain ⟨g0, e0⟩ : ∃ g, g = v0 + x + w0 := ⟨_, rfl⟩
  obtain ⟨g1, e1⟩ : ∃ g, g = v1 + y + w1 := ⟨_, rfl⟩
  obtain ⟨g2, e2⟩ : ∃ g, g = v2 + l + w2 - 392 := ⟨_, rfl⟩
  obtain ⟨q, r, q', hs⟩ := after_ev (H := H) (R := R) (C := C) (w := w) hp0 hp1 hp2 hv0 hv1 hv2 hw0 hw1 hw2 hl hx hy hR hfl hC e0 e1 e2
  have hst := step_of Md (j1_of hwk hs)
  have k1 : wrap64 ((wrap64 ((wrap64 (v2 + l)) - 392)) + w2) = g2 := by rw [wsm (a := v2 + l) (by omega) (by omega), wsm (a := v2 + l - 392) (by omega) (by omega), wsm (a := v2 + l - 392 + w2) (by omega) (by omega)]; omega
  have k2 : wrap64 (p2 + g2) = p2 + g2 := wsm (by omega) (by omega)
  have k3 : wrap64 ((wrap64 (v0 + x)) + w0) = g0 := by rw [wsm (a := v0 + x) (by omega) (by omega), wsm (a := v0 + x + w0) (by omega) (by omega)]; omega
  have k4 : wrap64 ((wrap64 (v1 + y)) + w1) = g1 := by rw [wsm (a := v1 + y) (by omega) (by omega), wsm (a := v1 + y + w1) (by omega) (by omega)]; omega
  have k5 : wrap64 (p0 + g0) = p0 + g0 := wsm (by omega) (by omega)
  have k6 : wrap64 (p1 + g1) = p1 + g1 := wsm (by omega) (by omega)
  refine Ev.step (fun k => by rw [windhoverlaw23_WorldObeys.l0, if_neg (by decide), hlim, Option.bind_some]) ?_
  dsimp only
  refine Ev.bind hst ?_
  clear hst hs hwk
  rw [k1]
  by_cases cc : p2 + g2 ≤ 0
  · rw [if_pos cc]
    refine Ev.congr (fun k => by rw [if_pos rfl]) ?_
    refine Ev.step (f := fun k => (windhoverlaw23_awake.f k).bind fun t => some t) (fun k => ?_) fin23
    rw [windhoverlaw23_WorldObeys.j1, if_neg (by simp), k2, if_pos cc, if_pos (by simp), if_pos (by simp)]
  · rw [if_neg cc]
    refine Ev.congr (fun k => by rw [if_pos rfl]) ?_
    refine Ev.step (f := fun k => (windhoverlaw23_awake.f k).bind fun t => some t) (fun k => ?_) fin23
    rw [windhoverlaw23_WorldObeys.j1, if_neg (by simp), k2, if_neg cc, k3, k4, k5, k6, if_pos (by simp), if_pos (by simp)]

end Go.Proofs.Ytbgggogkblkopaa.Pure
