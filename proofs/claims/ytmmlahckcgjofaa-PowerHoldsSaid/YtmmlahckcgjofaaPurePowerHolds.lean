/- The plain law of PowerHolds. -/
import Derived.Test.YtmmlahckcgjofaaPPowerHoldsx6
namespace Go.Proofs.Ytmmlahckcgjofaa.Pure
open Go.RowKit Go.Proofs.Ytmmlahckcgjofaa.PPowerHolds Go.Proofs.YtmmlahckcgjofaaW.PrintWords Go.Proofs.YtmmlahckcgjofaaW.PrintLast

set_option linter.unusedVariables false
set_option linter.unusedSimpArgs false
theorem Ev.now {α : Type} (r : α) : Ev (fun _ => some r) r := ⟨0, fun _ _ => rfl⟩

theorem wsm {a : Int} (h1 : -9223372036854775808 ≤ a) (h2 : a ≤ 9223372036854775807) : wrap64 a = a := by unfold wrap64; omega
theorem ev_eq {α : Type} {g : Nat → Option α} {r s : α} (h : r = s) (e : Ev g s) : Ev g r := h ▸ e
def I64 (n : Int) : Prop := -9223372036854775808 ≤ n ∧ n ≤ 9223372036854775807

def sat (n : Int) : Int := if n > 9223372036854775807 then 9223372036854775807 else if n < -9223372036854775808 then -9223372036854775808 else n

/-! ### Add, Sub, Mul: kept within an int -/
theorem add_ev' {a b : Int} (ha : I64 a) (hb : I64 b) : Ev (fun k => fix_Add.f k a b) (sat (a + b)) := by
  have key : ∀ c : Bool, c = decide (a > 0 ∧ b > 0 ∧ wrap64 (a + b) < 0) → Ev (fun k => fix_Add.j0 k a b (wrap64 (a + b)) c) (sat (a + b)) := by
    intro c hc
    refine Ev.step (f := fun _ => some (sat (a + b))) (fun k => ?_) (Ev.now _)
    rw [fix_Add.j0]
    unfold I64 at *
    have hw : (wrap64 (a + b) = a + b ∧ -9223372036854775808 ≤ a + b ∧ a + b ≤ 9223372036854775807) ∨ (wrap64 (a + b) = a + b - 18446744073709551616 ∧ a + b > 9223372036854775807) ∨ (wrap64 (a + b) = a + b + 18446744073709551616 ∧ a + b < -9223372036854775808) := by
      unfold wrap64; omega
    generalize wrap64 (a + b) = s at *
    unfold sat
    by_cases h : a > 0 ∧ b > 0 ∧ s < 0
    · rw [hc, if_pos (by simpa using h)]
      rw [if_pos (by omega)]
    · rw [hc, if_neg (by simpa using h)]
      by_cases h1 : a < 0
      · rw [if_pos h1]
        by_cases h2 : b < 0
        · rw [if_pos h2]
          by_cases h3 : s ≥ 0
          · rw [if_pos h3, if_neg (by omega), if_pos (by omega)]
          · rw [if_neg h3, if_neg (by omega), if_neg (by omega)]; congr 1; omega
        · rw [if_neg h2, if_neg (by omega), if_neg (by omega)]; congr 1; omega
      · rw [if_neg h1, if_neg (by omega), if_neg (by omega)]; congr 1; omega
  by_cases h1 : a > 0
  · by_cases h2 : b > 0
    · exact Ev.congr (fun k => by rw [fix_Add.f, if_pos h1, if_pos h2]) (key _ (by simp [h1, h2]))
    · exact Ev.congr (fun k => by rw [fix_Add.f, if_pos h1, if_neg h2]) (key _ (by simp [h2]))
  · exact Ev.congr (fun k => by rw [fix_Add.f, if_neg h1]) (key _ (by simp [h1]))
theorem sub_ev' {a b : Int} (ha : I64 a) (hb : I64 b) : Ev (fun k => fix_Sub.f k a b) (sat (a - b)) := by
  have key : ∀ c : Bool, c = decide (a ≥ 0 ∧ b < 0 ∧ wrap64 (a - b) < 0) → Ev (fun k => fix_Sub.j0 k a b (wrap64 (a - b)) c) (sat (a - b)) := by
    intro c hc
    refine Ev.step (f := fun _ => some (sat (a - b))) (fun k => ?_) (Ev.now _)
    rw [fix_Sub.j0]
    unfold I64 at *
    have hw : (wrap64 (a - b) = a - b ∧ -9223372036854775808 ≤ a - b ∧ a - b ≤ 9223372036854775807) ∨ (wrap64 (a - b) = a - b - 18446744073709551616 ∧ a - b > 9223372036854775807) ∨ (wrap64 (a - b) = a - b + 18446744073709551616 ∧ a - b < -9223372036854775808) := by
      unfold wrap64; omega
    generalize wrap64 (a - b) = s at *
    unfold sat
    by_cases h : a ≥ 0 ∧ b < 0 ∧ s < 0
    · rw [hc, if_pos (by simpa using h)]
      rw [if_pos (by omega)]
    · rw [hc, if_neg (by simpa using h)]
      by_cases h1 : a < 0
      · rw [if_pos h1]
        by_cases h2 : b > 0
        · rw [if_pos h2]
          by_cases h3 : s ≥ 0
          · rw [if_pos h3, if_neg (by omega), if_pos (by omega)]
          · rw [if_neg h3, if_neg (by omega), if_neg (by omega)]; congr 1; omega
        · rw [if_neg h2, if_neg (by omega), if_neg (by omega)]; congr 1; omega
      · rw [if_neg h1, if_neg (by omega), if_neg (by omega)]; congr 1; omega
  by_cases h1 : a ≥ 0
  · by_cases h2 : b < 0
    · exact Ev.congr (fun k => by rw [fix_Sub.f, if_pos h1, if_pos h2]) (key _ (by simp [h1, h2]))
    · exact Ev.congr (fun k => by rw [fix_Sub.f, if_pos h1, if_neg h2]) (key _ (by simp [h2]))
  · exact Ev.congr (fun k => by rw [fix_Sub.f, if_neg h1]) (key _ (by simp [h1]))

/-! ### params.Check and the document's -/
def RulesW (l : List Int) : Prop := ¬ (wrap64 ((wrap64 ((wrap64 ((rd l 0) + (rd l 6))) + (wrap64 (2 * (mx (rd l 2) (rd l 4)))))) + 4)) > 64 ∧ ¬ (rd l 12) < (wrap64 ((wrap64 (8 * (mx (rd l 1) (rd l 3)))) + 100)) ∧ ¬ (rd l 11) > (rd l 10)
def InRows (l : List Int) (i : Int) : Prop := ∀ j, i ≤ j → j < 24 → rd params_Check.tb0_0 j ≤ rd l j ∧ rd l j ≤ rd params_Check.tb0_1 j
open Classical in
noncomputable def cval (l : List Int) (i : Int) : Int := if InRows l i then (if RulesW l then 0 else 80) else 5
def Sound (l : List Int) : Prop := l.length = 24 ∧ InRows l 0 ∧ RulesW l
open Classical in
noncomputable def chv (l : List Int) : Int := if l.length = 24 then cval l 0 else 3
theorem inrows_last (l : List Int) : InRows l 24 := fun j h2 h3 => by omega
theorem cval_end (l : List Int) : cval l 24 = 0 ∧ RulesW l ∨ cval l 24 = 80 ∧ ¬ RulesW l := by
  unfold cval
  rw [if_pos (inrows_last l)]
  by_cases h : RulesW l
  · exact .inl ⟨if_pos h, h⟩
  · exact .inr ⟨if_neg h, h⟩
theorem cval_out {l : List Int} {i : Int} (hi : i < 24) (h : rd l i < rd params_Check.tb0_0 i ∨ rd l i > rd params_Check.tb0_1 i) : cval l i = 5 := by
  unfold cval
  rw [if_neg]
  intro g
  have := g i (Int.le_refl _) hi
  omega
theorem cval_on {l : List Int} {i : Int} (h1 : ¬ rd l i < rd params_Check.tb0_0 i) (h2 : ¬ rd l i > rd params_Check.tb0_1 i) : cval l i = cval l (i + 1) := by
  unfold cval
  have e : InRows l i ↔ InRows l (i + 1) := by
    refine ⟨fun h j a b => h j (by omega) b, fun h j a b => ?_⟩
    by_cases hj : j = i
    · subst hj; exact ⟨by omega, by omega⟩
    · exact h j (by omega) b
  by_cases g : InRows l i
  · rw [if_pos g, if_pos (e.1 g)]
  · rw [if_neg g, if_neg (fun h => g (e.2 h))]
theorem chv_zero {l : List Int} : chv l = 0 ↔ Sound l := by
  unfold chv cval Sound
  by_cases h : l.length = 24
  · by_cases g : InRows l 0
    · by_cases q : RulesW l
      · rw [if_pos h, if_pos g, if_pos q]; exact ⟨fun _ => ⟨h, g, q⟩, fun _ => rfl⟩
      · rw [if_pos h, if_pos g, if_neg q]; exact ⟨fun h => absurd h (by decide), fun h => absurd h.2.2 q⟩
    · rw [if_pos h, if_neg g]; exact ⟨fun h => absurd h (by decide), fun h => absurd h.2.1 g⟩
  · rw [if_neg h]; exact ⟨fun h => absurd h (by decide), fun g => absurd g.1 h⟩
theorem pchk_loop {l : List Int} (hl : l.length = 24) : ∀ (n : Nat) (i : Int), 0 ≤ i → i + n = 24 → Ev (fun k => params_Check.l0 k l i) (cval l i) := by
  have hL : (l.length : Int) = 24 := by omega
  intro n
  induction n with
  | zero =>
    intro i h0 h1
    have hi : i = 24 := by omega
    subst hi
    have hR : RulesW l = RulesW l := rfl
    conv at hR => rhs; unfold RulesW
    by_cases c1 : (wrap64 ((wrap64 ((wrap64 ((rd l 0) + (rd l 6))) + (wrap64 (2 * (mx (rd l 2) (rd l 4)))))) + 4)) > 64
    · have e : cval l 24 = 80 := by rcases cval_end l with h | h; exact absurd c1 (hR ▸ h.2).1; exact h.1
      exact Ev.step (f := fun _ => some (cval l 24)) (fun k => by rw [params_Check.l0, hL, e]; simp only [if_neg (show ¬ (24 : Int) < 24 by decide), if_pos (show (2 : Int) < 24 by decide), if_pos (show (4 : Int) < 24 by decide), if_pos (show (1 : Int) < 24 by decide), if_pos (show (3 : Int) < 24 by decide), if_pos (show (0 : Int) < 24 by decide), if_pos (show (6 : Int) < 24 by decide), if_pos c1]) (Ev.now _)
    · by_cases c2 : (rd l 12) < (wrap64 ((wrap64 (8 * (mx (rd l 1) (rd l 3)))) + 100))
      · have e : cval l 24 = 80 := by rcases cval_end l with h | h; exact absurd c2 (hR ▸ h.2).2.1; exact h.1
        exact Ev.step (f := fun _ => some (cval l 24)) (fun k => by rw [params_Check.l0, hL, e]; simp only [if_neg (show ¬ (24 : Int) < 24 by decide), if_pos (show (2 : Int) < 24 by decide), if_pos (show (4 : Int) < 24 by decide), if_pos (show (1 : Int) < 24 by decide), if_pos (show (3 : Int) < 24 by decide), if_pos (show (0 : Int) < 24 by decide), if_pos (show (6 : Int) < 24 by decide), if_neg c1, if_pos (show (12 : Int) < 24 by decide), if_pos c2]) (Ev.now _)
      · by_cases c3 : (rd l 11) > (rd l 10)
        · have e : cval l 24 = 80 := by rcases cval_end l with h | h; exact absurd c3 (hR ▸ h.2).2.2; exact h.1
          exact Ev.step (f := fun _ => some (cval l 24)) (fun k => by rw [params_Check.l0, hL, e]; simp only [if_neg (show ¬ (24 : Int) < 24 by decide), if_pos (show (2 : Int) < 24 by decide), if_pos (show (4 : Int) < 24 by decide), if_pos (show (1 : Int) < 24 by decide), if_pos (show (3 : Int) < 24 by decide), if_pos (show (0 : Int) < 24 by decide), if_pos (show (6 : Int) < 24 by decide), if_neg c1, if_pos (show (12 : Int) < 24 by decide), if_neg c2, if_pos (show (11 : Int) < 24 by decide), if_pos (show (10 : Int) < 24 by decide), if_pos c3]) (Ev.now _)
        · have e : cval l 24 = 0 := by
            rcases cval_end l with h | h
            · exact h.1
            · exact absurd (by rw [hR]; exact ⟨c1, c2, c3⟩) h.2
          exact Ev.step (f := fun _ => some (cval l 24)) (fun k => by rw [params_Check.l0, hL, e]; simp only [if_neg (show ¬ (24 : Int) < 24 by decide), if_pos (show (2 : Int) < 24 by decide), if_pos (show (4 : Int) < 24 by decide), if_pos (show (1 : Int) < 24 by decide), if_pos (show (3 : Int) < 24 by decide), if_pos (show (0 : Int) < 24 by decide), if_pos (show (6 : Int) < 24 by decide), if_neg c1, if_pos (show (12 : Int) < 24 by decide), if_neg c2, if_pos (show (11 : Int) < 24 by decide), if_pos (show (10 : Int) < 24 by decide), if_neg c3]) (Ev.now _)
  | succ n ih =>
    intro i h0 h1
    have hi : i < 24 := by omega
    have w : wrap64 (i + 1) = i + 1 := wsm (by omega) (by omega)
    have e1 := ih (i + 1) (by omega) (by omega)
    by_cases c1 : rd l i < rd params_Check.tb0_0 i
    · exact ev_eq (cval_out hi (.inl c1)) (Ev.step (f := fun _ => some 5) (fun k => by rw [params_Check.l0, hL, if_pos hi, if_pos h0, if_pos hi, if_pos c1]) (Ev.now 5))
    · by_cases c2 : rd l i > rd params_Check.tb0_1 i
      · exact ev_eq (cval_out hi (.inr c2)) (Ev.step (f := fun _ => some 5) (fun k => by rw [params_Check.l0, hL, if_pos hi, if_pos h0, if_pos hi, if_neg c1, if_pos c2]) (Ev.now 5))
      · exact ev_eq (cval_on c1 c2) (Ev.step (f := fun k => params_Check.l0 k l (i + 1)) (fun k => by rw [params_Check.l0, hL, if_pos hi, if_pos h0, if_pos hi, if_neg c1, if_neg c2, w]) e1)
theorem pcheck_ev (l : List Int) : Ev (fun k => params_Check.f k l) (chv l) := by
  by_cases hl : l.length = 24
  · refine ev_eq (if_pos hl) (Ev.congr (fun k => by rw [params_Check.f, if_pos (by omega)]) ?_)
    exact Ev.bind (Ev.now _) (pchk_loop hl 24 0 (by omega) (by omega))
  · exact ev_eq (if_neg hl) (Ev.congr (fun k => by rw [params_Check.f, if_neg (by omega)]) (Ev.now 3))
/-! ### the way of a velocity; rounding up -/
def Wv (v b : Int) : Int := v / b * v - b * (v / b * (v / b + 1) / 2)
theorem tri_even (n : Int) : 2 * (n * (n + 1) / 2) = n * (n + 1) := by
  have h : n * (n + 1) % 2 = 0 := by
    rw [Int.mul_emod, Int.add_emod]
    rcases Int.emod_two_eq n with h | h <;> rw [h] <;> rfl
  omega
theorem wv_bound {v b : Int} (hb : 1 ≤ b) (h0 : 0 ≤ v) : 0 ≤ Wv v b ∧ Wv v b ≤ v / b * v := by
  have n0 : 0 ≤ v / b := Int.ediv_nonneg h0 (by omega)
  have hq : v / b * b ≤ v := Int.ediv_mul_le _ (by omega)
  have ht := tri_even (v / b)
  unfold Wv
  generalize v / b = n at *
  have p0 : 0 ≤ n * (n + 1) := Int.mul_nonneg n0 (by omega)
  have pT : 0 ≤ b * (n * (n + 1) / 2) := Int.mul_nonneg (by omega) (by omega)
  refine ⟨?_, by omega⟩
  -- 2 b T = b n (n+1) ≤ v (n+1) ≤ 2 n v, unless n = 0
  by_cases z : n = 0
  · subst z; simp
  have q1 : b * (n * (n + 1)) = (n * b) * (n + 1) := by rw [← Int.mul_assoc, Int.mul_comm b n]
  have q2 : (n * b) * (n + 1) ≤ v * (n + 1) := Int.mul_le_mul_of_nonneg_right hq (by omega)
  have q3 : v * (n + 1) ≤ v * (2 * n) := Int.mul_le_mul_of_nonneg_left (by omega) h0
  have q4 : v * (2 * n) = 2 * (n * v) := by rw [Int.mul_comm 2 n, ← Int.mul_assoc, Int.mul_comm v n, Int.mul_comm]
  have q5 : b * (n * (n + 1)) = 2 * (b * (n * (n + 1) / 2)) := by rw [← ht, ← Int.mul_assoc, Int.mul_comm b 2, Int.mul_assoc]; congr 2; omega
  omega
theorem way_ev {v b : Int} (hb : 1 ≤ b) (h0 : 0 ≤ v) (hv : v ≤ 1000000000) (hb2 : b ≤ 1000000000) : params_way.f v b = some (Wv v b) := by
  have n0 : 0 ≤ v / b := Int.ediv_nonneg h0 (by omega)
  have n1 : v / b ≤ v := Int.ediv_le_self _ h0
  have wb := wv_bound hb h0
  have ht := tri_even (v / b)
  have p1 : 0 ≤ v / b * v := Int.mul_nonneg n0 h0
  have p2 : v / b * v ≤ 1000000000 * 1000000000 := Int.mul_le_mul (by omega) hv h0 (by omega)
  have p3 : v / b * (v / b + 1) ≤ 1000000000 * 1000000001 := Int.mul_le_mul (by omega) (by omega) (by omega) (by omega)
  have p4 : 0 ≤ v / b * (v / b + 1) := Int.mul_nonneg n0 (by omega)
  rw [params_way.f, if_neg (by omega), Int.tdiv_eq_ediv_of_nonneg h0]
  unfold Wv at wb ⊢
  generalize v / b = n at *
  rw [wsm (a := n) (by omega) (by omega), wsm (a := n * v) (by omega) (by omega), wsm (a := n + 1) (by omega) (by omega), wsm (a := n * (n + 1)) (by omega) (by omega), Int.tdiv_eq_ediv_of_nonneg p4]
  generalize n * (n + 1) / 2 = T at *
  rw [wsm (a := T) (by omega) (by omega)]
  generalize b * T = B at *
  generalize n * v = A at *
  rw [wsm (a := B) (by omega) (by omega), wsm (by omega) (by omega)]
def cup (a b : Int) : Int := if Int.tmod a b > 0 then Int.tdiv a b + 1 else Int.tdiv a b
theorem tdiv_le {a b : Int} (h0 : 0 ≤ a) (hb : 1 ≤ b) : 0 ≤ Int.tdiv a b ∧ Int.tdiv a b ≤ a := by
  rw [Int.tdiv_eq_ediv_of_nonneg h0]
  exact ⟨Int.ediv_nonneg h0 (by omega), Int.ediv_le_self _ h0⟩
theorem up_ev {a b : Int} (hb : 1 ≤ b) (h0 : 0 ≤ a) (ha : a ≤ 9000000000000000000) : params_up.f a b = some (cup a b) := by
  have t := tdiv_le h0 hb
  rw [params_up.f, fix_Up.f, if_neg (by omega), if_neg (by omega)]
  unfold cup
  rw [wsm (a := Int.tdiv a b) (by omega) (by omega), wsm (a := Int.tdiv a b + 1) (by omega) (by omega)]
  by_cases h : Int.tmod a b > 0
  · rw [if_pos h, if_pos h]; rfl
  · rw [if_neg h, if_neg h]; rfl
theorem cup_le {a b : Int} (hb : 1 ≤ b) (h0 : 0 ≤ a) : 0 ≤ cup a b ∧ cup a b ≤ a + 1 := by
  have t := tdiv_le h0 hb
  unfold cup
  split <;> omega

/-! ### what follows from sound parameters -/
def mB (l : List Int) : Int := 64 - rd l 0
def mD (l : List Int) : Int := rd l 0 + mx (rd l 2) (rd l 4) + 2
def mJ (l : List Int) : Int := 86 * (rd l 5 + 1)
def mF (l : List Int) : Int := mx (mx (rd l 7) (rd l 8)) (rd l 9) + 128 + mJ l + mD l
def mL (l : List Int) : Int := cup (Wv (mF l) (mB l)) 6400 + 12 * mx (rd l 1) (rd l 3) + 100
def mN (l : List Int) : Int := rd l 19 + Int.tdiv (1824 * rd l 20) 1024
theorem mx_cases (a b : Int) : (mx a b = a ∧ b ≤ a) ∨ (mx a b = b ∧ a ≤ b) := by
  unfold mx
  split <;> omega
structure Rows (l : List Int) : Prop where
  len : (l.length : Int) = 24
  r0 : 0 ≤ rd l 0 ∧ rd l 0 ≤ 16
  r1 : 1 ≤ rd l 1 ∧ rd l 1 ≤ 200
  r2 : 0 ≤ rd l 2 ∧ rd l 2 ≤ 16
  r3 : 1 ≤ rd l 3 ∧ rd l 3 ≤ 200
  r4 : 0 ≤ rd l 4 ∧ rd l 4 ≤ 16
  r5 : 0 ≤ rd l 5 ∧ rd l 5 ≤ 4
  r6 : 4 ≤ rd l 6 ∧ rd l 6 ≤ 32
  r7 : 1600 ≤ rd l 7 ∧ rd l 7 ≤ 64000
  r8 : 1600 ≤ rd l 8 ∧ rd l 8 ≤ 32000
  r9 : 2000 ≤ rd l 9 ∧ rd l 9 ≤ 16000
  r10 : 1000 ≤ rd l 10 ∧ rd l 10 ≤ 120000
  r19 : 0 ≤ rd l 19 ∧ rd l 19 ≤ 1000
  r20 : 0 ≤ rd l 20 ∧ rd l 20 ≤ 1000
theorem rows_of {l : List Int} (h : Sound l) : Rows l :=
  ⟨by have := h.1; omega, h.2.1 0 (by decide) (by decide), h.2.1 1 (by decide) (by decide), h.2.1 2 (by decide) (by decide), h.2.1 3 (by decide) (by decide), h.2.1 4 (by decide) (by decide), h.2.1 5 (by decide) (by decide), h.2.1 6 (by decide) (by decide), h.2.1 7 (by decide) (by decide), h.2.1 8 (by decide) (by decide), h.2.1 9 (by decide) (by decide), h.2.1 10 (by decide) (by decide), h.2.1 19 (by decide) (by decide), h.2.1 20 (by decide) (by decide)⟩
structure Marg (l : List Int) : Prop where
  b : 48 ≤ mB l ∧ mB l ≤ 64
  d : 2 ≤ mD l ∧ mD l ≤ 34
  j : 86 ≤ mJ l ∧ mJ l ≤ 430
  f : 2216 ≤ mF l ∧ mF l ≤ 64592
  w : 0 ≤ Wv (mF l) (mB l) ∧ Wv (mF l) (mB l) ≤ 10000000000
  u : 0 ≤ cup (Wv (mF l) (mB l)) 6400 ∧ cup (Wv (mF l) (mB l)) 6400 ≤ 10000000001
  p : 1 ≤ mx (rd l 1) (rd l 3) ∧ mx (rd l 1) (rd l 3) ≤ 200
  s : 0 ≤ mx (rd l 2) (rd l 4) ∧ mx (rd l 2) (rd l 4) ≤ 16
  c : 2000 ≤ mx (mx (rd l 7) (rd l 8)) (rd l 9) ∧ mx (mx (rd l 7) (rd l 8)) (rd l 9) ≤ 64000
  n : 0 ≤ Int.tdiv (1824 * rd l 20) 1024 ∧ Int.tdiv (1824 * rd l 20) 1024 ≤ 1824000
theorem marg_of {l : List Int} (R : Rows l) : Marg l := by
  obtain ⟨len, r0, r1, r2, r3, r4, r5, r6, r7, r8, r9, r10, r19, r20⟩ := R
  have m1 := mx_cases (rd l 1) (rd l 3)
  have m2 := mx_cases (rd l 2) (rd l 4)
  have m3 := mx_cases (rd l 7) (rd l 8)
  have m4 := mx_cases (mx (rd l 7) (rd l 8)) (rd l 9)
  have B : 48 ≤ mB l ∧ mB l ≤ 64 := by unfold mB; omega
  have D : 2 ≤ mD l ∧ mD l ≤ 34 := by unfold mD; omega
  have J : 86 ≤ mJ l ∧ mJ l ≤ 430 := by unfold mJ; omega
  have C : 2000 ≤ mx (mx (rd l 7) (rd l 8)) (rd l 9) ∧ mx (mx (rd l 7) (rd l 8)) (rd l 9) ≤ 64000 := by omega
  have F : 2216 ≤ mF l ∧ mF l ≤ 64592 := by unfold mF; omega
  have wb := wv_bound (v := mF l) (b := mB l) (by omega) (by omega)
  have n0 : 0 ≤ mF l / mB l := Int.ediv_nonneg (by omega) (by omega)
  have n1 : mF l / mB l ≤ mF l := Int.ediv_le_self _ (by omega)
  have p2 : mF l / mB l * mF l ≤ 100000 * 100000 := Int.mul_le_mul (by omega) (by omega) (by omega) (by omega)
  have W : 0 ≤ Wv (mF l) (mB l) ∧ Wv (mF l) (mB l) ≤ 10000000000 := ⟨wb.1, by omega⟩
  have u := cup_le (a := Wv (mF l) (mB l)) (b := 6400) (by decide) W.1
  have t := tdiv_le (a := 1824 * rd l 20) (b := 1024) (by omega) (by decide)
  exact ⟨B, D, J, F, W, ⟨u.1, by omega⟩, by omega, by omega, C, ⟨t.1, by omega⟩⟩
theorem w_B {l : List Int} (R : Rows l) : wrap64 (64 - rd l 0) = mB l := wsm (by have := R.r0; omega) (by have := R.r0; omega)
theorem w_D {l : List Int} (R : Rows l) : wrap64 ((wrap64 ((rd l 0) + (mx (rd l 2) (rd l 4)))) + 2) = mD l := by
  have M := (marg_of R).s
  have r := R.r0
  rw [wsm (a := rd l 0 + mx (rd l 2) (rd l 4)) (by omega) (by omega), wsm (by omega) (by omega)]; rfl
theorem w_J {l : List Int} (R : Rows l) : wrap64 (86 * (wrap64 ((rd l 5) + 1))) = mJ l := by
  have r := R.r5
  rw [wsm (a := rd l 5 + 1) (by omega) (by omega), wsm (by omega) (by omega)]; rfl
theorem w_F {l : List Int} (R : Rows l) : wrap64 ((wrap64 ((wrap64 ((mx (mx (rd l 7) (rd l 8)) (rd l 9)) + 128)) + mJ l)) + mD l) = mF l := by
  have M := marg_of R
  have c := M.c; have j := M.j; have d := M.d
  rw [wsm (a := mx (mx (rd l 7) (rd l 8)) (rd l 9) + 128) (by omega) (by omega), wsm (a := mx (mx (rd l 7) (rd l 8)) (rd l 9) + 128 + mJ l) (by omega) (by omega), wsm (by omega) (by omega)]; rfl
theorem w_L {l : List Int} (R : Rows l) : wrap64 ((wrap64 (cup (Wv (mF l) (mB l)) 6400 + (wrap64 (12 * (mx (rd l 1) (rd l 3)))))) + 100) = mL l := by
  have M := marg_of R
  have p := M.p; have u := M.u
  rw [wsm (a := 12 * mx (rd l 1) (rd l 3)) (by omega) (by omega), wsm (a := cup (Wv (mF l) (mB l)) 6400 + 12 * mx (rd l 1) (rd l 3)) (by omega) (by omega), wsm (by omega) (by omega)]; rfl
theorem w_N {l : List Int} (R : Rows l) : wrap64 ((rd l 19) + (wrap64 (Int.tdiv (wrap64 (1824 * (rd l 20))) 1024))) = mN l := by
  have M := marg_of R
  have n := M.n
  have r := R.r20; have q := R.r19
  rw [wsm (a := 1824 * rd l 20) (by omega) (by omega), wsm (a := Int.tdiv (1824 * rd l 20) 1024) (by omega) (by omega), wsm (by omega) (by omega)]; rfl
def mT (l : List Int) : Int × Int × Int × Int × Int × Int × Int := (mB l, mD l, mJ l, mF l, mL l, mN l, 0)
theorem pmarg_ok {l : List Int} (h : Sound l) : Ev (fun k => params_Margins.f k l) (mT l) := by
  have R := rows_of h
  have M := marg_of R
  have b := M.b; have f := M.f; have w := M.w
  have e0 := pcheck_ev l
  rw [chv_zero.2 h] at e0
  refine Ev.congr (fun k => by rw [params_Margins.f]) ?_
  refine Ev.bind e0 ?_
  have hw : params_way.f (mF l) (mB l) = some (Wv (mF l) (mB l)) := way_ev (by omega) (by omega) (by omega) (by omega)
  have hu : params_up.f (Wv (mF l) (mB l)) 6400 = some (cup (Wv (mF l) (mB l)) 6400) := up_ev (by decide) w.1 (by omega)
  refine Ev.congr (f := fun _ => some (mT l)) (fun k => ?_) (Ev.now _)
  rw [R.len, w_B R, w_D R, w_J R, w_F R, hw]
  simp only [if_true, Option.bind_some, hu]
  rw [w_L R, w_N R]
  rfl
theorem pmarg_no {l : List Int} (h : ¬ Sound l) : Ev (fun k => params_Margins.f k l) (0, 0, 0, 0, 0, 0, chv l) := by
  refine Ev.congr (fun k => by rw [params_Margins.f]) ?_
  refine Ev.bind (pcheck_ev l) ?_
  exact Ev.congr (fun k => by rw [if_neg (fun g => h (chv_zero.1 g))]) (Ev.now _)
theorem w_sat_id {a : Int} (h1 : -9223372036854775808 ≤ a) (h2 : a ≤ 9223372036854775807) : sat a = a := by unfold sat; rw [if_neg (by omega), if_neg (by omega)]
theorem w_add {a b : Int} (a1 : -4000000000000000000 ≤ a) (a2 : a ≤ 4000000000000000000) (b1 : -4000000000000000000 ≤ b) (b2 : b ≤ 4000000000000000000) : Ev (fun k => fix_Add.f k a b) (a + b) :=
  ev_eq (w_sat_id (by omega) (by omega)).symm (add_ev' ⟨by omega, by omega⟩ ⟨by omega, by omega⟩)
theorem w_sub {a b : Int} (a1 : -4000000000000000000 ≤ a) (a2 : a ≤ 4000000000000000000) (b1 : -4000000000000000000 ≤ b) (b2 : b ≤ 4000000000000000000) : Ev (fun k => fix_Sub.f k a b) (a - b) :=
  ev_eq (w_sat_id (by omega) (by omega)).symm (sub_ev' ⟨by omega, by omega⟩ ⟨by omega, by omega⟩)
set_option maxRecDepth 100000 in
theorem awake14_ev : Ev (fun k => windhoverlaw14_awake.f k) true := by
  have h : windhoverlaw14_awake.f 80 = some true := by decide +kernel
  exact Ev.of (fun k => windhoverlaw14_awake.mono k) h
theorem fin14 : Ev (fun k => (windhoverlaw14_awake.f k).bind fun t => some t) true := Ev.bind awake14_ev (Ev.now true)
theorem new_ok {l : List Int} (h : Sound l) : Ev (fun k => power_New.f k l) (l, mN l, false, 0, 0, 0) := by
  refine Ev.congr (fun k => by rw [power_New.f]) ?_
  refine Ev.bind (pmarg_ok h) ?_
  have hl : l.length = 24 := h.1
  exact Ev.congr (fun k => by rw [mT]; dsimp only; rw [if_pos rfl, if_pos (by omega)]) (Ev.now _)
theorem new_no {l : List Int} (h : ¬ Sound l) : Ev (fun k => power_New.f k l) ([], 0, false, 0, 0, chv l) := by
  refine Ev.congr (fun k => by rw [power_New.f]) ?_
  refine Ev.bind (pmarg_no h) ?_
  exact Ev.congr (fun k => by dsimp only; rw [if_neg (fun e => h (chv_zero.1 e))]) (Ev.now _)
/-- A tick of a battery that knows: what is left holds the charge. -/
theorem tick_ev {l : List Int} {d lo hi c t o off : Int} {told : Bool} (hl : l.length = 24) (ho : rd l 18 = off) (o0 : 0 ≤ off) (o1 : off ≤ 1000000) (d0 : 0 ≤ d) (d1 : d ≤ 3000) (t0 : 0 ≤ t) (t1 : t ≤ d) (p0 : -off ≤ o) (p1 : o ≤ off)
    (c0 : -100000000 ≤ c) (c1 : c ≤ 1125899906842624) (l0 : -200000000 ≤ lo) (l1 : lo ≤ c) (h0 : c ≤ hi) (h1 : hi ≤ 1125899916842624) :
    ∃ lo2 hi2, Ev (fun k => power_Battery_Step.f k l d true lo hi told (c - t + o)) (d, true, lo2, hi2) ∧ lo2 ≤ c - t ∧ c - t ≤ hi2 ∧ hi2 ≤ 1125899916842624 ∧ (lo - d ≤ lo2 ∨ c - t - 2000000 ≤ lo2) := by
  cases told with
  | false =>
    refine ⟨lo - d, hi, ?_, by omega, by omega, by omega, by omega⟩
    refine Ev.congr (fun k => by rw [power_Battery_Step.f, if_pos rfl]) ?_
    refine Ev.bind (w_sub (by omega) (by omega) (by omega) (by omega)) ?_
    exact Ev.congr (fun k => by rw [power_Battery_Step.off, if_neg (by decide)]) (Ev.now _)
  | true =>
    have m1 : mx (c - t + o - off) (lo - d) ≤ c - t ∧ lo - d ≤ mx (c - t + o - off) (lo - d) := by unfold mx; split <;> omega
    have m2 : c - t ≤ mn (c - t + o + off) hi ∧ mn (c - t + o + off) hi ≤ hi := by unfold mn; split <;> omega
    refine ⟨mx (c - t + o - off) (lo - d), mn (c - t + o + off) hi, ?_, m1.1, m2.1, by omega, .inl m1.2⟩
    refine Ev.congr (fun k => by rw [power_Battery_Step.f, if_pos rfl]) ?_
    refine Ev.bind (w_sub (by omega) (by omega) (by omega) (by omega)) ?_
    refine Ev.congr (fun k => by rw [power_Battery_Step.off, if_pos rfl, if_pos (by omega), ho]) ?_
    refine Ev.bind (w_sub (by omega) (by omega) (by omega) (by omega)) ?_
    refine Ev.bind (w_add (by omega) (by omega) (by omega) (by omega)) ?_
    exact Ev.congr (fun k => by rw [if_pos ⟨rfl, by omega⟩]) (Ev.now _)
theorem wneg {off : Int} (o0 : 0 ≤ off) (o1 : off ≤ 1000000) : wrap64 (-off) = -off := wsm (by omega) (by omega)
theorem wct {c t : Int} (k1 : -100000000 ≤ c) (c1 : c ≤ 1125899906842624) (t0 : 0 ≤ t) (t1 : t ≤ 3000) : wrap64 (c - t) = c - t := wsm (by omega) (by omega)
theorem wcto {c t o : Int} (k1 : -100000000 ≤ c) (c1 : c ≤ 1125899906842624) (t0 : 0 ≤ t) (t1 : t ≤ 3000) (p0 : -1000000 ≤ o) (p1 : o ≤ 1000000) : wrap64 (c - t + o) = c - t + o := wsm (by omega) (by omega)
theorem wnext {i : Nat} (h0 : 0 ≤ (i : Int)) (h : (i : Int) ≤ ((4000 : Nat) : Int)) : wrap64 ((i : Int) + 1) = ((i + 1 : Nat) : Int) := by rw [wsm (by omega) (by omega)]; omega
theorem loop_ev {l : List Int} {us : List S58} {d off : Int} {x0 x1 x2 x3 x4 : Int} (hl : l.length = 24) (ho : rd l 18 = off) (o0 : 0 ≤ off) (o1 : off ≤ 1000000) (d0 : 0 ≤ d) (d1 : d ≤ 3000) (hu : us.length ≤ 4000) :
    ∀ (n i : Nat) (c lo hi : Int), i + n = us.length → -3000 * (i : Int) ≤ c → c ≤ 1125899906842624 → -2000000 - 3000 * (i : Int) ≤ lo → lo ≤ c → c ≤ hi → hi ≤ 1125899916842624 →
      Ev (fun k => windhoverlaw14_PowerHolds.l0 k c us off (i : Int) l d true lo hi x0 x1 x2 x3 x4 d) true := by
  intro n
  induction n with
  | zero =>
    intro i c lo hi hi_ _ _ _ _ _ _
    exact Ev.step (f := fun k => (windhoverlaw14_awake.f k).bind fun t => some t) (fun k => by rw [windhoverlaw14_PowerHolds.l0, if_neg (by omega)]) fin14
  | succ n ih =>
    intro i c lo hi hi_ c0 c1 l0 l1 h0 h1
    have f1 : (i : Int) < (us.length : Int) := by omega
    have f2 : 0 ≤ (i : Int) := by omega
    obtain ⟨t, ht⟩ : ∃ t, (rd_T58 us (i : Int)).f0 = t := ⟨_, rfl⟩
    obtain ⟨o, ho2⟩ : ∃ o, (rd_T58 us (i : Int)).f1 = o := ⟨_, rfl⟩
    obtain ⟨b, hb⟩ : ∃ b, (rd_T58 us (i : Int)).f2 = b := ⟨_, rfl⟩
    by_cases q1 : t < 0
    · exact Ev.step (f := fun k => (windhoverlaw14_awake.f k).bind fun t => some t) (fun k => by rw [windhoverlaw14_PowerHolds.l0, if_pos f1, if_pos f2, ht, if_pos q1]) fin14
    by_cases q2 : t > d
    · exact Ev.step (f := fun k => (windhoverlaw14_awake.f k).bind fun t => some t) (fun k => by rw [windhoverlaw14_PowerHolds.l0, if_pos f1, if_pos f2, ht, if_neg q1, if_pos q2]) fin14
    by_cases q3 : o < -off
    · exact Ev.step (f := fun k => (windhoverlaw14_awake.f k).bind fun t => some t) (fun k => by rw [windhoverlaw14_PowerHolds.l0, if_pos f1, if_pos f2, ht, ho2, wneg o0 o1, if_neg q1, if_neg q2, if_pos q3]) fin14
    by_cases q4 : o > off
    · exact Ev.step (f := fun k => (windhoverlaw14_awake.f k).bind fun t => some t) (fun k => by rw [windhoverlaw14_PowerHolds.l0, if_pos f1, if_pos f2, ht, ho2, wneg o0 o1, if_neg q1, if_neg q2, if_neg q3, if_pos q4]) fin14
    have k1 : -100000000 ≤ c := by clear ht ho2 hb ih; omega
    have k2 : -200000000 ≤ lo := by clear ht ho2 hb ih; omega
    obtain ⟨lo2, hi2, hs, s1, s2, s3, s4⟩ := tick_ev (l := l) (d := d) (lo := lo) (hi := hi) (c := c) (t := t) (o := o) (off := off) (told := b) hl ho o0 o1 d0 d1 (Int.not_lt.mp q1) (Int.not_lt.mp q2) (Int.not_lt.mp q3) (Int.not_lt.mp q4) k1 c1 k2 l1 h0 h1
    have z1 : i + 1 + n = us.length := by omega
    have z2 : -3000 * ((i + 1 : Nat) : Int) ≤ c - t := by clear hs ht ho2 hb ih; omega
    have z3 : c - t ≤ 1125899906842624 := by clear hs ht ho2 hb ih; omega
    have z4 : -2000000 - 3000 * ((i + 1 : Nat) : Int) ≤ lo2 := by clear hs ht ho2 hb ih; omega
    have IH := ih (i + 1) (c - t) lo2 hi2 z1 z2 z3 z4 s1 s2 s3
    refine Ev.step (fun k => by rw [windhoverlaw14_PowerHolds.l0, if_pos f1, if_pos f2, ht, ho2, hb, wneg o0 o1, wct k1 c1 (Int.not_lt.mp q1) (Int.le_trans (Int.not_lt.mp q2) d1), wcto k1 c1 (Int.not_lt.mp q1) (Int.le_trans (Int.not_lt.mp q2) d1) (Int.le_trans (Int.neg_le_neg o1) (Int.not_lt.mp q3)) (Int.le_trans (Int.not_lt.mp q4) o1), wnext f2 (Int.le_trans (Int.le_of_lt f1) (Int.ofNat_le.mpr hu)), if_neg q1, if_neg q2, if_neg q3, if_neg q4]) ?_
    refine Ev.bind hs ?_
    refine Ev.congr (f := fun k => windhoverlaw14_PowerHolds.l0 k (c - t) us off ((i + 1 : Nat) : Int) l d true lo2 hi2 x0 x1 x2 x3 x4 d) (fun k => ?_) IH
    dsimp only
    rw [power_Battery_Left.f, Option.bind_some]
    dsimp only
    rw [if_pos rfl, if_neg (Int.not_lt.mpr s1), if_neg (Int.not_lt.mpr s2)]
theorem PowerHolds : windhoverlaw14_PowerHolds.Pure := by
  intro l c us _ _ _ _ _ _
  apply Ev.rounds
  refine Ev.congr (fun k => by rw [windhoverlaw14_PowerHolds.f]) ?_
  by_cases h : Sound l
  · refine Ev.bind (new_ok h) ?_
    dsimp only
    refine Ev.congr (fun k => by rw [if_pos rfl]) ?_
    refine Ev.bind (pmarg_ok h) ?_
    have R := rows_of h
    have hl : l.length = 24 := h.1
    have hN : 0 ≤ mN l ∧ mN l ≤ 3000 := by
      have a1 := R.r19
      have a2 := R.r20
      unfold mN
      rw [Int.tdiv_eq_ediv_of_nonneg (by omega)]
      omega
    have hO : 0 ≤ rd l 18 ∧ rd l 18 ≤ 1000000 := by
      have a := h.2.1 18 (by decide) (by decide)
      rw [show rd params_Check.tb0_0 18 = 0 from rfl, show rd params_Check.tb0_1 18 = 1000000 from rfl] at a
      exact a
    rw [mT]
    dsimp only
    refine Ev.congr (fun k => by rw [if_pos rfl, if_neg (by decide)]) ?_
    by_cases q1 : c < 0
    · exact Ev.congr (fun k => by rw [if_pos q1]) fin14
    by_cases q2 : c > 1125899906842624
    · exact Ev.congr (fun k => by rw [if_neg q1, if_pos q2]) fin14
    by_cases q3 : (us.length : Int) > 4000
    · exact Ev.congr (fun k => by rw [if_neg q1, if_neg q2, if_pos q3]) fin14
    refine Ev.congr (fun k => by rw [if_neg q1, if_neg q2, if_neg q3, if_pos (by omega)]) ?_
    have hs : Ev (fun k => power_Battery_Step.f k l (mN l) false 0 0 true c) (mN l, true, c - rd l 18, c + rd l 18) := by
      refine Ev.congr (fun k => by rw [power_Battery_Step.f, if_neg (by decide), power_Battery_Step.off, if_pos rfl, if_pos (by omega)]) ?_
      refine Ev.bind (w_sub (by omega) (by omega) (by omega) (by omega)) ?_
      refine Ev.bind (w_add (by omega) (by omega) (by omega) (by omega)) ?_
      exact Ev.congr (fun k => by rw [if_neg (by simp)]) (Ev.now _)
    refine Ev.bind hs ?_
    dsimp only
    exact loop_ev hl rfl hO.1 hO.2 hN.1 hN.2 (by omega) us.length 0 c _ _ (by omega) (by omega) (by omega) (by omega) (by omega) (by omega) (by omega)
  · refine Ev.bind (new_no h) ?_
    have hc : ¬ chv l = 0 := fun e => h (chv_zero.1 e)
    dsimp only
    refine Ev.congr (fun k => by rw [if_neg hc]) ?_
    refine Ev.bind (pmarg_no h) ?_
    dsimp only
    refine Ev.congr (f := fun k => (windhoverlaw14_awake.f k).bind fun t => some t) (fun k => ?_) fin14
    rw [if_pos rfl, if_neg (by simp [hc])]

end Go.Proofs.Ytmmlahckcgjofaa.Pure
