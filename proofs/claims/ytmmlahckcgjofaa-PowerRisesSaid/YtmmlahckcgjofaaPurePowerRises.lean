/- The plain law of PowerRises. -/
import Derived.Test.YtmmlahckcgjofaaPPowerRisesx6
namespace Go.Proofs.Ytmmlahckcgjofaa.Pure
open Go.RowKit Go.Proofs.Ytmmlahckcgjofaa.PPowerRises Go.Proofs.YtmmlahckcgjofaaW.PrintWords Go.Proofs.YtmmlahckcgjofaaW.PrintLast

set_option linter.unusedVariables false
set_option linter.unusedSimpArgs false
theorem Ev.now {α : Type} (r : α) : Ev (fun _ => some r) r := ⟨0, fun _ _ => rfl⟩

theorem wsm {a : Int} (h1 : -9223372036854775808 ≤ a) (h2 : a ≤ 9223372036854775807) : wrap64 a = a := by unfold wrap64; omega
theorem ev_eq {α : Type} {g : Nat → Option α} {r s : α} (h : r = s) (e : Ev g s) : Ev g r := h ▸ e
def I64 (n : Int) : Prop := -9223372036854775808 ≤ n ∧ n ≤ 9223372036854775807

def sat (n : Int) : Int := if n > 9223372036854775807 then 9223372036854775807 else if n < -9223372036854775808 then -9223372036854775808 else n

/-! ### Add, Sub, Mul: kept within an int -/
theorem add_ev' {a b : Int} (ha : I64 a) (hb : I64 b) : Ev (fun k => fix_Add.f k a b) (sat (a + b)) := by
  have key : ∀ c : Bool, c = decide (a > 0 ∧ b > 0 ∧ wrap64 (a + b) < 0) → Ev (fun k => fix_Add.j0 k a b (wrap64 (a + b)) c) (sat (a + b)) := by
    intro c hc
    refine Ev.step (f := fun _ => some (sat (a + b))) (fun k => ?_) (Ev.now _)
    rw [fix_Add.j0]
    unfold I64 at *
    have hw : (wrap64 (a + b) = a + b ∧ -9223372036854775808 ≤ a + b ∧ a + b ≤ 9223372036854775807) ∨ (wrap64 (a + b) = a + b - 18446744073709551616 ∧ a + b > 9223372036854775807) ∨ (wrap64 (a + b) = a + b + 18446744073709551616 ∧ a + b < -9223372036854775808) := by
      unfold wrap64; omega
    generalize wrap64 (a + b) = s at *
    unfold sat
    by_cases h : a > 0 ∧ b > 0 ∧ s < 0
    · rw [hc, if_pos (by simpa using h)]
      rw [if_pos (by omega)]
    · rw [hc, if_neg (by simpa using h)]
      by_cases h1 : a < 0
      · rw [if_pos h1]
        by_cases h2 : b < 0
        · rw [if_pos h2]
          by_cases h3 : s ≥ 0
          · rw [if_pos h3, if_neg (by omega), if_pos (by omega)]
          · rw [if_neg h3, if_neg (by omega), if_neg (by omega)]; congr 1; omega
        · rw [if_neg h2, if_neg (by omega), if_neg (by omega)]; congr 1; omega
      · rw [if_neg h1, if_neg (by omega), if_neg (by omega)]; congr 1; omega
  by_cases h1 : a > 0
  · by_cases h2 : b > 0
    · exact Ev.congr (fun k => by rw [fix_Add.f, if_pos h1, if_pos h2]) (key _ (by simp [h1, h2]))
    · exact Ev.congr (fun k => by rw [fix_Add.f, if_pos h1, if_neg h2]) (key _ (by simp [h2]))
  · exact Ev.congr (fun k => by rw [fix_Add.f, if_neg h1]) (key _ (by simp [h1]))
theorem sub_ev' {a b : Int} (ha : I64 a) (hb : I64 b) : Ev (fun k => fix_Sub.f k a b) (sat (a - b)) := by
  have key : ∀ c : Bool, c = decide (a ≥ 0 ∧ b < 0 ∧ wrap64 (a - b) < 0) → Ev (fun k => fix_Sub.j0 k a b (wrap64 (a - b)) c) (sat (a - b)) := by
    intro c hc
    refine Ev.step (f := fun _ => some (sat (a - b))) (fun k => ?_) (Ev.now _)
    rw [fix_Sub.j0]
    unfold I64 at *
    have hw : (wrap64 (a - b) = a - b ∧ -9223372036854775808 ≤ a - b ∧ a - b ≤ 9223372036854775807) ∨ (wrap64 (a - b) = a - b - 18446744073709551616 ∧ a - b > 9223372036854775807) ∨ (wrap64 (a - b) = a - b + 18446744073709551616 ∧ a - b < -9223372036854775808) := by
      unfold wrap64; omega
    generalize wrap64 (a - b) = s at *
    unfold sat
    by_cases h : a ≥ 0 ∧ b < 0 ∧ s < 0
    · rw [hc, if_pos (by simpa using h)]
      rw [if_pos (by omega)]
    · rw [hc, if_neg (by simpa using h)]
      by_cases h1 : a < 0
      · rw [if_pos h1]
        by_cases h2 : b > 0
        · rw [if_pos h2]
          by_cases h3 : s ≥ 0
          · rw [if_pos h3, if_neg (by omega), if_pos (by omega)]
          · rw [if_neg h3, if_neg (by omega), if_neg (by omega)]; congr 1; omega
        · rw [if_neg h2, if_neg (by omega), if_neg (by omega)]; congr 1; omega
      · rw [if_neg h1, if_neg (by omega), if_neg (by omega)]; congr 1; omega
  by_cases h1 : a ≥ 0
  · by_cases h2 : b < 0
    · exact Ev.congr (fun k => by rw [fix_Sub.f, if_pos h1, if_pos h2]) (key _ (by simp [h1, h2]))
    · exact Ev.congr (fun k => by rw [fix_Sub.f, if_pos h1, if_neg h2]) (key _ (by simp [h2]))
  · exact Ev.congr (fun k => by rw [fix_Sub.f, if_neg h1]) (key _ (by simp [h1]))

/-! ### params.Check and the document's -/
def RulesW (l : List Int) : Prop := ¬ (wrap64 ((wrap64 ((wrap64 ((rd l 0) + (rd l 6))) + (wrap64 (2 * (mx (rd l 2) (rd l 4)))))) + 4)) > 64 ∧ ¬ (rd l 12) < (wrap64 ((wrap64 (8 * (mx (rd l 1) (rd l 3)))) + 100)) ∧ ¬ (rd l 11) > (rd l 10)
def InRows (l : List Int) (i : Int) : Prop := ∀ j, i ≤ j → j < 24 → rd params_Check.tb0_0 j ≤ rd l j ∧ rd l j ≤ rd params_Check.tb0_1 j
open Classical in
noncomputable def cval (l : List Int) (i : Int) : Int := if InRows l i then (if RulesW l then 0 else 80) else 5
def Sound (l : List Int) : Prop := l.length = 24 ∧ InRows l 0 ∧ RulesW l
open Classical in
noncomputable def chv (l : List Int) : Int := if l.length = 24 then cval l 0 else 3
theorem inrows_last (l : List Int) : InRows l 24 := fun j h2 h3 => by omega
theorem cval_end (l : List Int) : cval l 24 = 0 ∧ RulesW l ∨ cval l 24 = 80 ∧ ¬ RulesW l := by
  unfold cval
  rw [if_pos (inrows_last l)]
  by_cases h : RulesW l
  · exact .inl ⟨if_pos h, h⟩
  · exact .inr ⟨if_neg h, h⟩
theorem cval_out {l : List Int} {i : Int} (hi : i < 24) (h : rd l i < rd params_Check.tb0_0 i ∨ rd l i > rd params_Check.tb0_1 i) : cval l i = 5 := by
  unfold cval
  rw [if_neg]
  intro g
  have := g i (Int.le_refl _) hi
  omega
theorem cval_on {l : List Int} {i : Int} (h1 : ¬ rd l i < rd params_Check.tb0_0 i) (h2 : ¬ rd l i > rd params_Check.tb0_1 i) : cval l i = cval l (i + 1) := by
  unfold cval
  have e : InRows l i ↔ InRows l (i + 1) := by
    refine ⟨fun h j a b => h j (by omega) b, fun h j a b => ?_⟩
    by_cases hj : j = i
    · subst hj; exact ⟨by omega, by omega⟩
    · exact h j (by omega) b
  by_cases g : InRows l i
  · rw [if_pos g, if_pos (e.1 g)]
  · rw [if_neg g, if_neg (fun h => g (e.2 h))]
theorem chv_zero {l : List Int} : chv l = 0 ↔ Sound l := by
  unfold chv cval Sound
  by_cases h : l.length = 24
  · by_cases g : InRows l 0
    · by_cases q : RulesW l
      · rw [if_pos h, if_pos g, if_pos q]; exact ⟨fun _ => ⟨h, g, q⟩, fun _ => rfl⟩
      · rw [if_pos h, if_pos g, if_neg q]; exact ⟨fun h => absurd h (by decide), fun h => absurd h.2.2 q⟩
    · rw [if_pos h, if_neg g]; exact ⟨fun h => absurd h (by decide), fun h => absurd h.2.1 g⟩
  · rw [if_neg h]; exact ⟨fun h => absurd h (by decide), fun g => absurd g.1 h⟩
theorem pchk_loop {l : List Int} (hl : l.length = 24) : ∀ (n : Nat) (i : Int), 0 ≤ i → i + n = 24 → Ev (fun k => params_Check.l0 k l i) (cval l i) := by
  have hL : (l.length : Int) = 24 := by omega
  intro n
  induction n with
  | zero =>
    intro i h0 h1
    have hi : i = 24 := by omega
    subst hi
    have hR : RulesW l = RulesW l := rfl
    conv at hR => rhs; unfold RulesW
    by_cases c1 : (wrap64 ((wrap64 ((wrap64 ((rd l 0) + (rd l 6))) + (wrap64 (2 * (mx (rd l 2) (rd l 4)))))) + 4)) > 64
    · have e : cval l 24 = 80 := by rcases cval_end l with h | h; exact absurd c1 (hR ▸ h.2).1; exact h.1
      exact Ev.step (f := fun _ => some (cval l 24)) (fun k => by rw [params_Check.l0, hL, e]; simp only [if_neg (show ¬ (24 : Int) < 24 by decide), if_pos (show (2 : Int) < 24 by decide), if_pos (show (4 : Int) < 24 by decide), if_pos (show (1 : Int) < 24 by decide), if_pos (show (3 : Int) < 24 by decide), if_pos (show (0 : Int) < 24 by decide), if_pos (show (6 : Int) < 24 by decide), if_pos c1]) (Ev.now _)
    · by_cases c2 : (rd l 12) < (wrap64 ((wrap64 (8 * (mx (rd l 1) (rd l 3)))) + 100))
      · have e : cval l 24 = 80 := by rcases cval_end l with h | h; exact absurd c2 (hR ▸ h.2).2.1; exact h.1
        exact Ev.step (f := fun _ => some (cval l 24)) (fun k => by rw [params_Check.l0, hL, e]; simp only [if_neg (show ¬ (24 : Int) < 24 by decide), if_pos (show (2 : Int) < 24 by decide), if_pos (show (4 : Int) < 24 by decide), if_pos (show (1 : Int) < 24 by decide), if_pos (show (3 : Int) < 24 by decide), if_pos (show (0 : Int) < 24 by decide), if_pos (show (6 : Int) < 24 by decide), if_neg c1, if_pos (show (12 : Int) < 24 by decide), if_pos c2]) (Ev.now _)
      · by_cases c3 : (rd l 11) > (rd l 10)
        · have e : cval l 24 = 80 := by rcases cval_end l with h | h; exact absurd c3 (hR ▸ h.2).2.2; exact h.1
          exact Ev.step (f := fun _ => some (cval l 24)) (fun k => by rw [params_Check.l0, hL, e]; simp only [if_neg (show ¬ (24 : Int) < 24 by decide), if_pos (show (2 : Int) < 24 by decide), if_pos (show (4 : Int) < 24 by decide), if_pos (show (1 : Int) < 24 by decide), if_pos (show (3 : Int) < 24 by decide), if_pos (show (0 : Int) < 24 by decide), if_pos (show (6 : Int) < 24 by decide), if_neg c1, if_pos (show (12 : Int) < 24 by decide), if_neg c2, if_pos (show (11 : Int) < 24 by decide), if_pos (show (10 : Int) < 24 by decide), if_pos c3]) (Ev.now _)
        · have e : cval l 24 = 0 := by
            rcases cval_end l with h | h
            · exact h.1
            · exact absurd (by rw [hR]; exact ⟨c1, c2, c3⟩) h.2
          exact Ev.step (f := fun _ => some (cval l 24)) (fun k => by rw [params_Check.l0, hL, e]; simp only [if_neg (show ¬ (24 : Int) < 24 by decide), if_pos (show (2 : Int) < 24 by decide), if_pos (show (4 : Int) < 24 by decide), if_pos (show (1 : Int) < 24 by decide), if_pos (show (3 : Int) < 24 by decide), if_pos (show (0 : Int) < 24 by decide), if_pos (show (6 : Int) < 24 by decide), if_neg c1, if_pos (show (12 : Int) < 24 by decide), if_neg c2, if_pos (show (11 : Int) < 24 by decide), if_pos (show (10 : Int) < 24 by decide), if_neg c3]) (Ev.now _)
  | succ n ih =>
    intro i h0 h1
    have hi : i < 24 := by omega
    have w : wrap64 (i + 1) = i + 1 := wsm (by omega) (by omega)
    have e1 := ih (i + 1) (by omega) (by omega)
    by_cases c1 : rd l i < rd params_Check.tb0_0 i
    · exact ev_eq (cval_out hi (.inl c1)) (Ev.step (f := fun _ => some 5) (fun k => by rw [params_Check.l0, hL, if_pos hi, if_pos h0, if_pos hi, if_pos c1]) (Ev.now 5))
    · by_cases c2 : rd l i > rd params_Check.tb0_1 i
      · exact ev_eq (cval_out hi (.inr c2)) (Ev.step (f := fun _ => some 5) (fun k => by rw [params_Check.l0, hL, if_pos hi, if_pos h0, if_pos hi, if_neg c1, if_pos c2]) (Ev.now 5))
      · exact ev_eq (cval_on c1 c2) (Ev.step (f := fun k => params_Check.l0 k l (i + 1)) (fun k => by rw [params_Check.l0, hL, if_pos hi, if_pos h0, if_pos hi, if_neg c1, if_neg c2, w]) e1)
theorem pcheck_ev (l : List Int) : Ev (fun k => params_Check.f k l) (chv l) := by
  by_cases hl : l.length = 24
  · refine ev_eq (if_pos hl) (Ev.congr (fun k => by rw [params_Check.f, if_pos (by omega)]) ?_)
    exact Ev.bind (Ev.now _) (pchk_loop hl 24 0 (by omega) (by omega))
  · exact ev_eq (if_neg hl) (Ev.congr (fun k => by rw [params_Check.f, if_neg (by omega)]) (Ev.now 3))
/-! ### the way of a velocity; rounding up -/
def Wv (v b : Int) : Int := v / b * v - b * (v / b * (v / b + 1) / 2)
theorem tri_even (n : Int) : 2 * (n * (n + 1) / 2) = n * (n + 1) := by
  have h : n * (n + 1) % 2 = 0 := by
    rw [Int.mul_emod, Int.add_emod]
    rcases Int.emod_two_eq n with h | h <;> rw [h] <;> rfl
  omega
theorem wv_bound {v b : Int} (hb : 1 ≤ b) (h0 : 0 ≤ v) : 0 ≤ Wv v b ∧ Wv v b ≤ v / b * v := by
  have n0 : 0 ≤ v / b := Int.ediv_nonneg h0 (by omega)
  have hq : v / b * b ≤ v := Int.ediv_mul_le _ (by omega)
  have ht := tri_even (v / b)
  unfold Wv
  generalize v / b = n at *
  have p0 : 0 ≤ n * (n + 1) := Int.mul_nonneg n0 (by omega)
  have pT : 0 ≤ b * (n * (n + 1) / 2) := Int.mul_nonneg (by omega) (by omega)
  refine ⟨?_, by omega⟩
  -- 2 b T = b n (n+1) ≤ v (n+1) ≤ 2 n v, unless n = 0
  by_cases z : n = 0
  · subst z; simp
  have q1 : b * (n * (n + 1)) = (n * b) * (n + 1) := by rw [← Int.mul_assoc, Int.mul_comm b n]
  have q2 : (n * b) * (n + 1) ≤ v * (n + 1) := Int.mul_le_mul_of_nonneg_right hq (by omega)
  have q3 : v * (n + 1) ≤ v * (2 * n) := Int.mul_le_mul_of_nonneg_left (by omega) h0
  have q4 : v * (2 * n) = 2 * (n * v) := by rw [Int.mul_comm 2 n, ← Int.mul_assoc, Int.mul_comm v n, Int.mul_comm]
  have q5 : b * (n * (n + 1)) = 2 * (b * (n * (n + 1) / 2)) := by rw [← ht, ← Int.mul_assoc, Int.mul_comm b 2, Int.mul_assoc]; congr 2; omega
  omega
theorem way_ev {v b : Int} (hb : 1 ≤ b) (h0 : 0 ≤ v) (hv : v ≤ 1000000000) (hb2 : b ≤ 1000000000) : params_way.f v b = some (Wv v b) := by
  have n0 : 0 ≤ v / b := Int.ediv_nonneg h0 (by omega)
  have n1 : v / b ≤ v := Int.ediv_le_self _ h0
  have wb := wv_bound hb h0
  have ht := tri_even (v / b)
  have p1 : 0 ≤ v / b * v := Int.mul_nonneg n0 h0
  have p2 : v / b * v ≤ 1000000000 * 1000000000 := Int.mul_le_mul (by omega) hv h0 (by omega)
  have p3 : v / b * (v / b + 1) ≤ 1000000000 * 1000000001 := Int.mul_le_mul (by omega) (by omega) (by omega) (by omega)
  have p4 : 0 ≤ v / b * (v / b + 1) := Int.mul_nonneg n0 (by omega)
  rw [params_way.f, if_neg (by omega), Int.tdiv_eq_ediv_of_nonneg h0]
  unfold Wv at wb ⊢
  generalize v / b = n at *
  rw [wsm (a := n) (by omega) (by omega), wsm (a := n * v) (by omega) (by omega), wsm (a := n + 1) (by omega) (by omega), wsm (a := n * (n + 1)) (by omega) (by omega), Int.tdiv_eq_ediv_of_nonneg p4]
  generalize n * (n + 1) / 2 = T at *
  rw [wsm (a := T) (by omega) (by omega)]
  generalize b * T = B at *
  generalize n * v = A at *
  rw [wsm (a := B) (by omega) (by omega), wsm (by omega) (by omega)]
def cup (a b : Int) : Int := if Int.tmod a b > 0 then Int.tdiv a b + 1 else Int.tdiv a b
theorem tdiv_le {a b : Int} (h0 : 0 ≤ a) (hb : 1 ≤ b) : 0 ≤ Int.tdiv a b ∧ Int.tdiv a b ≤ a := by
  rw [Int.tdiv_eq_ediv_of_nonneg h0]
  exact ⟨Int.ediv_nonneg h0 (by omega), Int.ediv_le_self _ h0⟩
theorem up_ev {a b : Int} (hb : 1 ≤ b) (h0 : 0 ≤ a) (ha : a ≤ 9000000000000000000) : params_up.f a b = some (cup a b) := by
  have t := tdiv_le h0 hb
  rw [params_up.f, fix_Up.f, if_neg (by omega), if_neg (by omega)]
  unfold cup
  rw [wsm (a := Int.tdiv a b) (by omega) (by omega), wsm (a := Int.tdiv a b + 1) (by omega) (by omega)]
  by_cases h : Int.tmod a b > 0
  · rw [if_pos h, if_pos h]; rfl
  · rw [if_neg h, if_neg h]; rfl
theorem cup_le {a b : Int} (hb : 1 ≤ b) (h0 : 0 ≤ a) : 0 ≤ cup a b ∧ cup a b ≤ a + 1 := by
  have t := tdiv_le h0 hb
  unfold cup
  split <;> omega

/-! ### what follows from sound parameters -/
def mB (l : List Int) : Int := 64 - rd l 0
def mD (l : List Int) : Int := rd l 0 + mx (rd l 2) (rd l 4) + 2
def mJ (l : List Int) : Int := 86 * (rd l 5 + 1)
def mF (l : List Int) : Int := mx (mx (rd l 7) (rd l 8)) (rd l 9) + 128 + mJ l + mD l
def mL (l : List Int) : Int := cup (Wv (mF l) (mB l)) 6400 + 12 * mx (rd l 1) (rd l 3) + 100
def mN (l : List Int) : Int := rd l 19 + Int.tdiv (1824 * rd l 20) 1024
theorem mx_cases (a b : Int) : (mx a b = a ∧ b ≤ a) ∨ (mx a b = b ∧ a ≤ b) := by
  unfold mx
  split <;> omega
structure Rows (l : List Int) : Prop where
  len : (l.length : Int) = 24
  r0 : 0 ≤ rd l 0 ∧ rd l 0 ≤ 16
  r1 : 1 ≤ rd l 1 ∧ rd l 1 ≤ 200
  r2 : 0 ≤ rd l 2 ∧ rd l 2 ≤ 16
  r3 : 1 ≤ rd l 3 ∧ rd l 3 ≤ 200
  r4 : 0 ≤ rd l 4 ∧ rd l 4 ≤ 16
  r5 : 0 ≤ rd l 5 ∧ rd l 5 ≤ 4
  r6 : 4 ≤ rd l 6 ∧ rd l 6 ≤ 32
  r7 : 1600 ≤ rd l 7 ∧ rd l 7 ≤ 64000
  r8 : 1600 ≤ rd l 8 ∧ rd l 8 ≤ 32000
  r9 : 2000 ≤ rd l 9 ∧ rd l 9 ≤ 16000
  r10 : 1000 ≤ rd l 10 ∧ rd l 10 ≤ 120000
  r19 : 0 ≤ rd l 19 ∧ rd l 19 ≤ 1000
  r20 : 0 ≤ rd l 20 ∧ rd l 20 ≤ 1000
theorem rows_of {l : List Int} (h : Sound l) : Rows l :=
  ⟨by have := h.1; omega, h.2.1 0 (by decide) (by decide), h.2.1 1 (by decide) (by decide), h.2.1 2 (by decide) (by decide), h.2.1 3 (by decide) (by decide), h.2.1 4 (by decide) (by decide), h.2.1 5 (by decide) (by decide), h.2.1 6 (by decide) (by decide), h.2.1 7 (by decide) (by decide), h.2.1 8 (by decide) (by decide), h.2.1 9 (by decide) (by decide), h.2.1 10 (by decide) (by decide), h.2.1 19 (by decide) (by decide), h.2.1 20 (by decide) (by decide)⟩
structure Marg (l : List Int) : Prop where
  b : 48 ≤ mB l ∧ mB l ≤ 64
  d : 2 ≤ mD l ∧ mD l ≤ 34
  j : 86 ≤ mJ l ∧ mJ l ≤ 430
  f : 2216 ≤ mF l ∧ mF l ≤ 64592
  w : 0 ≤ Wv (mF l) (mB l) ∧ Wv (mF l) (mB l) ≤ 10000000000
  u : 0 ≤ cup (Wv (mF l) (mB l)) 6400 ∧ cup (Wv (mF l) (mB l)) 6400 ≤ 10000000001
  p : 1 ≤ mx (rd l 1) (rd l 3) ∧ mx (rd l 1) (rd l 3) ≤ 200
  s : 0 ≤ mx (rd l 2) (rd l 4) ∧ mx (rd l 2) (rd l 4) ≤ 16
  c : 2000 ≤ mx (mx (rd l 7) (rd l 8)) (rd l 9) ∧ mx (mx (rd l 7) (rd l 8)) (rd l 9) ≤ 64000
  n : 0 ≤ Int.tdiv (1824 * rd l 20) 1024 ∧ Int.tdiv (1824 * rd l 20) 1024 ≤ 1824000
theorem marg_of {l : List Int} (R : Rows l) : Marg l := by
  obtain ⟨len, r0, r1, r2, r3, r4, r5, r6, r7, r8, r9, r10, r19, r20⟩ := R
  have m1 := mx_cases (rd l 1) (rd l 3)
  have m2 := mx_cases (rd l 2) (rd l 4)
  have m3 := mx_cases (rd l 7) (rd l 8)
  have m4 := mx_cases (mx (rd l 7) (rd l 8)) (rd l 9)
  have B : 48 ≤ mB l ∧ mB l ≤ 64 := by unfold mB; omega
  have D : 2 ≤ mD l ∧ mD l ≤ 34 := by unfold mD; omega
  have J : 86 ≤ mJ l ∧ mJ l ≤ 430 := by unfold mJ; omega
  have C : 2000 ≤ mx (mx (rd l 7) (rd l 8)) (rd l 9) ∧ mx (mx (rd l 7) (rd l 8)) (rd l 9) ≤ 64000 := by omega
  have F : 2216 ≤ mF l ∧ mF l ≤ 64592 := by unfold mF; omega
  have wb := wv_bound (v := mF l) (b := mB l) (by omega) (by omega)
  have n0 : 0 ≤ mF l / mB l := Int.ediv_nonneg (by omega) (by omega)
  have n1 : mF l / mB l ≤ mF l := Int.ediv_le_self _ (by omega)
  have p2 : mF l / mB l * mF l ≤ 100000 * 100000 := Int.mul_le_mul (by omega) (by omega) (by omega) (by omega)
  have W : 0 ≤ Wv (mF l) (mB l) ∧ Wv (mF l) (mB l) ≤ 10000000000 := ⟨wb.1, by omega⟩
  have u := cup_le (a := Wv (mF l) (mB l)) (b := 6400) (by decide) W.1
  have t := tdiv_le (a := 1824 * rd l 20) (b := 1024) (by omega) (by decide)
  exact ⟨B, D, J, F, W, ⟨u.1, by omega⟩, by omega, by omega, C, ⟨t.1, by omega⟩⟩
theorem w_B {l : List Int} (R : Rows l) : wrap64 (64 - rd l 0) = mB l := wsm (by have := R.r0; omega) (by have := R.r0; omega)
theorem w_D {l : List Int} (R : Rows l) : wrap64 ((wrap64 ((rd l 0) + (mx (rd l 2) (rd l 4)))) + 2) = mD l := by
  have M := (marg_of R).s
  have r := R.r0
  rw [wsm (a := rd l 0 + mx (rd l 2) (rd l 4)) (by omega) (by omega), wsm (by omega) (by omega)]; rfl
theorem w_J {l : List Int} (R : Rows l) : wrap64 (86 * (wrap64 ((rd l 5) + 1))) = mJ l := by
  have r := R.r5
  rw [wsm (a := rd l 5 + 1) (by omega) (by omega), wsm (by omega) (by omega)]; rfl
theorem w_F {l : List Int} (R : Rows l) : wrap64 ((wrap64 ((wrap64 ((mx (mx (rd l 7) (rd l 8)) (rd l 9)) + 128)) + mJ l)) + mD l) = mF l := by
  have M := marg_of R
  have c := M.c; have j := M.j; have d := M.d
  rw [wsm (a := mx (mx (rd l 7) (rd l 8)) (rd l 9) + 128) (by omega) (by omega), wsm (a := mx (mx (rd l 7) (rd l 8)) (rd l 9) + 128 + mJ l) (by omega) (by omega), wsm (by omega) (by omega)]; rfl
theorem w_L {l : List Int} (R : Rows l) : wrap64 ((wrap64 (cup (Wv (mF l) (mB l)) 6400 + (wrap64 (12 * (mx (rd l 1) (rd l 3)))))) + 100) = mL l := by
  have M := marg_of R
  have p := M.p; have u := M.u
  rw [wsm (a := 12 * mx (rd l 1) (rd l 3)) (by omega) (by omega), wsm (a := cup (Wv (mF l) (mB l)) 6400 + 12 * mx (rd l 1) (rd l 3)) (by omega) (by omega), wsm (by omega) (by omega)]; rfl
theorem w_N {l : List Int} (R : Rows l) : wrap64 ((rd l 19) + (wrap64 (Int.tdiv (wrap64 (1824 * (rd l 20))) 1024))) = mN l := by
  have M := marg_of R
  have n := M.n
  have r := R.r20; have q := R.r19
  rw [wsm (a := 1824 * rd l 20) (by omega) (by omega), wsm (a := Int.tdiv (1824 * rd l 20) 1024) (by omega) (by omega), wsm (by omega) (by omega)]; rfl
def mT (l : List Int) : Int × Int × Int × Int × Int × Int × Int := (mB l, mD l, mJ l, mF l, mL l, mN l, 0)
theorem pmarg_ok {l : List Int} (h : Sound l) : Ev (fun k => params_Margins.f k l) (mT l) := by
  have R := rows_of h
  have M := marg_of R
  have b := M.b; have f := M.f; have w := M.w
  have e0 := pcheck_ev l
  rw [chv_zero.2 h] at e0
  refine Ev.congr (fun k => by rw [params_Margins.f]) ?_
  refine Ev.bind e0 ?_
  have hw : params_way.f (mF l) (mB l) = some (Wv (mF l) (mB l)) := way_ev (by omega) (by omega) (by omega) (by omega)
  have hu : params_up.f (Wv (mF l) (mB l)) 6400 = some (cup (Wv (mF l) (mB l)) 6400) := up_ev (by decide) w.1 (by omega)
  refine Ev.congr (f := fun _ => some (mT l)) (fun k => ?_) (Ev.now _)
  rw [R.len, w_B R, w_D R, w_J R, w_F R, hw]
  simp only [if_true, Option.bind_some, hu]
  rw [w_L R, w_N R]
  rfl
theorem pmarg_no {l : List Int} (h : ¬ Sound l) : Ev (fun k => params_Margins.f k l) (0, 0, 0, 0, 0, 0, chv l) := by
  refine Ev.congr (fun k => by rw [params_Margins.f]) ?_
  refine Ev.bind (pcheck_ev l) ?_
  exact Ev.congr (fun k => by rw [if_neg (fun g => h (chv_zero.1 g))]) (Ev.now _)
/-! ### how long landing and returning take, and the room beyond a fence -/
theorem cup_low {a b : Int} (hb : 1 ≤ b) (h0 : 0 ≤ a) : a ≤ cup a b * b ∧ (cup a b - 1) * b < a := by
  have r0 : 0 ≤ a % b := Int.emod_nonneg _ (by omega)
  have r1 : a % b < b := Int.emod_lt_of_pos _ (by omega)
  have e := Int.mul_ediv_add_emod a b
  unfold cup
  rw [Int.tmod_eq_emod_of_nonneg h0, Int.tdiv_eq_ediv_of_nonneg h0]
  rw [Int.mul_comm] at e
  generalize a / b = q at *
  generalize a % b = r at *
  by_cases h : r > 0
  · rw [if_pos h]
    have e1 : (q + 1) * b = q * b + b := by rw [Int.add_mul, Int.one_mul]
    have e2 : (q + 1 - 1) * b = q * b := by rw [Int.add_sub_cancel]
    rw [e1, e2]
    omega
  · rw [if_neg h]
    have e2 : (q - 1) * b = q * b - b := by rw [Int.sub_mul, Int.one_mul]
    rw [e2]
    omega
theorem cup_mono {a c b : Int} (hb : 1 ≤ b) (h0 : 0 ≤ a) (h : a ≤ c) : cup a b ≤ cup c b := by
  by_cases g : cup a b ≤ cup c b
  · exact g
  have l1 := cup_low hb h0
  have l2 := cup_low hb (show 0 ≤ c by omega)
  have := Int.mul_le_mul_of_nonneg_right (show cup c b ≤ cup a b - 1 by omega) (show 0 ≤ b by omega)
  omega
def outb (a : Int) : Bool := if a < 0 then true else decide (a > 536870912)
theorem out_f (a : Int) : params_outside.f a = some (outb a) := by
  unfold params_outside.f outb
  split <;> rfl
theorem out_no {a : Int} (h : outb a = false) : 0 ≤ a ∧ a ≤ 536870912 := by
  unfold outb at h
  by_cases g : a < 0
  · rw [if_pos g] at h; cases h
  · rw [if_neg g] at h
    have := of_decide_eq_false h
    omega
def LTv (l : List Int) (h : Int) : Int := Int.tdiv (mF l) (mB l) + Int.tdiv (rd l 9) 32 + cup (h * 6400 + Wv (mF l) (mB l) + 16 * mF l) (rd l 9 - mD l) + 104
structure Land (l : List Int) (h : Int) : Prop where
  w1 : wrap64 ((wrap64 ((wrap64 (h * 6400)) + Wv (mF l) (mB l))) + (wrap64 (16 * mF l))) = h * 6400 + Wv (mF l) (mB l) + 16 * mF l
  w2 : wrap64 (rd l 9 - mD l) = rd l 9 - mD l
  w3 : wrap64 (Int.tdiv (mF l) (mB l)) = Int.tdiv (mF l) (mB l)
  w4 : wrap64 (Int.tdiv (rd l 9) 32) = Int.tdiv (rd l 9) 32
  w5 : ∀ c, c = cup (h * 6400 + Wv (mF l) (mB l) + 16 * mF l) (rd l 9 - mD l) → wrap64 ((wrap64 ((wrap64 ((wrap64 (Int.tdiv (mF l) (mB l) + Int.tdiv (rd l 9) 32)) + c)) + 40)) + 64) = LTv l h ∧ wrap64 ((wrap64 ((wrap64 (Int.tdiv (mF l) (mB l) + Int.tdiv (rd l 9) 32)) + c)) + 104) = LTv l h
  d : 1 ≤ rd l 9 - mD l
  a : 0 ≤ h * 6400 + Wv (mF l) (mB l) + 16 * mF l ∧ h * 6400 + Wv (mF l) (mB l) + 16 * mF l ≤ 4000000000000
  v : 104 ≤ LTv l h ∧ LTv l h ≤ 4000001000000
theorem land_of {l : List Int} (R : Rows l) {h : Int} (h0 : 0 ≤ h) (h1 : h ≤ 536870912) : Land l h := by
  have M := marg_of R
  have b := M.b; have d := M.d; have f := M.f; have w := M.w; have r9 := R.r9
  have t1 := tdiv_le (a := mF l) (b := mB l) (by omega) (by omega)
  have t2 := tdiv_le (a := rd l 9) (b := 32) (by omega) (by decide)
  have cc := cup_le (a := h * 6400 + Wv (mF l) (mB l) + 16 * mF l) (b := rd l 9 - mD l) (by omega) (by omega)
  have V : 104 ≤ LTv l h ∧ LTv l h ≤ 4000001000000 := by unfold LTv; omega
  refine ⟨?_, wsm (by omega) (by omega), wsm (by omega) (by omega), wsm (by omega) (by omega), ?_, by omega, by omega, V⟩
  · rw [wsm (a := h * 6400) (by omega) (by omega), wsm (a := 16 * mF l) (by omega) (by omega), wsm (a := h * 6400 + Wv (mF l) (mB l)) (by omega) (by omega), wsm (by omega) (by omega)]
  · intro c hc
    unfold LTv at V ⊢
    rw [← hc] at V cc ⊢
    clear hc
    rw [wsm (a := Int.tdiv (mF l) (mB l) + Int.tdiv (rd l 9) 32) (by omega) (by omega), wsm (a := Int.tdiv (mF l) (mB l) + Int.tdiv (rd l 9) 32 + c) (by omega) (by omega), wsm (a := Int.tdiv (mF l) (mB l) + Int.tdiv (rd l 9) 32 + c + 40) (by omega) (by omega), wsm (a := Int.tdiv (mF l) (mB l) + Int.tdiv (rd l 9) 32 + c + 40 + 64) (by omega) (by omega), wsm (a := Int.tdiv (mF l) (mB l) + Int.tdiv (rd l 9) 32 + c + 104) (by omega) (by omega)]
    omega
theorem pland_ok {l : List Int} (S : Sound l) {h : Int} (ho : outb h = false) : Ev (fun k => params_LandTicks.f k l h) (LTv l h, 0) := by
  have R := rows_of S
  have o := out_no ho
  have L := land_of R o.1 o.2
  have M := marg_of R
  have b := M.b; have f := M.f
  have hw : params_way.f (mF l) (mB l) = some (Wv (mF l) (mB l)) := way_ev (by omega) (by omega) (by omega) (by omega)
  have hu := up_ev L.d L.a.1 (by have := L.a; omega)
  refine Ev.congr (fun k => by rw [params_LandTicks.f]) ?_
  refine Ev.bind (pmarg_ok S) ?_
  refine Ev.congr (f := fun _ => some (LTv l h, 0)) (fun k => ?_) (Ev.now _)
  unfold mT
  dsimp only
  rw [if_pos rfl, out_f, ho]
  simp only [Option.bind_some]
  rw [if_neg (by decide), hw]
  simp only [Option.bind_some]
  rw [if_neg (by omega), R.len, if_pos (by decide), L.w1, L.w2, hu]
  simp only [Option.bind_some]
  rw [L.w3, L.w4, (L.w5 _ rfl).1]
/-! ### returning; slack -/
def ALv (l : List Int) (mm sp : Int) : Int := 8 * Int.tdiv sp (rd l 6) + cup (19200 * mm) sp + 800
def RTv (l : List Int) (h d : Int) : Int := ALv l (mx h (rd l 10) + 1000) (rd l 8) + ALv l d (rd l 7) + 8 * Int.tdiv (rd l 8 + rd l 9) (rd l 6) + cup (12800 * (mx h (rd l 10) + 1000)) (rd l 9) + 104
theorem al_v {l : List Int} (R : Rows l) {mm sp : Int} (h0 : 0 ≤ mm) (h1 : mm ≤ 540000000) (s0 : 1600 ≤ sp) (s1 : sp ≤ 64000) : (800 ≤ ALv l mm sp ∧ ALv l mm sp ≤ 20000000000000) ∧ wrap64 ((wrap64 ((wrap64 (8 * (wrap64 (Int.tdiv sp (rd l 6))))) + cup (19200 * mm) sp)) + 800) = ALv l mm sp := by
  have r6 := R.r6
  have t := tdiv_le (a := sp) (b := rd l 6) (by omega) (by omega)
  have c := cup_le (a := 19200 * mm) (b := sp) (by omega) (by omega)
  refine ⟨⟨by unfold ALv; omega, by unfold ALv; omega⟩, ?_⟩
  unfold ALv
  rw [wsm (a := Int.tdiv sp (rd l 6)) (by omega) (by omega), wsm (a := 8 * Int.tdiv sp (rd l 6)) (by omega) (by omega), wsm (a := 8 * Int.tdiv sp (rd l 6) + cup (19200 * mm) sp) (by omega) (by omega), wsm (by omega) (by omega)]
theorem pal_ok {l : List Int} (R : Rows l) {mm sp : Int} (h0 : 0 ≤ mm) (h1 : mm ≤ 540000000) (s0 : 1600 ≤ sp) (s1 : sp ≤ 64000) : params_ReturnTicks.al l mm sp = some (ALv l mm sp) := by
  have r6 := R.r6
  rw [params_ReturnTicks.al, if_neg (by omega), wsm (a := 19200 * mm) (by omega) (by omega), up_ev (by omega) (by omega) (by omega)]
  simp only [Option.bind_some]
  rw [(al_v R h0 h1 s0 s1).2]
structure Ret (l : List Int) (h : Int) (d : Int) : Prop where
  hh : 0 ≤ mx h (rd l 10) + 1000 ∧ mx h (rd l 10) + 1000 ≤ 540000000
  w0 : wrap64 (mx h (rd l 10) + 1000) = mx h (rd l 10) + 1000
  w1 : wrap64 (12800 * (mx h (rd l 10) + 1000)) = 12800 * (mx h (rd l 10) + 1000)
  w2 : ∀ p q s, p = ALv l (mx h (rd l 10) + 1000) (rd l 8) → q = ALv l d (rd l 7) → s = cup (12800 * (mx h (rd l 10) + 1000)) (rd l 9) → wrap64 ((wrap64 ((wrap64 ((wrap64 ((wrap64 (p + q)) + (wrap64 (8 * (wrap64 (Int.tdiv (wrap64 ((rd l 8) + (rd l 9))) (rd l 6))))))) + s)) + 40)) + 64) = RTv l h d ∧ wrap64 ((wrap64 ((wrap64 ((wrap64 (p + q)) + (wrap64 (8 * (wrap64 (Int.tdiv (wrap64 ((rd l 8) + (rd l 9))) (rd l 6))))))) + s)) + 104) = RTv l h d
  v : 104 ≤ RTv l h d
theorem ret_of {l : List Int} (R : Rows l) {h d : Int} (h0 : 0 ≤ h) (h1 : h ≤ 536870912) (d0 : 0 ≤ d) (d1 : d ≤ 536870912) : Ret l h d := by
  have r6 := R.r6; have r7 := R.r7; have r8 := R.r8; have r9 := R.r9; have r10 := R.r10
  have m := mx_cases h (rd l 10)
  have H : 0 ≤ mx h (rd l 10) + 1000 ∧ mx h (rd l 10) + 1000 ≤ 540000000 := by omega
  have A := (al_v R H.1 H.2 r8.1 (by omega)).1
  have B := (al_v R d0 (by omega) r7.1 r7.2).1
  have t := tdiv_le (a := rd l 8 + rd l 9) (b := rd l 6) (by omega) (by omega)
  have c := cup_le (a := 12800 * (mx h (rd l 10) + 1000)) (b := rd l 9) (by omega) (by omega)
  refine ⟨H, wsm (by omega) (by omega), wsm (by omega) (by omega), ?_, by unfold RTv; omega⟩
  intro p q s hp hq hs
  unfold RTv
  rw [← hp, ← hq, ← hs]
  rw [← hp] at A; rw [← hq] at B; rw [← hs] at c
  clear hp hq hs
  rw [wsm (a := rd l 8 + rd l 9) (by omega) (by omega), wsm (a := Int.tdiv (rd l 8 + rd l 9) (rd l 6)) (by omega) (by omega), wsm (a := 8 * Int.tdiv (rd l 8 + rd l 9) (rd l 6)) (by omega) (by omega), wsm (a := p + q) (by omega) (by omega), wsm (a := p + q + 8 * Int.tdiv (rd l 8 + rd l 9) (rd l 6)) (by omega) (by omega), wsm (a := p + q + 8 * Int.tdiv (rd l 8 + rd l 9) (rd l 6) + s) (by omega) (by omega), wsm (a := p + q + 8 * Int.tdiv (rd l 8 + rd l 9) (rd l 6) + s + 40) (by omega) (by omega), wsm (a := p + q + 8 * Int.tdiv (rd l 8 + rd l 9) (rd l 6) + s + 40 + 64) (by omega) (by omega), wsm (a := p + q + 8 * Int.tdiv (rd l 8 + rd l 9) (rd l 6) + s + 104) (by omega) (by omega)]
  omega
theorem pret_ok {l : List Int} (S : Sound l) {h d : Int} (ho : outb h = false) (hd : outb d = false) : Ev (fun k => params_ReturnTicks.f k l h d) (RTv l h d, 0) := by
  have R := rows_of S
  have o := out_no ho; have p := out_no hd
  have T := ret_of R o.1 o.2 p.1 p.2
  have r6 := R.r6; have r7 := R.r7; have r8 := R.r8; have r9 := R.r9
  have e0 := pcheck_ev l
  rw [chv_zero.2 S] at e0
  refine Ev.congr (fun k => by rw [params_ReturnTicks.f]) ?_
  refine Ev.bind e0 ?_
  refine Ev.congr (f := fun _ => some (RTv l h d, 0)) (fun k => ?_) (Ev.now _)
  rw [if_pos rfl, out_f, out_f, ho, hd]
  simp only [Option.bind_some]
  rw [if_neg (by decide), if_neg (by decide), if_pos R.len, if_neg (by omega), T.w0, (pal_ok R T.hh.1 T.hh.2 r8.1 (by omega)), (pal_ok R p.1 (by omega) r7.1 r7.2), T.w1, up_ev (by omega) (by have := T.hh; omega) (by have := T.hh; omega)]
  simp only [Option.bind_some]
  rw [(T.w2 _ _ _ rfl rfl rfl).1]
def SLv (l : List Int) (c : Int) : Int := cup (mD l * LTv l c + 64 * mJ l) 6400 + 2
structure Slk (l : List Int) (c : Int) : Prop where
  a : 0 ≤ mD l * LTv l c + 64 * mJ l ∧ mD l * LTv l c + 64 * mJ l ≤ 200000000000000
  w1 : wrap64 ((wrap64 (mD l * LTv l c)) + (wrap64 (64 * mJ l))) = mD l * LTv l c + 64 * mJ l
  w2 : wrap64 (cup (mD l * LTv l c + 64 * mJ l) 6400 + 2) = SLv l c
  v : 2 ≤ SLv l c
theorem al_mono {l : List Int} (R : Rows l) {m n sp : Int} (h0 : 0 ≤ m) (h : m ≤ n) (s0 : 1600 ≤ sp) : ALv l m sp ≤ ALv l n sp := by
  unfold ALv
  have := cup_mono (a := 19200 * m) (c := 19200 * n) (b := sp) (by omega) (by omega) (by omega)
  omega
theorem lt_mono {l : List Int} (R : Rows l) {a b : Int} (h0 : 0 ≤ a) (h : a ≤ b) : LTv l a ≤ LTv l b := by
  have M := marg_of R
  have w := M.w; have f := M.f; have d := M.d; have r := R.r9
  unfold LTv
  have := cup_mono (a := a * 6400 + Wv (mF l) (mB l) + 16 * mF l) (c := b * 6400 + Wv (mF l) (mB l) + 16 * mF l) (b := rd l 9 - mD l) (by omega) (by omega) (by omega)
  omega
theorem rt_mono {l : List Int} (R : Rows l) {a b c d : Int} (h0 : 0 ≤ a) (h : a ≤ b) (c0 : 0 ≤ c) (g : c ≤ d) : RTv l a c ≤ RTv l b d := by
  have r7 := R.r7; have r8 := R.r8; have r9 := R.r9; have r10 := R.r10
  have m1 := mx_cases a (rd l 10)
  have m2 := mx_cases b (rd l 10)
  have e1 := al_mono R (m := mx a (rd l 10) + 1000) (n := mx b (rd l 10) + 1000) (sp := rd l 8) (by omega) (by omega) (by omega)
  have e2 := al_mono R (m := c) (n := d) (sp := rd l 7) c0 g (by omega)
  have e3 := cup_mono (a := 12800 * (mx a (rd l 10) + 1000)) (c := 12800 * (mx b (rd l 10) + 1000)) (b := rd l 9) (by omega) (by omega) (by omega)
  unfold RTv
  omega

theorem w_sat_id {a : Int} (h1 : -9223372036854775808 ≤ a) (h2 : a ≤ 9223372036854775807) : sat a = a := by unfold sat; rw [if_neg (by omega), if_neg (by omega)]
theorem w_add {a b : Int} (a1 : -4000000000000000000 ≤ a) (a2 : a ≤ 4000000000000000000) (b1 : -4000000000000000000 ≤ b) (b2 : b ≤ 4000000000000000000) : Ev (fun k => fix_Add.f k a b) (a + b) :=
  ev_eq (w_sat_id (by omega) (by omega)).symm (add_ev' ⟨by omega, by omega⟩ ⟨by omega, by omega⟩)
theorem w_sub {a b : Int} (a1 : -4000000000000000000 ≤ a) (a2 : a ≤ 4000000000000000000) (b1 : -4000000000000000000 ≤ b) (b2 : b ≤ 4000000000000000000) : Ev (fun k => fix_Sub.f k a b) (a - b) :=
  ev_eq (w_sat_id (by omega) (by omega)).symm (sub_ev' ⟨by omega, by omega⟩ ⟨by omega, by omega⟩)
set_option maxRecDepth 100000 in
theorem awake14_ev : Ev (fun k => windhoverlaw14_awake.f k) true := by
  have h : windhoverlaw14_awake.f 80 = some true := by decide +kernel
  exact Ev.of (fun k => windhoverlaw14_awake.mono k) h
theorem fin14 : Ev (fun k => (windhoverlaw14_awake.f k).bind fun t => some t) true := Ev.bind awake14_ev (Ev.now true)
theorem new_ok {l : List Int} (h : Sound l) : Ev (fun k => power_New.f k l) (l, mN l, false, 0, 0, 0) := by
  refine Ev.congr (fun k => by rw [power_New.f]) ?_
  refine Ev.bind (pmarg_ok h) ?_
  have hl : l.length = 24 := h.1
  exact Ev.congr (fun k => by rw [mT]; dsimp only; rw [if_pos rfl, if_pos (by omega)]) (Ev.now _)
theorem new_no {l : List Int} (h : ¬ Sound l) : Ev (fun k => power_New.f k l) ([], 0, false, 0, 0, chv l) := by
  refine Ev.congr (fun k => by rw [power_New.f]) ?_
  refine Ev.bind (pmarg_no h) ?_
  exact Ev.congr (fun k => by dsimp only; rw [if_neg (fun e => h (chv_zero.1 e))]) (Ev.now _)

theorem rt_le {l : List Int} (R : Rows l) {h d : Int} (h0 : 0 ≤ h) (h1 : h ≤ 536870912) (d0 : 0 ≤ d) (d1 : d ≤ 536870912) : RTv l h d ≤ 60000000000000 := by
  have r6 := R.r6; have r7 := R.r7; have r8 := R.r8; have r9 := R.r9; have r10 := R.r10
  have m := mx_cases h (rd l 10)
  have H : 0 ≤ mx h (rd l 10) + 1000 ∧ mx h (rd l 10) + 1000 ≤ 540000000 := by omega
  have A := (al_v R H.1 H.2 r8.1 (by omega)).1
  have B := (al_v R d0 (by omega) r7.1 r7.2).1
  have t := tdiv_le (a := rd l 8 + rd l 9) (b := rd l 6) (by omega) (by omega)
  have c := cup_le (a := 12800 * (mx h (rd l 10) + 1000)) (b := rd l 9) (by omega) (by omega)
  unfold RTv
  omega
def qv (a : Int) : Int := if a < 0 then 0 else if a > 536870912 then 536870912 else a
theorem q_f (a : Int) : fix_Clamp.f a 0 536870912 = some (qv a) := by
  unfold fix_Clamp.f qv
  split
  · rfl
  · split <;> rfl
theorem q_in (a : Int) : 0 ≤ qv a ∧ qv a ≤ 536870912 := by unfold qv; split <;> (try split) <;> omega
theorem q_mono {a b : Int} (h : a ≤ b) : qv a ≤ qv b := by unfold qv; split <;> (try split) <;> (try split) <;> (try split) <;> omega
theorem out_q (a : Int) : outb (qv a) = false := by
  have := q_in a
  unfold outb
  rw [if_neg (by omega)]
  exact decide_eq_false (by omega)
def N1v (l : List Int) (h : Int) : Int := rd l 17 + mN l * (LTv l (qv h) + 8)
def N2v (l : List Int) (h d : Int) : Int := N1v l h + mN l * RTv l (qv h) (qv d)
def Tv (l : List Int) (lo h d : Int) : Int := if lo < N1v l h then 2 else if lo < N2v l h d then 1 else 0
theorem mN_in {l : List Int} (R : Rows l) : 0 ≤ mN l ∧ mN l ≤ 3000 := by
  have a1 := R.r19
  have a2 := R.r20
  unfold mN
  rw [Int.tdiv_eq_ediv_of_nonneg (by omega)]
  omega
theorem mul_in {d x D X : Int} (d0 : 0 ≤ d) (d1 : d ≤ D) (x0 : 0 ≤ x) (x1 : x ≤ X) : 0 ≤ d * x ∧ d * x ≤ D * X :=
  ⟨Int.mul_nonneg d0 x0, Int.mul_le_mul d1 x1 x0 (Int.le_trans d0 d1)⟩
theorem n1_mono {l : List Int} (R : Rows l) {a b : Int} (h : a ≤ b) : N1v l a ≤ N1v l b := by
  unfold N1v
  have := Int.mul_le_mul_of_nonneg_left (show LTv l (qv a) + 8 ≤ LTv l (qv b) + 8 from Int.add_le_add_right (lt_mono R (q_in a).1 (q_mono h)) 8) (mN_in R).1
  omega
theorem n2_mono {l : List Int} (R : Rows l) {a b c d : Int} (h : a ≤ b) (g : c ≤ d) : N2v l a c ≤ N2v l b d := by
  unfold N2v
  have h1 := n1_mono R h
  have := Int.mul_le_mul_of_nonneg_left (rt_mono R (q_in a).1 (q_mono h) (q_in c).1 (q_mono g)) (mN_in R).1
  omega
theorem t_lo {l : List Int} {lo lo2 h d : Int} (g : lo ≤ lo2) : Tv l lo2 h d ≤ Tv l lo h d := by
  unfold Tv; split <;> (try split) <;> (try split) <;> (try split) <;> omega
theorem t_hd {l : List Int} (R : Rows l) {lo a b c d : Int} (h : a ≤ b) (g : c ≤ d) : Tv l lo a c ≤ Tv l lo b d := by
  have h1 := n1_mono R h
  have h2 := n2_mono R h g
  unfold Tv; split <;> (try split) <;> (try split) <;> (try split) <;> omega
theorem w_N1 {f d L : Int} (f0 : 0 ≤ f) (f1 : f ≤ 1000000000) (d0 : 0 ≤ d) (d1 : d ≤ 3000) (L0 : 0 ≤ L) (L1 : L ≤ 4000001000000) : wrap64 (f + wrap64 (d * wrap64 (L + 8))) = f + d * (L + 8) := by
  have m := mul_in d0 d1 (show 0 ≤ L + 8 by omega) (show L + 8 ≤ 4000001000008 by omega)
  rw [wsm (a := L + 8) (by omega) (by omega), wsm (a := d * (L + 8)) (by omega) (by omega), wsm (by omega) (by omega)]
theorem w_N2 {n d r : Int} (n0 : 0 ≤ n) (n1 : n ≤ 100000000000000000) (d0 : 0 ≤ d) (d1 : d ≤ 3000) (r0 : 0 ≤ r) (r1 : r ≤ 60000000000000) : wrap64 (n + wrap64 (d * r)) = n + d * r := by
  have m := mul_in d0 d1 r0 r1
  rw [wsm (a := d * r) (by omega) (by omega), wsm (by omega) (by omega)]
theorem n1_in {l : List Int} (R : Rows l) (h17 : 0 ≤ rd l 17 ∧ rd l 17 ≤ 1000000000) (h : Int) : 0 ≤ N1v l h ∧ N1v l h ≤ 100000000000000000 := by
  have L := (land_of R (q_in h).1 (q_in h).2).v
  have m := mul_in (mN_in R).1 (mN_in R).2 (show 0 ≤ LTv l (qv h) + 8 by omega) (show LTv l (qv h) + 8 ≤ 4000001000008 by omega)
  unfold N1v
  omega
theorem tier_ev {l : List Int} (S : Sound l) (h17 : 0 ≤ rd l 17 ∧ rd l 17 ≤ 1000000000) (lo hi h d : Int) : Ev (fun k => power_Battery_Tier.f k l (mN l) true lo hi h d) (Tv l lo h d, mN l, true, lo, hi) := by
  have R := rows_of S
  have hl : l.length = 24 := S.1
  have L := (land_of R (q_in h).1 (q_in h).2).v
  have Rv := (ret_of R (q_in h).1 (q_in h).2 (q_in d).1 (q_in d).2).v
  have Ru := rt_le R (q_in h).1 (q_in h).2 (q_in d).1 (q_in d).2
  have N := n1_in R h17 h
  have e1 := w_N1 h17.1 h17.2 (mN_in R).1 (mN_in R).2 (show 0 ≤ LTv l (qv h) by omega) L.2
  have e2 := w_N2 N.1 N.2 (mN_in R).1 (mN_in R).2 (show 0 ≤ RTv l (qv h) (qv d) by omega) Ru
  refine Ev.congr (fun k => by rw [power_Battery_Tier.f, if_pos rfl, q_f, Option.bind_some]) ?_
  refine Ev.bind (pland_ok S (out_q h)) ?_
  refine Ev.congr (fun k => by rw [q_f, Option.bind_some]) ?_
  refine Ev.bind (pret_ok S (out_q h) (out_q d)) ?_
  refine Ev.congr (f := fun _ => some (Tv l lo h d, mN l, true, lo, hi)) (fun k => ?_) (Ev.now _)
  have hl17 : 17 < l.length := hl ▸ (by decide)
  rw [if_pos hl17]
  dsimp only
  rw [e1, show rd l 17 + mN l * (LTv l (qv h) + 8) = N1v l h from rfl, e2, show N1v l h + mN l * RTv l (qv h) (qv d) = N2v l h d from rfl]
  unfold Tv
  split
  · rfl
  · split <;> rfl
theorem wx16 {x : Int} (h0 : 0 ≤ x) (h1 : x ≤ 536870912) : wrap64 ((wrap64 (16 * x)) + 5000) = 16 * x + 5000 := by rw [wsm (a := 16 * x) (by omega) (by omega), wsm (by omega) (by omega)]
theorem wx4 {x : Int} (h0 : 0 ≤ x) (h1 : x ≤ 536870912) : wrap64 ((wrap64 (4 * x)) + 1000) = 4 * x + 1000 := by rw [wsm (a := 4 * x) (by omega) (by omega), wsm (by omega) (by omega)]
theorem wxm {x m : Int} (h0 : 0 ≤ x) (h1 : x ≤ 536870912) (m0 : 0 ≤ m) (m1 : m ≤ 1099511627776) : wrap64 (x + m) = x + m := wsm (by omega) (by omega)
theorem inner_ev {l : List Int} (S : Sound l) (h17 : 0 ≤ rd l 17 ∧ rd l 17 ≤ 1000000000) {m h lo hi lo2 hi2 : Int} (m0 : 0 ≤ m) (m1 : m ≤ 1099511627776) (h0 : 0 ≤ h) (h1 : h ≤ 536870912) (g : lo ≤ lo2)
    (nx : Ev (fun k => windhoverlaw14_PowerRises.l0 k m (4 * h + 1000) l (mN l) true lo hi l (mN l) true lo2 hi2) true) :
    ∀ (n : Nat) (d : Int), 0 ≤ d → 536870912 - d < (n : Int) → Ev (fun k => windhoverlaw14_PowerRises.l1 k m h d l (mN l) true lo hi l (mN l) true lo2 hi2) true := by
  intro n
  induction n with
  | zero =>
    intro d d0 hn
    exact Ev.step (f := fun k => windhoverlaw14_PowerRises.l0 k m (4 * h + 1000) l (mN l) true lo hi l (mN l) true lo2 hi2) (fun k => by rw [windhoverlaw14_PowerRises.l1, if_neg (by omega), wx4 h0 h1]) nx
  | succ n ih =>
    intro d d0 hn
    by_cases c : d ≤ 536870912
    · have R := rows_of S
      have IH := ih (16 * d + 5000) (by omega) (by omega)
      have t1 := t_lo (l := l) (h := h) (d := d) g
      have t2 := t_hd R (lo := lo) (show h ≤ h + m by omega) (Int.le_refl d)
      have t3 := t_hd R (lo := lo) (Int.le_refl h) (show d ≤ d + m by omega)
      refine Ev.step (fun k => by rw [windhoverlaw14_PowerRises.l1, if_pos c, wxm h0 h1 m0 m1, wxm d0 c m0 m1, wx16 d0 c]) ?_
      refine Ev.bind (tier_ev S h17 lo hi h d) ?_
      refine Ev.bind (tier_ev S h17 lo2 hi2 h d) ?_
      refine Ev.congr (fun k => by rw [if_neg (Int.not_lt.mpr t1)]) ?_
      refine Ev.bind (tier_ev S h17 lo hi (h + m) d) ?_
      refine Ev.congr (fun k => by rw [if_neg (Int.not_lt.mpr t2)]) ?_
      refine Ev.bind (tier_ev S h17 lo hi h (d + m)) ?_
      exact Ev.congr (fun k => by rw [if_neg (Int.not_lt.mpr t3)]) IH
    · exact Ev.step (f := fun k => windhoverlaw14_PowerRises.l0 k m (4 * h + 1000) l (mN l) true lo hi l (mN l) true lo2 hi2) (fun k => by rw [windhoverlaw14_PowerRises.l1, if_neg c, wx4 h0 h1]) nx
theorem outer_ev {l : List Int} (S : Sound l) (h17 : 0 ≤ rd l 17 ∧ rd l 17 ≤ 1000000000) {m lo hi lo2 hi2 : Int} (m0 : 0 ≤ m) (m1 : m ≤ 1099511627776) (g : lo ≤ lo2) :
    ∀ (n : Nat) (h : Int), 0 ≤ h → 536870912 - h < (n : Int) → Ev (fun k => windhoverlaw14_PowerRises.l0 k m h l (mN l) true lo hi l (mN l) true lo2 hi2) true := by
  intro n
  induction n with
  | zero =>
    intro h h0 hn
    exact Ev.step (f := fun k => (windhoverlaw14_awake.f k).bind fun t => some t) (fun k => by rw [windhoverlaw14_PowerRises.l0, if_neg (by omega)]) fin14
  | succ n ih =>
    intro h h0 hn
    by_cases c : h ≤ 536870912
    · exact Ev.step (f := fun k => windhoverlaw14_PowerRises.l1 k m h 0 l (mN l) true lo hi l (mN l) true lo2 hi2) (fun k => by rw [windhoverlaw14_PowerRises.l0, if_pos c]) (inner_ev S h17 m0 m1 h0 c g (ih (4 * h + 1000) (by omega) (by omega)) 536870913 0 (by omega) (by omega))
    · exact Ev.step (f := fun k => (windhoverlaw14_awake.f k).bind fun t => some t) (fun k => by rw [windhoverlaw14_PowerRises.l0, if_neg c]) fin14
theorem first_ev {l : List Int} (S : Sound l) {c : Int} (hO : 0 ≤ rd l 18 ∧ rd l 18 ≤ 1000000) (c0 : 0 ≤ c) (c1 : c ≤ 4000000000000) : Ev (fun k => power_Battery_Step.f k l (mN l) false 0 0 true c) (mN l, true, c - rd l 18, c + rd l 18) := by
  have hl : 18 < l.length := S.1 ▸ (by decide)
  refine Ev.congr (fun k => by rw [power_Battery_Step.f, if_neg (by decide), power_Battery_Step.off, if_pos rfl, if_pos hl]) ?_
  refine Ev.bind (w_sub (by omega) (by omega) (by omega) (by omega)) ?_
  refine Ev.bind (w_add (by omega) (by omega) (by omega) (by omega)) ?_
  exact Ev.congr (fun k => by rw [if_neg (by simp)]) (Ev.now _)
theorem PowerRises : windhoverlaw14_PowerRises.Pure := by
  intro l c m _ _ _ _ _
  apply Ev.rounds
  refine Ev.congr (fun k => by rw [windhoverlaw14_PowerRises.f]) ?_
  by_cases S : Sound l
  · have hO : 0 ≤ rd l 18 ∧ rd l 18 ≤ 1000000 := by
      have a := S.2.1 18 (by decide) (by decide)
      rw [show rd params_Check.tb0_0 18 = 0 from rfl, show rd params_Check.tb0_1 18 = 1000000 from rfl] at a
      exact a
    have h17 : 0 ≤ rd l 17 ∧ rd l 17 ≤ 1000000000 := by
      have a := S.2.1 17 (by decide) (by decide)
      rw [show rd params_Check.tb0_0 17 = 0 from rfl, show rd params_Check.tb0_1 17 = 1000000000 from rfl] at a
      exact a
    refine Ev.bind (new_ok S) ?_
    dsimp only
    refine Ev.congr (fun k => by rw [if_pos rfl]) ?_
    refine Ev.bind (new_ok S) ?_
    dsimp only
    refine Ev.congr (fun k => by rw [if_pos rfl, if_pos rfl]) ?_
    by_cases q1 : m < 0
    · exact Ev.congr (fun k => by rw [if_pos q1]) fin14
    by_cases q2 : m > 1099511627776
    · exact Ev.congr (fun k => by rw [if_neg q1, if_pos q2]) fin14
    by_cases q3 : c < 0
    · exact Ev.congr (fun k => by rw [if_neg q1, if_neg q2, if_pos q3]) fin14
    by_cases q4 : c > 1099511627776
    · exact Ev.congr (fun k => by rw [if_neg q1, if_neg q2, if_neg q3, if_pos q4]) fin14
    have hcm : wrap64 (c + m) = c + m := wsm (by omega) (by omega)
    refine Ev.congr (fun k => by rw [if_neg q1, if_neg q2, if_neg q3, if_neg q4, hcm]) ?_
    clear hcm
    refine Ev.bind (first_ev S hO (by omega) (by omega)) ?_
    refine Ev.bind (first_ev S hO (by omega) (by omega)) ?_
    dsimp only
    exact outer_ev S h17 (by omega) (by omega) (by omega) 536870913 0 (by omega) (by omega)
  · have hc : ¬ chv l = 0 := fun e => S (chv_zero.1 e)
    refine Ev.bind (new_no S) ?_
    dsimp only
    refine Ev.congr (fun k => by rw [if_neg hc]) ?_
    refine Ev.bind (new_no S) ?_
    dsimp only
    exact Ev.congr (f := fun k => (windhoverlaw14_awake.f k).bind fun t => some t) (fun k => by rw [if_neg hc, if_pos rfl]) fin14

end Go.Proofs.Ytmmlahckcgjofaa.Pure
