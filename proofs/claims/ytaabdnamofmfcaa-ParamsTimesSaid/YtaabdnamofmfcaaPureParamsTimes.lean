/- ParamsTimes: for every list, height and distance, what params.LandTicks, ReturnTicks and Slack answer is what the document answers, and the awake example holds. -/
import Derived.Test.YtaabdnamofmfcaaPParamsTimesx10
namespace Go.Proofs.Ytaabdnamofmfcaa.Pure
open Go.RowKit Go.Proofs.Ytaabdnamofmfcaa.PParamsTimes Go.Proofs.YtaabdnamofmfcaaW.PrintWords Go.Proofs.YtaabdnamofmfcaaW.PrintLast

set_option linter.unusedVariables false
set_option linter.unusedSimpArgs false
theorem Ev.now {α : Type} (r : α) : Ev (fun _ => some r) r := ⟨0, fun _ _ => rfl⟩

theorem wsm {a : Int} (h1 : -9223372036854775808 ≤ a) (h2 : a ≤ 9223372036854775807) : wrap64 a = a := by unfold wrap64; omega
theorem ev_eq {α : Type} {g : Nat → Option α} {r s : α} (h : r = s) (e : Ev g s) : Ev g r := h ▸ e
/-! ### params.Check and the document's -/
def RulesW (l : List Int) : Prop := ¬ (wrap64 ((wrap64 ((wrap64 ((rd l 0) + (rd l 6))) + (wrap64 (2 * (mx (rd l 2) (rd l 4)))))) + 4)) > 64 ∧ ¬ (rd l 12) < (wrap64 ((wrap64 (8 * (mx (rd l 1) (rd l 3)))) + 100)) ∧ ¬ (rd l 11) > (rd l 10)
def InRows (l : List Int) (i : Int) : Prop := ∀ j, i ≤ j → j < 24 → rd params_Check.tb0_0 j ≤ rd l j ∧ rd l j ≤ rd params_Check.tb0_1 j
open Classical in
noncomputable def cval (l : List Int) (i : Int) : Int := if InRows l i then (if RulesW l then 0 else 80) else 5
def Sound (l : List Int) : Prop := l.length = 24 ∧ InRows l 0 ∧ RulesW l
open Classical in
noncomputable def chv (l : List Int) : Int := if l.length = 24 then cval l 0 else 3
theorem inrows_last (l : List Int) : InRows l 24 := fun j h2 h3 => by omega
theorem cval_end (l : List Int) : cval l 24 = 0 ∧ RulesW l ∨ cval l 24 = 80 ∧ ¬ RulesW l := by
  unfold cval
  rw [if_pos (inrows_last l)]
  by_cases h : RulesW l
  · exact .inl ⟨if_pos h, h⟩
  · exact .inr ⟨if_neg h, h⟩
theorem cval_out {l : List Int} {i : Int} (hi : i < 24) (h : rd l i < rd params_Check.tb0_0 i ∨ rd l i > rd params_Check.tb0_1 i) : cval l i = 5 := by
  unfold cval
  rw [if_neg]
  intro g
  have := g i (Int.le_refl _) hi
  omega
theorem cval_on {l : List Int} {i : Int} (h1 : ¬ rd l i < rd params_Check.tb0_0 i) (h2 : ¬ rd l i > rd params_Check.tb0_1 i) : cval l i = cval l (i + 1) := by
  unfold cval
  have e : InRows l i ↔ InRows l (i + 1) := by
    refine ⟨fun h j a b => h j (by omega) b, fun h j a b => ?_⟩
    by_cases hj : j = i
    · subst hj; exact ⟨by omega, by omega⟩
    · exact h j (by omega) b
  by_cases g : InRows l i
  · rw [if_pos g, if_pos (e.1 g)]
  · rw [if_neg g, if_neg (fun h => g (e.2 h))]
theorem chv_zero {l : List Int} : chv l = 0 ↔ Sound l := by
  unfold chv cval Sound
  by_cases h : l.length = 24
  · by_cases g : InRows l 0
    · by_cases q : RulesW l
      · rw [if_pos h, if_pos g, if_pos q]; exact ⟨fun _ => ⟨h, g, q⟩, fun _ => rfl⟩
      · rw [if_pos h, if_pos g, if_neg q]; exact ⟨fun h => absurd h (by decide), fun h => absurd h.2.2 q⟩
    · rw [if_pos h, if_neg g]; exact ⟨fun h => absurd h (by decide), fun h => absurd h.2.1 g⟩
  · rw [if_neg h]; exact ⟨fun h => absurd h (by decide), fun g => absurd g.1 h⟩
theorem pchk_loop {l : List Int} (hl : l.length = 24) : ∀ (n : Nat) (i : Int), 0 ≤ i → i + n = 24 → Ev (fun k => params_Check.l0 k l i) (cval l i) := by
  have hL : (l.length : Int) = 24 := by omega
  intro n
  induction n with
  | zero =>
    intro i h0 h1
    have hi : i = 24 := by omega
    subst hi
    have hR : RulesW l = RulesW l := rfl
    conv at hR => rhs; unfold RulesW
    by_cases c1 : (wrap64 ((wrap64 ((wrap64 ((rd l 0) + (rd l 6))) + (wrap64 (2 * (mx (rd l 2) (rd l 4)))))) + 4)) > 64
    · have e : cval l 24 = 80 := by rcases cval_end l with h | h; exact absurd c1 (hR ▸ h.2).1; exact h.1
      exact Ev.step (f := fun _ => some (cval l 24)) (fun k => by rw [params_Check.l0, hL, e]; simp only [if_neg (show ¬ (24 : Int) < 24 by decide), if_pos (show (2 : Int) < 24 by decide), if_pos (show (4 : Int) < 24 by decide), if_pos (show (1 : Int) < 24 by decide), if_pos (show (3 : Int) < 24 by decide), if_pos (show (0 : Int) < 24 by decide), if_pos (show (6 : Int) < 24 by decide), if_pos c1]) (Ev.now _)
    · by_cases c2 : (rd l 12) < (wrap64 ((wrap64 (8 * (mx (rd l 1) (rd l 3)))) + 100))
      · have e : cval l 24 = 80 := by rcases cval_end l with h | h; exact absurd c2 (hR ▸ h.2).2.1; exact h.1
        exact Ev.step (f := fun _ => some (cval l 24)) (fun k => by rw [params_Check.l0, hL, e]; simp only [if_neg (show ¬ (24 : Int) < 24 by decide), if_pos (show (2 : Int) < 24 by decide), if_pos (show (4 : Int) < 24 by decide), if_pos (show (1 : Int) < 24 by decide), if_pos (show (3 : Int) < 24 by decide), if_pos (show (0 : Int) < 24 by decide), if_pos (show (6 : Int) < 24 by decide), if_neg c1, if_pos (show (12 : Int) < 24 by decide), if_pos c2]) (Ev.now _)
      · by_cases c3 : (rd l 11) > (rd l 10)
        · have e : cval l 24 = 80 := by rcases cval_end l with h | h; exact absurd c3 (hR ▸ h.2).2.2; exact h.1
          exact Ev.step (f := fun _ => some (cval l 24)) (fun k => by rw [params_Check.l0, hL, e]; simp only [if_neg (show ¬ (24 : Int) < 24 by decide), if_pos (show (2 : Int) < 24 by decide), if_pos (show (4 : Int) < 24 by decide), if_pos (show (1 : Int) < 24 by decide), if_pos (show (3 : Int) < 24 by decide), if_pos (show (0 : Int) < 24 by decide), if_pos (show (6 : Int) < 24 by decide), if_neg c1, if_pos (show (12 : Int) < 24 by decide), if_neg c2, if_pos (show (11 : Int) < 24 by decide), if_pos (show (10 : Int) < 24 by decide), if_pos c3]) (Ev.now _)
        · have e : cval l 24 = 0 := by
            rcases cval_end l with h | h
            · exact h.1
            · exact absurd (by rw [hR]; exact ⟨c1, c2, c3⟩) h.2
          exact Ev.step (f := fun _ => some (cval l 24)) (fun k => by rw [params_Check.l0, hL, e]; simp only [if_neg (show ¬ (24 : Int) < 24 by decide), if_pos (show (2 : Int) < 24 by decide), if_pos (show (4 : Int) < 24 by decide), if_pos (show (1 : Int) < 24 by decide), if_pos (show (3 : Int) < 24 by decide), if_pos (show (0 : Int) < 24 by decide), if_pos (show (6 : Int) < 24 by decide), if_neg c1, if_pos (show (12 : Int) < 24 by decide), if_neg c2, if_pos (show (11 : Int) < 24 by decide), if_pos (show (10 : Int) < 24 by decide), if_neg c3]) (Ev.now _)
  | succ n ih =>
    intro i h0 h1
    have hi : i < 24 := by omega
    have w : wrap64 (i + 1) = i + 1 := wsm (by omega) (by omega)
    have e1 := ih (i + 1) (by omega) (by omega)
    by_cases c1 : rd l i < rd params_Check.tb0_0 i
    · exact ev_eq (cval_out hi (.inl c1)) (Ev.step (f := fun _ => some 5) (fun k => by rw [params_Check.l0, hL, if_pos hi, if_pos h0, if_pos hi, if_pos c1]) (Ev.now 5))
    · by_cases c2 : rd l i > rd params_Check.tb0_1 i
      · exact ev_eq (cval_out hi (.inr c2)) (Ev.step (f := fun _ => some 5) (fun k => by rw [params_Check.l0, hL, if_pos hi, if_pos h0, if_pos hi, if_neg c1, if_pos c2]) (Ev.now 5))
      · exact ev_eq (cval_on c1 c2) (Ev.step (f := fun k => params_Check.l0 k l (i + 1)) (fun k => by rw [params_Check.l0, hL, if_pos hi, if_pos h0, if_pos hi, if_neg c1, if_neg c2, w]) e1)
theorem pcheck_ev (l : List Int) : Ev (fun k => params_Check.f k l) (chv l) := by
  by_cases hl : l.length = 24
  · refine ev_eq (if_pos hl) (Ev.congr (fun k => by rw [params_Check.f, if_pos (by omega)]) ?_)
    exact Ev.bind (Ev.now _) (pchk_loop hl 24 0 (by omega) (by omega))
  · exact ev_eq (if_neg hl) (Ev.congr (fun k => by rw [params_Check.f, if_neg (by omega)]) (Ev.now 3))
theorem rules_ev {l : List Int} (hl : l.length = 24) : (RulesW l → windhoverref08_rules.f l = some true) ∧ (¬ RulesW l → windhoverref08_rules.f l = some false) := by
  have hL : (l.length : Int) = 24 := by omega
  rw [windhoverref08_rules.f, hL]
  simp only [if_pos (show (2 : Int) < 24 by decide), if_pos (show (4 : Int) < 24 by decide), if_pos (show (1 : Int) < 24 by decide), if_pos (show (3 : Int) < 24 by decide), if_pos (show (0 : Int) < 24 by decide), if_pos (show (6 : Int) < 24 by decide), if_pos (show (12 : Int) < 24 by decide), if_pos (show (11 : Int) < 24 by decide), if_pos (show (10 : Int) < 24 by decide)]
  unfold RulesW
  generalize (wrap64 ((wrap64 ((wrap64 ((rd l 0) + (rd l 6))) + (wrap64 (2 * (mx (rd l 2) (rd l 4)))))) + 4)) = A
  generalize (wrap64 ((wrap64 (8 * (mx (rd l 1) (rd l 3)))) + 100)) = B
  refine ⟨fun h => ?_, fun h => ?_⟩
  · rw [if_pos (by omega), if_pos (by omega), decide_eq_true (by omega)]
  · by_cases c1 : A ≤ 64
    · rw [if_pos c1]
      by_cases c2 : (rd l 12) ≥ B
      · rw [if_pos c2, decide_eq_false (fun h3 => h ⟨by omega, by omega, by omega⟩)]
      · rw [if_neg c2]
    · rw [if_neg c1]
theorem rchk_loop {l : List Int} (hl : l.length = 24) : ∀ (n : Nat) (i : Int), 0 ≤ i → i + n = 24 → Ev (fun k => windhoverref08_Check.l0 k l i) (cval l i) := by
  have hL : (l.length : Int) = 24 := by omega
  intro n
  induction n with
  | zero =>
    intro i h0 h1
    have hi : i = 24 := by omega
    subst hi
    obtain ⟨r1, r2⟩ := rules_ev hl
    rcases cval_end l with h | h
    · exact ev_eq h.1 (Ev.step (f := fun _ => some 0) (fun k => by rw [windhoverref08_Check.l0, if_neg (by decide), r1 h.2]; rfl) (Ev.now 0))
    · exact ev_eq h.1 (Ev.step (f := fun _ => some 80) (fun k => by rw [windhoverref08_Check.l0, if_neg (by decide), r2 h.2]; rfl) (Ev.now 80))
  | succ n ih =>
    intro i h0 h1
    have hi : i < 24 := by omega
    have w : wrap64 (i + 1) = i + 1 := wsm (by omega) (by omega)
    have e1 := ih (i + 1) (by omega) (by omega)
    have f : ∀ k, windhoverref08_Check.l0 (k + 1) l i = if rd l i < rd params_Check.tb0_0 i then some 5 else if rd l i > rd params_Check.tb0_1 i then some 5 else windhoverref08_Check.l0 k l (i + 1) := fun k => by
      rw [windhoverref08_Check.l0, hL, if_pos hi, if_pos h0, if_pos hi, w, windhoverref08_lows.f, windhoverref08_highs.f]
      simp only [Option.bind_some]
      rw [show (params_Check.tb0_0 : List Int) = [0, 1, 0, 1, 0, 0, 4, 1600, 1600, 2000, 1000, 500, 200, 100, 40, 40, 1, 0, 0, 0, 0, 1, 0, 16] from rfl, show (params_Check.tb0_1 : List Int) = [16, 200, 16, 200, 16, 4, 32, 64000, 32000, 16000, 120000, 120000, 10000, 10000, 40000, 40000, 40, 1000000000, 1000000, 1000, 1000, 10000, 16384, 3200] from rfl]
      have hi2 : i < (([0, 1, 0, 1, 0, 0, 4, 1600, 1600, 2000, 1000, 500, 200, 100, 40, 40, 1, 0, 0, 0, 0, 1, 0, 16] : List Int).length : Int) := hi
      have hi3 : i < (([16, 200, 16, 200, 16, 4, 32, 64000, 32000, 16000, 120000, 120000, 10000, 10000, 40000, 40000, 40, 1000000000, 1000000, 1000, 1000, 10000, 16384, 3200] : List Int).length : Int) := hi
      rw [if_pos hi2, if_pos hi3]
    by_cases c1 : rd l i < rd params_Check.tb0_0 i
    · exact ev_eq (cval_out hi (.inl c1)) (Ev.step (f := fun _ => some 5) (fun k => by rw [f, if_pos c1]) (Ev.now 5))
    · by_cases c2 : rd l i > rd params_Check.tb0_1 i
      · exact ev_eq (cval_out hi (.inr c2)) (Ev.step (f := fun _ => some 5) (fun k => by rw [f, if_neg c1, if_pos c2]) (Ev.now 5))
      · exact ev_eq (cval_on c1 c2) (Ev.step (f := fun k => windhoverref08_Check.l0 k l (i + 1)) (fun k => by rw [f, if_neg c1, if_neg c2]) e1)
theorem rcheck_ev (l : List Int) : Ev (fun k => windhoverref08_Check.f k l) (chv l) := by
  by_cases hl : l.length = 24
  · exact ev_eq (if_pos hl) (Ev.congr (fun k => by rw [windhoverref08_Check.f, if_pos (by omega)]) (rchk_loop hl 24 0 (by omega) (by omega)))
  · exact ev_eq (if_neg hl) (Ev.congr (fun k => by rw [windhoverref08_Check.f, if_neg (by omega)]) (Ev.now 3))

/-! ### the way of a velocity; rounding up -/
def Wv (v b : Int) : Int := v / b * v - b * (v / b * (v / b + 1) / 2)
theorem tri_even (n : Int) : 2 * (n * (n + 1) / 2) = n * (n + 1) := by
  have h : n * (n + 1) % 2 = 0 := by
    rw [Int.mul_emod, Int.add_emod]
    rcases Int.emod_two_eq n with h | h <;> rw [h] <;> rfl
  omega
theorem wv_small {v b : Int} (hb : 0 < b) (h0 : 0 ≤ v) (h : v ≤ b) : Wv v b = 0 := by
  unfold Wv
  by_cases e : v = b
  · subst e
    rw [Int.ediv_self (by omega)]
    simp
  · rw [Int.ediv_eq_zero_of_lt h0 (by omega)]
    simp
theorem wv_step {v b : Int} (hb : 0 < b) : Wv v b = (v - b) + Wv (v - b) b := by
  unfold Wv
  have e : (v - b) / b = v / b - 1 := by
    rw [show v - b = v + (-1) * b by omega, Int.add_mul_ediv_right _ _ (by omega)]
    omega
  rw [e]
  generalize v / b = n
  have t1 := tri_even n
  have t2 := tri_even (n - 1)
  rw [show n - 1 + 1 = n by omega] at t2 ⊢
  have p1 : n * (n + 1) = (n - 1) * n + 2 * n := by rw [Int.mul_add, Int.sub_mul, Int.mul_one, Int.one_mul]; omega
  have t3 : n * (n + 1) / 2 = (n - 1) * n / 2 + n := by omega
  rw [t3, Int.mul_add]
  have c : b * n = n * b := Int.mul_comm _ _
  have e1 : (n - 1) * (v - b) = n * v - n * b - v + b := by rw [Int.sub_mul, Int.mul_sub, Int.one_mul]; omega
  omega
theorem wv_bound {v b : Int} (hb : 1 ≤ b) (h0 : 0 ≤ v) : 0 ≤ Wv v b ∧ Wv v b ≤ v / b * v := by
  have n0 : 0 ≤ v / b := Int.ediv_nonneg h0 (by omega)
  have hq : v / b * b ≤ v := Int.ediv_mul_le _ (by omega)
  have ht := tri_even (v / b)
  unfold Wv
  generalize v / b = n at *
  have p0 : 0 ≤ n * (n + 1) := Int.mul_nonneg n0 (by omega)
  have pT : 0 ≤ b * (n * (n + 1) / 2) := Int.mul_nonneg (by omega) (by omega)
  refine ⟨?_, by omega⟩
  -- 2 b T = b n (n+1) ≤ v (n+1) ≤ 2 n v, unless n = 0
  by_cases z : n = 0
  · subst z; simp
  have q1 : b * (n * (n + 1)) = (n * b) * (n + 1) := by rw [← Int.mul_assoc, Int.mul_comm b n]
  have q2 : (n * b) * (n + 1) ≤ v * (n + 1) := Int.mul_le_mul_of_nonneg_right hq (by omega)
  have q3 : v * (n + 1) ≤ v * (2 * n) := Int.mul_le_mul_of_nonneg_left (by omega) h0
  have q4 : v * (2 * n) = 2 * (n * v) := by rw [Int.mul_comm 2 n, ← Int.mul_assoc, Int.mul_comm v n, Int.mul_comm]
  have q5 : b * (n * (n + 1)) = 2 * (b * (n * (n + 1) / 2)) := by rw [← ht, ← Int.mul_assoc, Int.mul_comm b 2, Int.mul_assoc]; congr 2; omega
  omega
theorem way_ev {v b : Int} (hb : 1 ≤ b) (h0 : 0 ≤ v) (hv : v ≤ 1000000000) (hb2 : b ≤ 1000000000) : params_way.f v b = some (Wv v b) := by
  have n0 : 0 ≤ v / b := Int.ediv_nonneg h0 (by omega)
  have n1 : v / b ≤ v := Int.ediv_le_self _ h0
  have wb := wv_bound hb h0
  have ht := tri_even (v / b)
  have p1 : 0 ≤ v / b * v := Int.mul_nonneg n0 h0
  have p2 : v / b * v ≤ 1000000000 * 1000000000 := Int.mul_le_mul (by omega) hv h0 (by omega)
  have p3 : v / b * (v / b + 1) ≤ 1000000000 * 1000000001 := Int.mul_le_mul (by omega) (by omega) (by omega) (by omega)
  have p4 : 0 ≤ v / b * (v / b + 1) := Int.mul_nonneg n0 (by omega)
  rw [params_way.f, if_neg (by omega), Int.tdiv_eq_ediv_of_nonneg h0]
  unfold Wv at wb ⊢
  generalize v / b = n at *
  rw [wsm (a := n) (by omega) (by omega), wsm (a := n * v) (by omega) (by omega), wsm (a := n + 1) (by omega) (by omega), wsm (a := n * (n + 1)) (by omega) (by omega), Int.tdiv_eq_ediv_of_nonneg p4]
  generalize n * (n + 1) / 2 = T at *
  rw [wsm (a := T) (by omega) (by omega)]
  generalize b * T = B at *
  generalize n * v = A at *
  rw [wsm (a := B) (by omega) (by omega), wsm (by omega) (by omega)]
theorem rway_ev {b : Int} (hb : 1 ≤ b) (hb2 : b ≤ 1000000000) : ∀ (n : Nat) (v s : Int), 0 ≤ v → v ≤ n → v ≤ 1000000000 → 0 ≤ s → s + Wv v b ≤ 9000000000000000000 → Ev (fun k => windhoverref08_Way.l0 k v b s) (s + Wv v b) := by
  intro n
  induction n with
  | zero =>
    intro v s h0 h1 h2 h3 h4
    rw [wv_small (by omega) h0 (by omega)]
    exact Ev.step (f := fun _ => some (s + 0)) (fun k => by rw [windhoverref08_Way.l0, if_neg (by omega), Int.add_zero]) (Ev.now _)
  | succ n ih =>
    intro v s h0 h1 h2 h3 h4
    by_cases h : v > b
    · have st := wv_step (v := v) (b := b) (by omega)
      have wb := wv_bound (v := v - b) (b := b) hb (by omega)
      rw [st] at h4 ⊢
      have w1 : wrap64 (v - b) = v - b := wsm (by omega) (by omega)
      have w2 : wrap64 (s + (v - b)) = s + (v - b) := wsm (by omega) (by omega)
      refine Ev.step (f := fun k => windhoverref08_Way.l0 k (v - b) b (s + (v - b))) (fun k => by rw [windhoverref08_Way.l0, if_pos h, w1, w2]) ?_
      exact ev_eq (by omega) (ih (v - b) (s + (v - b)) (by omega) (by omega) (by omega) (by omega) (by omega))
    · rw [wv_small (by omega) h0 (by omega)]
      exact Ev.step (f := fun _ => some (s + 0)) (fun k => by rw [windhoverref08_Way.l0, if_neg h, Int.add_zero]) (Ev.now _)
theorem rwayf_ev {v b : Int} (hb : 1 ≤ b) (h0 : 0 ≤ v) (hv : v ≤ 1000000000) (hb2 : b ≤ 1000000000) : Ev (fun k => windhoverref08_Way.f k v b) (Wv v b) := by
  have wb := wv_bound hb h0
  have n0 : 0 ≤ v / b := Int.ediv_nonneg h0 (by omega)
  have n1 : v / b ≤ v := Int.ediv_le_self _ h0
  have p2 : v / b * v ≤ 1000000000 * 1000000000 := Int.mul_le_mul (by omega) hv h0 (by omega)
  have := rway_ev hb hb2 v.toNat v 0 h0 (by omega) hv (by omega) (by omega)
  exact Ev.congr (fun k => by rw [windhoverref08_Way.f]) (ev_eq (by omega) this)
def cup (a b : Int) : Int := if Int.tmod a b > 0 then Int.tdiv a b + 1 else Int.tdiv a b
theorem tdiv_le {a b : Int} (h0 : 0 ≤ a) (hb : 1 ≤ b) : 0 ≤ Int.tdiv a b ∧ Int.tdiv a b ≤ a := by
  rw [Int.tdiv_eq_ediv_of_nonneg h0]
  exact ⟨Int.ediv_nonneg h0 (by omega), Int.ediv_le_self _ h0⟩
theorem up_ev {a b : Int} (hb : 1 ≤ b) (h0 : 0 ≤ a) (ha : a ≤ 9000000000000000000) : params_up.f a b = some (cup a b) := by
  have t := tdiv_le h0 hb
  rw [params_up.f, fix_Up.f, if_neg (by omega), if_neg (by omega)]
  unfold cup
  rw [wsm (a := Int.tdiv a b) (by omega) (by omega), wsm (a := Int.tdiv a b + 1) (by omega) (by omega)]
  by_cases h : Int.tmod a b > 0
  · rw [if_pos h, if_pos h]; rfl
  · rw [if_neg h, if_neg h]; rfl
theorem rup_ev {a b : Int} (hb : 1 ≤ b) (h0 : 0 ≤ a) (ha : a ≤ 9000000000000000000) : windhoverref08_up.f a b = some (cup a b) := by
  have t := tdiv_le h0 hb
  rw [windhoverref08_up.f, windhoverref01_Floor.f, if_neg (by omega), wsm (a := -a) (by omega) (by omega), Int.neg_tdiv, Int.neg_tmod, wsm (a := -(Int.tdiv a b)) (by omega) (by omega), wsm (a := -(Int.tdiv a b) - 1) (by omega) (by omega)]
  unfold cup
  by_cases h : Int.tmod a b > 0
  · rw [if_pos h, if_pos (by omega)]
    show some (wrap64 (-(-(Int.tdiv a b) - 1))) = _
    rw [wsm (by omega) (by omega)]
    congr 1; omega
  · rw [if_neg h, if_neg (by omega)]
    show some (wrap64 (-(-(Int.tdiv a b)))) = _
    rw [wsm (by omega) (by omega), Int.neg_neg]
theorem cup_le {a b : Int} (hb : 1 ≤ b) (h0 : 0 ≤ a) : 0 ≤ cup a b ∧ cup a b ≤ a + 1 := by
  have t := tdiv_le h0 hb
  unfold cup
  split <;> omega

/-! ### what follows from sound parameters -/
def mB (l : List Int) : Int := 64 - rd l 0
def mD (l : List Int) : Int := rd l 0 + mx (rd l 2) (rd l 4) + 2
def mJ (l : List Int) : Int := 86 * (rd l 5 + 1)
def mF (l : List Int) : Int := mx (mx (rd l 7) (rd l 8)) (rd l 9) + 128 + mJ l + mD l
def mL (l : List Int) : Int := cup (Wv (mF l) (mB l)) 6400 + 12 * mx (rd l 1) (rd l 3) + 100
def mN (l : List Int) : Int := rd l 19 + Int.tdiv (1824 * rd l 20) 1024
theorem mx_cases (a b : Int) : (mx a b = a ∧ b ≤ a) ∨ (mx a b = b ∧ a ≤ b) := by
  unfold mx
  split <;> omega
structure Rows (l : List Int) : Prop where
  len : (l.length : Int) = 24
  r0 : 0 ≤ rd l 0 ∧ rd l 0 ≤ 16
  r1 : 1 ≤ rd l 1 ∧ rd l 1 ≤ 200
  r2 : 0 ≤ rd l 2 ∧ rd l 2 ≤ 16
  r3 : 1 ≤ rd l 3 ∧ rd l 3 ≤ 200
  r4 : 0 ≤ rd l 4 ∧ rd l 4 ≤ 16
  r5 : 0 ≤ rd l 5 ∧ rd l 5 ≤ 4
  r6 : 4 ≤ rd l 6 ∧ rd l 6 ≤ 32
  r7 : 1600 ≤ rd l 7 ∧ rd l 7 ≤ 64000
  r8 : 1600 ≤ rd l 8 ∧ rd l 8 ≤ 32000
  r9 : 2000 ≤ rd l 9 ∧ rd l 9 ≤ 16000
  r10 : 1000 ≤ rd l 10 ∧ rd l 10 ≤ 120000
  r19 : 0 ≤ rd l 19 ∧ rd l 19 ≤ 1000
  r20 : 0 ≤ rd l 20 ∧ rd l 20 ≤ 1000
theorem rows_of {l : List Int} (h : Sound l) : Rows l :=
  ⟨by have := h.1; omega, h.2.1 0 (by decide) (by decide), h.2.1 1 (by decide) (by decide), h.2.1 2 (by decide) (by decide), h.2.1 3 (by decide) (by decide), h.2.1 4 (by decide) (by decide), h.2.1 5 (by decide) (by decide), h.2.1 6 (by decide) (by decide), h.2.1 7 (by decide) (by decide), h.2.1 8 (by decide) (by decide), h.2.1 9 (by decide) (by decide), h.2.1 10 (by decide) (by decide), h.2.1 19 (by decide) (by decide), h.2.1 20 (by decide) (by decide)⟩
structure Marg (l : List Int) : Prop where
  b : 48 ≤ mB l ∧ mB l ≤ 64
  d : 2 ≤ mD l ∧ mD l ≤ 34
  j : 86 ≤ mJ l ∧ mJ l ≤ 430
  f : 2216 ≤ mF l ∧ mF l ≤ 64592
  w : 0 ≤ Wv (mF l) (mB l) ∧ Wv (mF l) (mB l) ≤ 10000000000
  u : 0 ≤ cup (Wv (mF l) (mB l)) 6400 ∧ cup (Wv (mF l) (mB l)) 6400 ≤ 10000000001
  p : 1 ≤ mx (rd l 1) (rd l 3) ∧ mx (rd l 1) (rd l 3) ≤ 200
  s : 0 ≤ mx (rd l 2) (rd l 4) ∧ mx (rd l 2) (rd l 4) ≤ 16
  c : 2000 ≤ mx (mx (rd l 7) (rd l 8)) (rd l 9) ∧ mx (mx (rd l 7) (rd l 8)) (rd l 9) ≤ 64000
  n : 0 ≤ Int.tdiv (1824 * rd l 20) 1024 ∧ Int.tdiv (1824 * rd l 20) 1024 ≤ 1824000
theorem marg_of {l : List Int} (R : Rows l) : Marg l := by
  obtain ⟨len, r0, r1, r2, r3, r4, r5, r6, r7, r8, r9, r10, r19, r20⟩ := R
  have m1 := mx_cases (rd l 1) (rd l 3)
  have m2 := mx_cases (rd l 2) (rd l 4)
  have m3 := mx_cases (rd l 7) (rd l 8)
  have m4 := mx_cases (mx (rd l 7) (rd l 8)) (rd l 9)
  have B : 48 ≤ mB l ∧ mB l ≤ 64 := by unfold mB; omega
  have D : 2 ≤ mD l ∧ mD l ≤ 34 := by unfold mD; omega
  have J : 86 ≤ mJ l ∧ mJ l ≤ 430 := by unfold mJ; omega
  have C : 2000 ≤ mx (mx (rd l 7) (rd l 8)) (rd l 9) ∧ mx (mx (rd l 7) (rd l 8)) (rd l 9) ≤ 64000 := by omega
  have F : 2216 ≤ mF l ∧ mF l ≤ 64592 := by unfold mF; omega
  have wb := wv_bound (v := mF l) (b := mB l) (by omega) (by omega)
  have n0 : 0 ≤ mF l / mB l := Int.ediv_nonneg (by omega) (by omega)
  have n1 : mF l / mB l ≤ mF l := Int.ediv_le_self _ (by omega)
  have p2 : mF l / mB l * mF l ≤ 100000 * 100000 := Int.mul_le_mul (by omega) (by omega) (by omega) (by omega)
  have W : 0 ≤ Wv (mF l) (mB l) ∧ Wv (mF l) (mB l) ≤ 10000000000 := ⟨wb.1, by omega⟩
  have u := cup_le (a := Wv (mF l) (mB l)) (b := 6400) (by decide) W.1
  have t := tdiv_le (a := 1824 * rd l 20) (b := 1024) (by omega) (by decide)
  exact ⟨B, D, J, F, W, ⟨u.1, by omega⟩, by omega, by omega, C, ⟨t.1, by omega⟩⟩
theorem w_B {l : List Int} (R : Rows l) : wrap64 (64 - rd l 0) = mB l := wsm (by have := R.r0; omega) (by have := R.r0; omega)
theorem w_D {l : List Int} (R : Rows l) : wrap64 ((wrap64 ((rd l 0) + (mx (rd l 2) (rd l 4)))) + 2) = mD l := by
  have M := (marg_of R).s
  have r := R.r0
  rw [wsm (a := rd l 0 + mx (rd l 2) (rd l 4)) (by omega) (by omega), wsm (by omega) (by omega)]; rfl
theorem w_J {l : List Int} (R : Rows l) : wrap64 (86 * (wrap64 ((rd l 5) + 1))) = mJ l := by
  have r := R.r5
  rw [wsm (a := rd l 5 + 1) (by omega) (by omega), wsm (by omega) (by omega)]; rfl
theorem w_F {l : List Int} (R : Rows l) : wrap64 ((wrap64 ((wrap64 ((mx (mx (rd l 7) (rd l 8)) (rd l 9)) + 128)) + mJ l)) + mD l) = mF l := by
  have M := marg_of R
  have c := M.c; have j := M.j; have d := M.d
  rw [wsm (a := mx (mx (rd l 7) (rd l 8)) (rd l 9) + 128) (by omega) (by omega), wsm (a := mx (mx (rd l 7) (rd l 8)) (rd l 9) + 128 + mJ l) (by omega) (by omega), wsm (by omega) (by omega)]; rfl
theorem w_L {l : List Int} (R : Rows l) : wrap64 ((wrap64 (cup (Wv (mF l) (mB l)) 6400 + (wrap64 (12 * (mx (rd l 1) (rd l 3)))))) + 100) = mL l := by
  have M := marg_of R
  have p := M.p; have u := M.u
  rw [wsm (a := 12 * mx (rd l 1) (rd l 3)) (by omega) (by omega), wsm (a := cup (Wv (mF l) (mB l)) 6400 + 12 * mx (rd l 1) (rd l 3)) (by omega) (by omega), wsm (by omega) (by omega)]; rfl
theorem w_N {l : List Int} (R : Rows l) : wrap64 ((rd l 19) + (wrap64 (Int.tdiv (wrap64 (1824 * (rd l 20))) 1024))) = mN l := by
  have M := marg_of R
  have n := M.n
  have r := R.r20; have q := R.r19
  rw [wsm (a := 1824 * rd l 20) (by omega) (by omega), wsm (a := Int.tdiv (1824 * rd l 20) 1024) (by omega) (by omega), wsm (by omega) (by omega)]; rfl
def mT (l : List Int) : Int × Int × Int × Int × Int × Int × Int := (mB l, mD l, mJ l, mF l, mL l, mN l, 0)
theorem pmarg_ok {l : List Int} (h : Sound l) : Ev (fun k => params_Margins.f k l) (mT l) := by
  have R := rows_of h
  have M := marg_of R
  have b := M.b; have f := M.f; have w := M.w
  have e0 := pcheck_ev l
  rw [chv_zero.2 h] at e0
  refine Ev.congr (fun k => by rw [params_Margins.f]) ?_
  refine Ev.bind e0 ?_
  have hw : params_way.f (mF l) (mB l) = some (Wv (mF l) (mB l)) := way_ev (by omega) (by omega) (by omega) (by omega)
  have hu : params_up.f (Wv (mF l) (mB l)) 6400 = some (cup (Wv (mF l) (mB l)) 6400) := up_ev (by decide) w.1 (by omega)
  refine Ev.congr (f := fun _ => some (mT l)) (fun k => ?_) (Ev.now _)
  rw [R.len, w_B R, w_D R, w_J R, w_F R, hw]
  simp only [if_true, Option.bind_some, hu]
  rw [w_L R, w_N R]
  rfl
theorem rmarg_ok {l : List Int} (h : Sound l) : Ev (fun k => windhoverref08_Margins.f k l) (mT l) := by
  have R := rows_of h
  have M := marg_of R
  have b := M.b; have f := M.f; have w := M.w
  have e0 := rcheck_ev l
  rw [chv_zero.2 h] at e0
  refine Ev.congr (fun k => by rw [windhoverref08_Margins.f]) ?_
  refine Ev.bind e0 ?_
  have hw : Ev (fun k => windhoverref08_Way.f k (mF l) (mB l)) (Wv (mF l) (mB l)) := rwayf_ev (by omega) (by omega) (by omega) (by omega)
  have hu : windhoverref08_up.f (Wv (mF l) (mB l)) 6400 = some (cup (Wv (mF l) (mB l)) 6400) := rup_ev (by decide) w.1 (by omega)
  refine Ev.congr (f := fun k => (windhoverref08_Way.f k (mF l) (mB l)).bind fun t => (windhoverref08_up.f t 6400).bind fun t357 => some (mB l, mD l, mJ l, mF l, wrap64 ((wrap64 (t357 + (wrap64 (12 * (mx (rd l 1) (rd l 3)))))) + 100), mN l, 0)) (fun k => ?_) ?_
  · rw [R.len, w_B R, w_D R, w_J R, w_F R, w_N R]
    rfl
  · refine Ev.bind hw ?_
    refine Ev.congr (f := fun _ => some (mT l)) (fun k => ?_) (Ev.now _)
    rw [hu]
    simp only [Option.bind_some]
    rw [w_L R]
    rfl
theorem pmarg_no {l : List Int} (h : ¬ Sound l) : Ev (fun k => params_Margins.f k l) (0, 0, 0, 0, 0, 0, chv l) := by
  refine Ev.congr (fun k => by rw [params_Margins.f]) ?_
  refine Ev.bind (pcheck_ev l) ?_
  exact Ev.congr (fun k => by rw [if_neg (fun g => h (chv_zero.1 g))]) (Ev.now _)
theorem rmarg_no {l : List Int} (h : ¬ Sound l) : Ev (fun k => windhoverref08_Margins.f k l) (0, 0, 0, 0, 0, 0, chv l) := by
  refine Ev.congr (fun k => by rw [windhoverref08_Margins.f]) ?_
  refine Ev.bind (rcheck_ev l) ?_
  exact Ev.congr (fun k => by rw [if_neg (fun g => h (chv_zero.1 g))]) (Ev.now _)
theorem awake8_ev : Ev (fun k => windhoverlaw08_awake.f k) true := by
  have h : windhoverlaw08_awake.f 60 = some true := by decide +kernel
  exact Ev.of (fun k => windhoverlaw08_awake.mono k) h

/-! ### how long landing and returning take, and the room beyond a fence -/
def outb (a : Int) : Bool := if a < 0 then true else decide (a > 536870912)
theorem out_f (a : Int) : params_outside.f a = some (outb a) := by
  unfold params_outside.f outb
  split <;> rfl
theorem far_f (a : Int) : windhoverref08_far.f a = some (outb a) := by
  unfold windhoverref08_far.f outb
  split <;> rfl
theorem out_no {a : Int} (h : outb a = false) : 0 ≤ a ∧ a ≤ 536870912 := by
  unfold outb at h
  by_cases g : a < 0
  · rw [if_pos g] at h; cases h
  · rw [if_neg g] at h
    have := of_decide_eq_false h
    omega
def LTv (l : List Int) (h : Int) : Int := Int.tdiv (mF l) (mB l) + Int.tdiv (rd l 9) 32 + cup (h * 6400 + Wv (mF l) (mB l) + 16 * mF l) (rd l 9 - mD l) + 104
structure Land (l : List Int) (h : Int) : Prop where
  w1 : wrap64 ((wrap64 ((wrap64 (h * 6400)) + Wv (mF l) (mB l))) + (wrap64 (16 * mF l))) = h * 6400 + Wv (mF l) (mB l) + 16 * mF l
  w2 : wrap64 (rd l 9 - mD l) = rd l 9 - mD l
  w3 : wrap64 (Int.tdiv (mF l) (mB l)) = Int.tdiv (mF l) (mB l)
  w4 : wrap64 (Int.tdiv (rd l 9) 32) = Int.tdiv (rd l 9) 32
  w5 : ∀ c, c = cup (h * 6400 + Wv (mF l) (mB l) + 16 * mF l) (rd l 9 - mD l) → wrap64 ((wrap64 ((wrap64 ((wrap64 (Int.tdiv (mF l) (mB l) + Int.tdiv (rd l 9) 32)) + c)) + 40)) + 64) = LTv l h ∧ wrap64 ((wrap64 ((wrap64 (Int.tdiv (mF l) (mB l) + Int.tdiv (rd l 9) 32)) + c)) + 104) = LTv l h
  d : 1 ≤ rd l 9 - mD l
  a : 0 ≤ h * 6400 + Wv (mF l) (mB l) + 16 * mF l ∧ h * 6400 + Wv (mF l) (mB l) + 16 * mF l ≤ 4000000000000
  v : 104 ≤ LTv l h ∧ LTv l h ≤ 4000001000000
theorem land_of {l : List Int} (R : Rows l) {h : Int} (h0 : 0 ≤ h) (h1 : h ≤ 536870912) : Land l h := by
  have M := marg_of R
  have b := M.b; have d := M.d; have f := M.f; have w := M.w; have r9 := R.r9
  have t1 := tdiv_le (a := mF l) (b := mB l) (by omega) (by omega)
  have t2 := tdiv_le (a := rd l 9) (b := 32) (by omega) (by decide)
  have cc := cup_le (a := h * 6400 + Wv (mF l) (mB l) + 16 * mF l) (b := rd l 9 - mD l) (by omega) (by omega)
  have V : 104 ≤ LTv l h ∧ LTv l h ≤ 4000001000000 := by unfold LTv; omega
  refine ⟨?_, wsm (by omega) (by omega), wsm (by omega) (by omega), wsm (by omega) (by omega), ?_, by omega, by omega, V⟩
  · rw [wsm (a := h * 6400) (by omega) (by omega), wsm (a := 16 * mF l) (by omega) (by omega), wsm (a := h * 6400 + Wv (mF l) (mB l)) (by omega) (by omega), wsm (by omega) (by omega)]
  · intro c hc
    unfold LTv at V ⊢
    rw [← hc] at V cc ⊢
    clear hc
    rw [wsm (a := Int.tdiv (mF l) (mB l) + Int.tdiv (rd l 9) 32) (by omega) (by omega), wsm (a := Int.tdiv (mF l) (mB l) + Int.tdiv (rd l 9) 32 + c) (by omega) (by omega), wsm (a := Int.tdiv (mF l) (mB l) + Int.tdiv (rd l 9) 32 + c + 40) (by omega) (by omega), wsm (a := Int.tdiv (mF l) (mB l) + Int.tdiv (rd l 9) 32 + c + 40 + 64) (by omega) (by omega), wsm (a := Int.tdiv (mF l) (mB l) + Int.tdiv (rd l 9) 32 + c + 104) (by omega) (by omega)]
    omega
theorem pland_ok {l : List Int} (S : Sound l) {h : Int} (ho : outb h = false) : Ev (fun k => params_LandTicks.f k l h) (LTv l h, 0) := by
  have R := rows_of S
  have o := out_no ho
  have L := land_of R o.1 o.2
  have M := marg_of R
  have b := M.b; have f := M.f
  have hw : params_way.f (mF l) (mB l) = some (Wv (mF l) (mB l)) := way_ev (by omega) (by omega) (by omega) (by omega)
  have hu := up_ev L.d L.a.1 (by have := L.a; omega)
  refine Ev.congr (fun k => by rw [params_LandTicks.f]) ?_
  refine Ev.bind (pmarg_ok S) ?_
  refine Ev.congr (f := fun _ => some (LTv l h, 0)) (fun k => ?_) (Ev.now _)
  unfold mT
  dsimp only
  rw [if_pos rfl, out_f, ho]
  simp only [Option.bind_some]
  rw [if_neg (by decide), hw]
  simp only [Option.bind_some]
  rw [if_neg (by omega), R.len, if_pos (by decide), L.w1, L.w2, hu]
  simp only [Option.bind_some]
  rw [L.w3, L.w4, (L.w5 _ rfl).1]
theorem rland_ok {l : List Int} (S : Sound l) {h : Int} (ho : outb h = false) : Ev (fun k => windhoverref08_LandTicks.f k l h) (LTv l h, 0) := by
  have R := rows_of S
  have o := out_no ho
  have L := land_of R o.1 o.2
  have M := marg_of R
  have b := M.b; have f := M.f
  have hw : Ev (fun k => windhoverref08_Way.f k (mF l) (mB l)) (Wv (mF l) (mB l)) := rwayf_ev (by omega) (by omega) (by omega) (by omega)
  have hu := rup_ev L.d L.a.1 (by have := L.a; omega)
  refine Ev.congr (fun k => by rw [windhoverref08_LandTicks.f]) ?_
  refine Ev.bind (rmarg_ok S) ?_
  refine Ev.congr (f := fun k => (windhoverref08_Way.f k (mF l) (mB l)).bind fun t371 => (windhoverref08_up.f (wrap64 ((wrap64 ((wrap64 (h * 6400)) + t371)) + (wrap64 (16 * mF l)))) (rd l 9 - mD l)).bind fun t372 => some (wrap64 ((wrap64 ((wrap64 (Int.tdiv (mF l) (mB l) + Int.tdiv (rd l 9) 32)) + t372)) + 104), 0)) (fun k => ?_) ?_
  · unfold mT
    dsimp only
    rw [if_pos rfl, far_f, ho]
    simp only [Option.bind_some]
    rw [if_neg (by decide), R.len, if_pos (by decide), if_neg (by omega), L.w2, L.w3, L.w4]
  · refine Ev.bind hw ?_
    refine Ev.congr (f := fun _ => some (LTv l h, 0)) (fun k => ?_) (Ev.now _)
    rw [L.w1, hu]
    simp only [Option.bind_some]
    rw [(L.w5 _ rfl).2]
theorem pland_out {l : List Int} (S : Sound l) {h : Int} (ho : outb h = true) : Ev (fun k => params_LandTicks.f k l h) (0, 1) := by
  refine Ev.congr (fun k => by rw [params_LandTicks.f]) ?_
  refine Ev.bind (pmarg_ok S) ?_
  refine Ev.congr (f := fun _ => some (0, 1)) (fun k => ?_) (Ev.now _)
  unfold mT
  dsimp only
  rw [if_pos rfl, out_f, ho]
  rfl
theorem rland_out {l : List Int} (S : Sound l) {h : Int} (ho : outb h = true) : Ev (fun k => windhoverref08_LandTicks.f k l h) (0, 1) := by
  refine Ev.congr (fun k => by rw [windhoverref08_LandTicks.f]) ?_
  refine Ev.bind (rmarg_ok S) ?_
  refine Ev.congr (f := fun _ => some (0, 1)) (fun k => ?_) (Ev.now _)
  unfold mT
  dsimp only
  rw [if_pos rfl, far_f, ho]
  rfl
theorem pland_no {l : List Int} (S : ¬ Sound l) (h : Int) : Ev (fun k => params_LandTicks.f k l h) (0, chv l) := by
  refine Ev.congr (fun k => by rw [params_LandTicks.f]) ?_
  refine Ev.bind (pmarg_no S) ?_
  exact Ev.congr (fun k => by dsimp only; rw [if_neg (fun g => S (chv_zero.1 g))]) (Ev.now _)
theorem rland_no {l : List Int} (S : ¬ Sound l) (h : Int) : Ev (fun k => windhoverref08_LandTicks.f k l h) (0, chv l) := by
  refine Ev.congr (fun k => by rw [windhoverref08_LandTicks.f]) ?_
  refine Ev.bind (rmarg_no S) ?_
  exact Ev.congr (fun k => by dsimp only; rw [if_neg (fun g => S (chv_zero.1 g))]) (Ev.now _)

/-! ### returning; slack -/
def ALv (l : List Int) (mm sp : Int) : Int := 8 * Int.tdiv sp (rd l 6) + cup (19200 * mm) sp + 800
def RTv (l : List Int) (h d : Int) : Int := ALv l (mx h (rd l 10) + 1000) (rd l 8) + ALv l d (rd l 7) + 8 * Int.tdiv (rd l 8 + rd l 9) (rd l 6) + cup (12800 * (mx h (rd l 10) + 1000)) (rd l 9) + 104
theorem al_v {l : List Int} (R : Rows l) {mm sp : Int} (h0 : 0 ≤ mm) (h1 : mm ≤ 540000000) (s0 : 1600 ≤ sp) (s1 : sp ≤ 64000) : (800 ≤ ALv l mm sp ∧ ALv l mm sp ≤ 20000000000000) ∧ wrap64 ((wrap64 ((wrap64 (8 * (wrap64 (Int.tdiv sp (rd l 6))))) + cup (19200 * mm) sp)) + 800) = ALv l mm sp := by
  have r6 := R.r6
  have t := tdiv_le (a := sp) (b := rd l 6) (by omega) (by omega)
  have c := cup_le (a := 19200 * mm) (b := sp) (by omega) (by omega)
  refine ⟨⟨by unfold ALv; omega, by unfold ALv; omega⟩, ?_⟩
  unfold ALv
  rw [wsm (a := Int.tdiv sp (rd l 6)) (by omega) (by omega), wsm (a := 8 * Int.tdiv sp (rd l 6)) (by omega) (by omega), wsm (a := 8 * Int.tdiv sp (rd l 6) + cup (19200 * mm) sp) (by omega) (by omega), wsm (by omega) (by omega)]
theorem pal_ok {l : List Int} (R : Rows l) {mm sp : Int} (h0 : 0 ≤ mm) (h1 : mm ≤ 540000000) (s0 : 1600 ≤ sp) (s1 : sp ≤ 64000) : params_ReturnTicks.al l mm sp = some (ALv l mm sp) := by
  have r6 := R.r6
  rw [params_ReturnTicks.al, if_neg (by omega), wsm (a := 19200 * mm) (by omega) (by omega), up_ev (by omega) (by omega) (by omega)]
  simp only [Option.bind_some]
  rw [(al_v R h0 h1 s0 s1).2]
theorem ral_ok {l : List Int} (R : Rows l) {mm sp : Int} (h0 : 0 ≤ mm) (h1 : mm ≤ 540000000) (s0 : 1600 ≤ sp) (s1 : sp ≤ 64000) : windhoverref08_axis.f l mm sp = some (ALv l mm sp) := by
  have r6 := R.r6
  rw [windhoverref08_axis.f, R.len, if_pos (by decide), if_neg (by omega), wsm (a := 19200 * mm) (by omega) (by omega), rup_ev (by omega) (by omega) (by omega)]
  simp only [Option.bind_some]
  rw [(al_v R h0 h1 s0 s1).2]
structure Ret (l : List Int) (h : Int) (d : Int) : Prop where
  hh : 0 ≤ mx h (rd l 10) + 1000 ∧ mx h (rd l 10) + 1000 ≤ 540000000
  w0 : wrap64 (mx h (rd l 10) + 1000) = mx h (rd l 10) + 1000
  w1 : wrap64 (12800 * (mx h (rd l 10) + 1000)) = 12800 * (mx h (rd l 10) + 1000)
  w2 : ∀ p q s, p = ALv l (mx h (rd l 10) + 1000) (rd l 8) → q = ALv l d (rd l 7) → s = cup (12800 * (mx h (rd l 10) + 1000)) (rd l 9) → wrap64 ((wrap64 ((wrap64 ((wrap64 ((wrap64 (p + q)) + (wrap64 (8 * (wrap64 (Int.tdiv (wrap64 ((rd l 8) + (rd l 9))) (rd l 6))))))) + s)) + 40)) + 64) = RTv l h d ∧ wrap64 ((wrap64 ((wrap64 ((wrap64 (p + q)) + (wrap64 (8 * (wrap64 (Int.tdiv (wrap64 ((rd l 8) + (rd l 9))) (rd l 6))))))) + s)) + 104) = RTv l h d
  v : 104 ≤ RTv l h d
theorem ret_of {l : List Int} (R : Rows l) {h d : Int} (h0 : 0 ≤ h) (h1 : h ≤ 536870912) (d0 : 0 ≤ d) (d1 : d ≤ 536870912) : Ret l h d := by
  have r6 := R.r6; have r7 := R.r7; have r8 := R.r8; have r9 := R.r9; have r10 := R.r10
  have m := mx_cases h (rd l 10)
  have H : 0 ≤ mx h (rd l 10) + 1000 ∧ mx h (rd l 10) + 1000 ≤ 540000000 := by omega
  have A := (al_v R H.1 H.2 r8.1 (by omega)).1
  have B := (al_v R d0 (by omega) r7.1 r7.2).1
  have t := tdiv_le (a := rd l 8 + rd l 9) (b := rd l 6) (by omega) (by omega)
  have c := cup_le (a := 12800 * (mx h (rd l 10) + 1000)) (b := rd l 9) (by omega) (by omega)
  refine ⟨H, wsm (by omega) (by omega), wsm (by omega) (by omega), ?_, by unfold RTv; omega⟩
  intro p q s hp hq hs
  unfold RTv
  rw [← hp, ← hq, ← hs]
  rw [← hp] at A; rw [← hq] at B; rw [← hs] at c
  clear hp hq hs
  rw [wsm (a := rd l 8 + rd l 9) (by omega) (by omega), wsm (a := Int.tdiv (rd l 8 + rd l 9) (rd l 6)) (by omega) (by omega), wsm (a := 8 * Int.tdiv (rd l 8 + rd l 9) (rd l 6)) (by omega) (by omega), wsm (a := p + q) (by omega) (by omega), wsm (a := p + q + 8 * Int.tdiv (rd l 8 + rd l 9) (rd l 6)) (by omega) (by omega), wsm (a := p + q + 8 * Int.tdiv (rd l 8 + rd l 9) (rd l 6) + s) (by omega) (by omega), wsm (a := p + q + 8 * Int.tdiv (rd l 8 + rd l 9) (rd l 6) + s + 40) (by omega) (by omega), wsm (a := p + q + 8 * Int.tdiv (rd l 8 + rd l 9) (rd l 6) + s + 40 + 64) (by omega) (by omega), wsm (a := p + q + 8 * Int.tdiv (rd l 8 + rd l 9) (rd l 6) + s + 104) (by omega) (by omega)]
  omega
theorem pret_ok {l : List Int} (S : Sound l) {h d : Int} (ho : outb h = false) (hd : outb d = false) : Ev (fun k => params_ReturnTicks.f k l h d) (RTv l h d, 0) := by
  have R := rows_of S
  have o := out_no ho; have p := out_no hd
  have T := ret_of R o.1 o.2 p.1 p.2
  have r6 := R.r6; have r7 := R.r7; have r8 := R.r8; have r9 := R.r9
  have e0 := pcheck_ev l
  rw [chv_zero.2 S] at e0
  refine Ev.congr (fun k => by rw [params_ReturnTicks.f]) ?_
  refine Ev.bind e0 ?_
  refine Ev.congr (f := fun _ => some (RTv l h d, 0)) (fun k => ?_) (Ev.now _)
  rw [if_pos rfl, out_f, out_f, ho, hd]
  simp only [Option.bind_some]
  rw [if_neg (by decide), if_neg (by decide), if_pos R.len, if_neg (by omega), T.w0, (pal_ok R T.hh.1 T.hh.2 r8.1 (by omega)), (pal_ok R p.1 (by omega) r7.1 r7.2), T.w1, up_ev (by omega) (by have := T.hh; omega) (by have := T.hh; omega)]
  simp only [Option.bind_some]
  rw [(T.w2 _ _ _ rfl rfl rfl).1]
theorem rret_ok {l : List Int} (S : Sound l) {h d : Int} (ho : outb h = false) (hd : outb d = false) : Ev (fun k => windhoverref08_ReturnTicks.f k l h d) (RTv l h d, 0) := by
  have R := rows_of S
  have o := out_no ho; have p := out_no hd
  have T := ret_of R o.1 o.2 p.1 p.2
  have r6 := R.r6; have r7 := R.r7; have r8 := R.r8; have r9 := R.r9
  have e0 := rcheck_ev l
  rw [chv_zero.2 S] at e0
  refine Ev.congr (fun k => by rw [windhoverref08_ReturnTicks.f]) ?_
  refine Ev.bind e0 ?_
  refine Ev.congr (f := fun k => windhoverref08_ReturnTicks.j0 k l h d false) (fun k => ?_) ?_
  · rw [if_pos rfl, far_f, far_f, ho, hd]
    simp only [Option.bind_some]
    rw [if_neg (by decide)]
  · refine Ev.step (f := fun _ => some (RTv l h d, 0)) (fun k => ?_) (Ev.now _)
    rw [windhoverref08_ReturnTicks.j0, if_neg (by decide), R.len, if_pos (by decide), if_pos (by decide), if_pos (by decide), T.w0, (ral_ok R T.hh.1 T.hh.2 r8.1 (by omega))]
    simp only [Option.bind_some]
    rw [if_pos (by decide), (ral_ok R p.1 (by omega) r7.1 r7.2)]
    simp only [Option.bind_some]
    rw [if_pos (by decide), if_neg (by omega), T.w1, rup_ev (by omega) (by have := T.hh; omega) (by have := T.hh; omega)]
    simp only [Option.bind_some]
    rw [(T.w2 _ _ _ rfl rfl rfl).2]
theorem pret_out {l : List Int} (S : Sound l) {h d : Int} (ho : outb h = true ∨ outb d = true) : Ev (fun k => params_ReturnTicks.f k l h d) (0, 1) := by
  have e0 := pcheck_ev l
  rw [chv_zero.2 S] at e0
  refine Ev.congr (fun k => by rw [params_ReturnTicks.f]) ?_
  refine Ev.bind e0 ?_
  refine Ev.congr (f := fun _ => some (0, 1)) (fun k => ?_) (Ev.now _)
  rw [if_pos rfl, out_f, out_f]
  simp only [Option.bind_some]
  by_cases g : outb h = true
  · rw [if_pos g]
  · rw [if_neg g, if_pos (ho.resolve_left g)]
theorem rret_out {l : List Int} (S : Sound l) {h d : Int} (ho : outb h = true ∨ outb d = true) : Ev (fun k => windhoverref08_ReturnTicks.f k l h d) (0, 1) := by
  have e0 := rcheck_ev l
  rw [chv_zero.2 S] at e0
  refine Ev.congr (fun k => by rw [windhoverref08_ReturnTicks.f]) ?_
  refine Ev.bind e0 ?_
  refine Ev.congr (f := fun k => windhoverref08_ReturnTicks.j0 k l h d true) (fun k => ?_) ?_
  · rw [if_pos rfl, far_f, far_f]
    simp only [Option.bind_some]
    by_cases g : outb h = true
    · rw [if_pos g]
    · rw [if_neg g, ho.resolve_left g]
  · exact Ev.step (f := fun _ => some (0, 1)) (fun k => by rw [windhoverref08_ReturnTicks.j0, if_pos rfl]) (Ev.now _)
theorem pret_no {l : List Int} (S : ¬ Sound l) (h d : Int) : Ev (fun k => params_ReturnTicks.f k l h d) (0, chv l) := by
  refine Ev.congr (fun k => by rw [params_ReturnTicks.f]) ?_
  refine Ev.bind (pcheck_ev l) ?_
  exact Ev.congr (fun k => by rw [if_neg (fun g => S (chv_zero.1 g))]) (Ev.now _)
theorem rret_no {l : List Int} (S : ¬ Sound l) (h d : Int) : Ev (fun k => windhoverref08_ReturnTicks.f k l h d) (0, chv l) := by
  refine Ev.congr (fun k => by rw [windhoverref08_ReturnTicks.f]) ?_
  refine Ev.bind (rcheck_ev l) ?_
  exact Ev.congr (fun k => by rw [if_neg (fun g => S (chv_zero.1 g))]) (Ev.now _)
def SLv (l : List Int) (c : Int) : Int := cup (mD l * LTv l c + 64 * mJ l) 6400 + 2
structure Slk (l : List Int) (c : Int) : Prop where
  a : 0 ≤ mD l * LTv l c + 64 * mJ l ∧ mD l * LTv l c + 64 * mJ l ≤ 200000000000000
  w1 : wrap64 ((wrap64 (mD l * LTv l c)) + (wrap64 (64 * mJ l))) = mD l * LTv l c + 64 * mJ l
  w2 : wrap64 (cup (mD l * LTv l c + 64 * mJ l) 6400 + 2) = SLv l c
  v : 2 ≤ SLv l c
theorem slk_of {l : List Int} (R : Rows l) {c : Int} (h0 : 0 ≤ c) (h1 : c ≤ 536870912) : Slk l c := by
  have M := marg_of R
  have d := M.d; have j := M.j
  have V := (land_of R h0 h1).v
  have p0 : 0 ≤ mD l * LTv l c := Int.mul_nonneg (by omega) (by omega)
  have p1 : mD l * LTv l c ≤ 34 * 4000001000000 := Int.mul_le_mul (by omega) V.2 (by omega) (by omega)
  have hS : SLv l c = cup (mD l * LTv l c + 64 * mJ l) 6400 + 2 := rfl
  have cc := cup_le (a := mD l * LTv l c + 64 * mJ l) (b := 6400) (by decide) (by omega)
  refine ⟨by omega, ?_, ?_, by omega⟩
  · rw [wsm (a := mD l * LTv l c) (by omega) (by omega), wsm (a := 64 * mJ l) (by omega) (by omega), wsm (by omega) (by omega)]
  · rw [hS, wsm (by omega) (by omega)]
def slb (c : Int) : Bool := if c < 1 then true else outb c
theorem pslk_ok {l : List Int} (S : Sound l) {c : Int} (hc : slb c = false) : Ev (fun k => params_Slack.f k l c) (SLv l c, 0) := by
  have R := rows_of S
  unfold slb at hc
  by_cases g : c < 1
  · rw [if_pos g] at hc; cases hc
  rw [if_neg g] at hc
  have o := out_no hc
  have K := slk_of R o.1 o.2
  refine Ev.congr (fun k => by rw [params_Slack.f]) ?_
  refine Ev.bind (pmarg_ok S) ?_
  refine Ev.congr (f := fun k => params_Slack.j0 k l c false (mB l) (mD l) (mJ l) (mF l) (mL l) (mN l)) (fun k => ?_) ?_
  · unfold mT
    dsimp only
    rw [if_pos rfl, if_neg g, out_f, hc]
    rfl
  · refine Ev.step (fun k => by rw [params_Slack.j0, if_neg (by decide)]) ?_
    refine Ev.bind (pland_ok S hc) ?_
    refine Ev.congr (f := fun _ => some (SLv l c, 0)) (fun k => ?_) (Ev.now _)
    dsimp only
    rw [K.w1, up_ev (by decide) K.a.1 (by have := K.a; omega)]
    simp only [Option.bind_some]
    rw [K.w2]
theorem rslk_ok {l : List Int} (S : Sound l) {c : Int} (hc : slb c = false) : Ev (fun k => windhoverref08_Slack.f k l c) (SLv l c, 0) := by
  have R := rows_of S
  unfold slb at hc
  by_cases g : c < 1
  · rw [if_pos g] at hc; cases hc
  rw [if_neg g] at hc
  have o := out_no hc
  have K := slk_of R o.1 o.2
  refine Ev.congr (fun k => by rw [windhoverref08_Slack.f]) ?_
  refine Ev.bind (rmarg_ok S) ?_
  refine Ev.congr (f := fun k => windhoverref08_Slack.j0 k l c false (mB l) (mD l) (mJ l) (mF l) (mL l) (mN l)) (fun k => ?_) ?_
  · unfold mT
    dsimp only
    rw [if_pos rfl, if_neg g, far_f, hc]
    rfl
  · refine Ev.step (fun k => by rw [windhoverref08_Slack.j0, if_neg (by decide)]) ?_
    refine Ev.bind (rland_ok S hc) ?_
    refine Ev.congr (f := fun _ => some (SLv l c, 0)) (fun k => ?_) (Ev.now _)
    dsimp only
    rw [K.w1, rup_ev (by decide) K.a.1 (by have := K.a; omega)]
    simp only [Option.bind_some]
    rw [K.w2]
theorem pslk_out {l : List Int} (S : Sound l) {c : Int} (hc : slb c = true) : Ev (fun k => params_Slack.f k l c) (0, 1) := by
  unfold slb at hc
  refine Ev.congr (fun k => by rw [params_Slack.f]) ?_
  refine Ev.bind (pmarg_ok S) ?_
  refine Ev.congr (f := fun k => params_Slack.j0 k l c true (mB l) (mD l) (mJ l) (mF l) (mL l) (mN l)) (fun k => ?_) (Ev.step (f := fun _ => some (0, 1)) (fun k => by rw [params_Slack.j0, if_pos rfl]) (Ev.now _))
  unfold mT
  dsimp only
  rw [if_pos rfl]
  by_cases g : c < 1
  · rw [if_pos g]
  · rw [if_neg g] at hc ⊢
    rw [out_f, hc]
    rfl
theorem rslk_out {l : List Int} (S : Sound l) {c : Int} (hc : slb c = true) : Ev (fun k => windhoverref08_Slack.f k l c) (0, 1) := by
  unfold slb at hc
  refine Ev.congr (fun k => by rw [windhoverref08_Slack.f]) ?_
  refine Ev.bind (rmarg_ok S) ?_
  refine Ev.congr (f := fun k => windhoverref08_Slack.j0 k l c true (mB l) (mD l) (mJ l) (mF l) (mL l) (mN l)) (fun k => ?_) (Ev.step (f := fun _ => some (0, 1)) (fun k => by rw [windhoverref08_Slack.j0, if_pos rfl]) (Ev.now _))
  unfold mT
  dsimp only
  rw [if_pos rfl]
  by_cases g : c < 1
  · rw [if_pos g]
  · rw [if_neg g] at hc ⊢
    rw [far_f, hc]
    rfl
theorem pslk_no {l : List Int} (S : ¬ Sound l) (c : Int) : Ev (fun k => params_Slack.f k l c) (0, chv l) := by
  refine Ev.congr (fun k => by rw [params_Slack.f]) ?_
  refine Ev.bind (pmarg_no S) ?_
  exact Ev.congr (fun k => by dsimp only; rw [if_neg (fun g => S (chv_zero.1 g))]) (Ev.now _)
theorem rslk_no {l : List Int} (S : ¬ Sound l) (c : Int) : Ev (fun k => windhoverref08_Slack.f k l c) (0, chv l) := by
  refine Ev.congr (fun k => by rw [windhoverref08_Slack.f]) ?_
  refine Ev.bind (rmarg_no S) ?_
  exact Ev.congr (fun k => by dsimp only; rw [if_neg (fun g => S (chv_zero.1 g))]) (Ev.now _)

theorem ParamsTimes : windhoverlaw08_ParamsTimes.Pure := by
  intro l h d h1 h2 h3 h4 h5
  apply Ev.rounds
  have fin : ∀ a b c : Int × Int, Ev (fun k => params_LandTicks.f k l h) a → Ev (fun k => windhoverref08_LandTicks.f k l h) a → Ev (fun k => params_ReturnTicks.f k l h d) b → Ev (fun k => windhoverref08_ReturnTicks.f k l h d) b → Ev (fun k => params_Slack.f k l h) c → Ev (fun k => windhoverref08_Slack.f k l h) c → Ev (fun k => windhoverlaw08_ParamsTimes.f k l h d) true := by
    intro a b c e1 e2 e3 e4 e5 e6
    refine Ev.congr (fun k => by rw [windhoverlaw08_ParamsTimes.f]) ?_
    refine Ev.bind e1 ?_
    refine Ev.bind e2 ?_
    refine Ev.bind e3 ?_
    refine Ev.bind e4 ?_
    refine Ev.bind e5 ?_
    refine Ev.bind e6 ?_
    exact Ev.congr (f := fun k => (windhoverlaw08_awake.f k).bind fun t423 => some t423) (fun k => by rw [if_pos rfl, if_pos rfl, if_pos rfl, if_pos rfl, if_pos rfl, if_pos rfl]) (Ev.bind awake8_ev (Ev.now true))
  by_cases S : Sound l
  · have A : ∃ a, Ev (fun k => params_LandTicks.f k l h) a ∧ Ev (fun k => windhoverref08_LandTicks.f k l h) a := by
      cases g : outb h with
      | true => exact ⟨_, pland_out S g, rland_out S g⟩
      | false => exact ⟨_, pland_ok S g, rland_ok S g⟩
    have B : ∃ a, Ev (fun k => params_ReturnTicks.f k l h d) a ∧ Ev (fun k => windhoverref08_ReturnTicks.f k l h d) a := by
      cases g : outb h with
      | true => exact ⟨_, pret_out S (.inl g), rret_out S (.inl g)⟩
      | false =>
        cases g2 : outb d with
        | true => exact ⟨_, pret_out S (.inr g2), rret_out S (.inr g2)⟩
        | false => exact ⟨_, pret_ok S g g2, rret_ok S g g2⟩
    have C : ∃ a, Ev (fun k => params_Slack.f k l h) a ∧ Ev (fun k => windhoverref08_Slack.f k l h) a := by
      cases g : slb h with
      | true => exact ⟨_, pslk_out S g, rslk_out S g⟩
      | false => exact ⟨_, pslk_ok S g, rslk_ok S g⟩
    obtain ⟨a, a1, a2⟩ := A
    obtain ⟨b, b1, b2⟩ := B
    obtain ⟨c, c1, c2⟩ := C
    exact fin a b c a1 a2 b1 b2 c1 c2
  · exact fin _ _ _ (pland_no S h) (rland_no S h) (pret_no S h d) (rret_no S h d) (pslk_no S h) (rslk_no S h)

end Go.Proofs.Ytaabdnamofmfcaa.Pure
