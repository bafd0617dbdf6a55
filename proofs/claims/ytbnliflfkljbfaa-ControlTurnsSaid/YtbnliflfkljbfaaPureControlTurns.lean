/- ControlTurns: for every heading and turning, a vehicle whose turning is changed by what control.Twist says comes to the north and stays near it within 4000 ticks (from a turning of at most 800), and the awake example holds. -/
import Derived.Test.YtbnliflfkljbfaaPControlTurnsx6
namespace Go.Proofs.Ytbnliflfkljbfaa.Pure
open Go.RowKit Go.Proofs.Ytbnliflfkljbfaa.PControlTurns Go.Proofs.YtbnliflfkljbfaaW.PrintWords Go.Proofs.YtbnliflfkljbfaaW.PrintLast

set_option linter.unusedVariables false
set_option linter.unusedSimpArgs false
theorem Ev.now {α : Type} (r : α) : Ev (fun _ => some r) r := ⟨0, fun _ _ => rfl⟩

theorem wsm {a : Int} (h1 : -9223372036854775808 ≤ a) (h2 : a ≤ 9223372036854775807) : wrap64 a = a := by unfold wrap64; omega
def I64 (n : Int) : Prop := -9223372036854775808 ≤ n ∧ n ≤ 9223372036854775807

def sat (n : Int) : Int := if n > 9223372036854775807 then 9223372036854775807 else if n < -9223372036854775808 then -9223372036854775808 else n

/-! ### Add, Sub, Mul: kept within an int -/
theorem sub_ev' {a b : Int} (ha : I64 a) (hb : I64 b) : Ev (fun k => fix_Sub.f k a b) (sat (a - b)) := by
  have key : ∀ c : Bool, c = decide (a ≥ 0 ∧ b < 0 ∧ wrap64 (a - b) < 0) → Ev (fun k => fix_Sub.j0 k a b (wrap64 (a - b)) c) (sat (a - b)) := by
    intro c hc
    refine Ev.step (f := fun _ => some (sat (a - b))) (fun k => ?_) (Ev.now _)
    rw [fix_Sub.j0]
    unfold I64 at *
    have hw : (wrap64 (a - b) = a - b ∧ -9223372036854775808 ≤ a - b ∧ a - b ≤ 9223372036854775807) ∨ (wrap64 (a - b) = a - b - 18446744073709551616 ∧ a - b > 9223372036854775807) ∨ (wrap64 (a - b) = a - b + 18446744073709551616 ∧ a - b < -9223372036854775808) := by
      unfold wrap64; omega
    generalize wrap64 (a - b) = s at *
    unfold sat
    by_cases h : a ≥ 0 ∧ b < 0 ∧ s < 0
    · rw [hc, if_pos (by simpa using h)]
      rw [if_pos (by omega)]
    · rw [hc, if_neg (by simpa using h)]
      by_cases h1 : a < 0
      · rw [if_pos h1]
        by_cases h2 : b > 0
        · rw [if_pos h2]
          by_cases h3 : s ≥ 0
          · rw [if_pos h3, if_neg (by omega), if_pos (by omega)]
          · rw [if_neg h3, if_neg (by omega), if_neg (by omega)]; congr 1; omega
        · rw [if_neg h2, if_neg (by omega), if_neg (by omega)]; congr 1; omega
      · rw [if_neg h1, if_neg (by omega), if_neg (by omega)]; congr 1; omega
  by_cases h1 : a ≥ 0
  · by_cases h2 : b < 0
    · exact Ev.congr (fun k => by rw [fix_Sub.f, if_pos h1, if_pos h2]) (key _ (by simp [h1, h2]))
    · exact Ev.congr (fun k => by rw [fix_Sub.f, if_pos h1, if_neg h2]) (key _ (by simp [h2]))
  · exact Ev.congr (fun k => by rw [fix_Sub.f, if_neg h1]) (key _ (by simp [h1]))

/-- a heading's signed way from the north, the turning that is wanted, and what a tick changes of the turning -/
def ct_sg (h : Int) : Int := if h % 1048576 < 524288 then h % 1048576 else h % 1048576 - 1048576
def ct_wn (s : Int) : Int := if -(Int.tdiv s 64) < -800 then -800 else if 800 < -(Int.tdiv s 64) then 800 else -(Int.tdiv s 64)
def ct_dd (e : Int) : Int := if Int.tdiv e 4 < -100 then -100 else if 100 < Int.tdiv e 4 then 100 else Int.tdiv e 4
def ct_r (s r : Int) : Int := r + ct_dd (ct_wn s - r)
theorem ct_tdiv64 (s : Int) : (0 ≤ s ∧ Int.tdiv s 64 = s / 64) ∨ (s < 0 ∧ Int.tdiv s 64 = -((-s) / 64)) := by
  rcases Int.lt_or_le s 0 with h | h
  · right; refine ⟨h, ?_⟩
    have : s = -(-s) := by omega
    rw [this, Int.neg_tdiv, Int.neg_neg, Int.tdiv_eq_ediv_of_nonneg (by omega)]
  · left; exact ⟨h, Int.tdiv_eq_ediv_of_nonneg h⟩
theorem ct_tdiv4 (s : Int) : (0 ≤ s ∧ Int.tdiv s 4 = s / 4) ∨ (s < 0 ∧ Int.tdiv s 4 = -((-s) / 4)) := by
  rcases Int.lt_or_le s 0 with h | h
  · right; refine ⟨h, ?_⟩
    have : s = -(-s) := by omega
    rw [this, Int.neg_tdiv, Int.neg_neg, Int.tdiv_eq_ediv_of_nonneg (by omega)]
  · left; exact ⟨h, Int.tdiv_eq_ediv_of_nonneg h⟩
/-- the wanted turning, by the way's sign -/
theorem ct_wn_of (s : Int) : (0 ≤ s ∧ s < 51264 ∧ ct_wn s = -(s / 64)) ∨ (51264 ≤ s ∧ ct_wn s = -800) ∨ (s < 0 ∧ -51264 < s ∧ ct_wn s = (-s) / 64) ∨ (s ≤ -51264 ∧ ct_wn s = 800) := by
  unfold ct_wn
  rcases ct_tdiv64 s with ⟨h, e⟩ | ⟨h, e⟩ <;> rw [e]
  · by_cases h2 : s < 51264
    · left; refine ⟨h, h2, ?_⟩; split <;> first | omega | (split <;> omega)
    · right; left; refine ⟨by omega, ?_⟩; split <;> first | omega | (split <;> omega)
  · by_cases h2 : -51264 < s
    · right; right; left; refine ⟨h, h2, ?_⟩; split <;> first | omega | (split <;> omega)
    · right; right; right; refine ⟨by omega, ?_⟩; split <;> first | omega | (split <;> omega)
theorem ct_wn_le (s : Int) : -800 ≤ ct_wn s ∧ ct_wn s ≤ 800 := by
  rcases ct_wn_of s with ⟨a, b, e⟩ | ⟨a, e⟩ | ⟨a, b, e⟩ | ⟨a, e⟩ <;> omega
/-- what is left of a difference behind a tick -/
theorem ct_dd_of (e : Int) : (0 ≤ e ∧ 0 ≤ ct_dd e ∧ ct_dd e ≤ e ∧ (e - ct_dd e ≤ e - 100 ∨ e - ct_dd e ≤ (3 * e + 3) / 4)) ∨ (e < 0 ∧ ct_dd e ≤ 0 ∧ e ≤ ct_dd e ∧ (ct_dd e - e ≤ -e - 100 ∨ ct_dd e - e ≤ (3 * (-e) + 3) / 4)) := by
  unfold ct_dd
  rcases ct_tdiv4 e with ⟨h, q⟩ | ⟨h, q⟩ <;> rw [q]
  · left; refine ⟨h, ?_⟩
    split
    · omega
    · split
      · omega
      · omega
  · right; refine ⟨h, ?_⟩
    split
    · omega
    · split
      · omega
      · omega
theorem ct_r_le {s r : Int} (h1 : -800 ≤ r) (h2 : r ≤ 800) : -800 ≤ ct_r s r ∧ ct_r s r ≤ 800 := by
  have := ct_wn_le s
  unfold ct_r
  rcases ct_dd_of (ct_wn s - r) with ⟨a, b, c, d⟩ | ⟨a, b, c, d⟩ <;> omega
theorem ct_wn_diff {s t : Int} (h1 : -800 ≤ t - s) (h2 : t - s ≤ 800) : -13 ≤ ct_wn t - ct_wn s ∧ ct_wn t - ct_wn s ≤ 13 := by
  rcases ct_wn_of s with ⟨a, b, e⟩ | ⟨a, e⟩ | ⟨a, b, e⟩ | ⟨a, e⟩ <;> rcases ct_wn_of t with ⟨a', b', e'⟩ | ⟨a', e'⟩ | ⟨a', b', e'⟩ | ⟨a', e'⟩ <;> omega
theorem ct_sg_in {h : Int} (h1 : -524288 ≤ h) (h2 : h < 524288) : ct_sg h = h := by unfold ct_sg; split <;> omega
theorem ct_sg_le (h : Int) : -524288 ≤ ct_sg h ∧ ct_sg h < 524288 := by unfold ct_sg; split <;> omega
def ct_next (p : Int × Int) : Int × Int := (ct_sg (p.1 + ct_r p.1 p.2), ct_r p.1 p.2)
def ct_it : Nat → Int × Int → Int × Int
  | 0, p => p
  | n + 1, p => ct_it n (ct_next p)
theorem ct_it_add (n m : Nat) (p : Int × Int) : ct_it (n + m) p = ct_it m (ct_it n p) := by
  induction n generalizing p with
  | zero => rw [Nat.zero_add]; rfl
  | succ n ih => rw [show n + 1 + m = (n + m) + 1 by omega]; exact ih _
theorem ct_it_succ (n : Nat) (p : Int × Int) : ct_it (n + 1) p = ct_next (ct_it n p) := ct_it_add n 1 p
/-- what a state may be at all -/
def CtB (p : Int × Int) : Prop := -524288 ≤ p.1 ∧ p.1 < 524288 ∧ -800 ≤ p.2 ∧ p.2 ≤ 800
theorem CtB.next {p : Int × Int} (h : CtB p) : CtB (ct_next p) :=
  ⟨(ct_sg_le _).1, (ct_sg_le _).2, (ct_r_le h.2.2.1 h.2.2.2).1, (ct_r_le h.2.2.1 h.2.2.2).2⟩
/-- the turning is near what is wanted -/
def CtS (p : Int × Int) : Prop := CtB p ∧ -60 ≤ ct_wn p.1 - p.2 ∧ ct_wn p.1 - p.2 ≤ 60
theorem CtS.stays {p : Int × Int} (h : CtS p) : ct_next p = (p.1 + ct_r p.1 p.2, ct_r p.1 p.2) ∧ (51264 ≤ p.1 → ct_r p.1 p.2 ≤ -740) ∧ (p.1 ≤ -51264 → 740 ≤ ct_r p.1 p.2) := by
  obtain ⟨⟨a, b, c, d⟩, e, f⟩ := h
  have hr := ct_r_le (s := p.1) c d
  have hw := ct_wn_of p.1
  have hd := ct_dd_of (ct_wn p.1 - p.2)
  have hq : ct_r p.1 p.2 = p.2 + ct_dd (ct_wn p.1 - p.2) := rfl
  refine ⟨?_, ?_, ?_⟩
  · unfold ct_next
    rw [ct_sg_in]
    · rcases hw with ⟨g, k, m⟩ | ⟨g, m⟩ | ⟨g, k, m⟩ | ⟨g, m⟩ <;> rcases hd with ⟨x, y, z, u⟩ | ⟨x, y, z, u⟩ <;> omega
    · rcases hw with ⟨g, k, m⟩ | ⟨g, m⟩ | ⟨g, k, m⟩ | ⟨g, m⟩ <;> rcases hd with ⟨x, y, z, u⟩ | ⟨x, y, z, u⟩ <;> omega
  · intro g
    rcases hw with ⟨_, k, m⟩ | ⟨_, m⟩ | ⟨_, k, m⟩ | ⟨_, m⟩ <;> rcases hd with ⟨x, y, z, u⟩ | ⟨x, y, z, u⟩ <;> omega
  · intro g
    rcases hw with ⟨_, k, m⟩ | ⟨_, m⟩ | ⟨_, k, m⟩ | ⟨_, m⟩ <;> rcases hd with ⟨x, y, z, u⟩ | ⟨x, y, z, u⟩ <;> omega
theorem CtS.next {p : Int × Int} (h : CtS p) : CtS (ct_next p) := by
  refine ⟨h.1.next, ?_⟩
  rw [h.stays.1]
  obtain ⟨⟨a, b, c, d⟩, e, f⟩ := h
  have hr := ct_r_le (s := p.1) c d
  have hw := ct_wn_diff (s := p.1) (t := p.1 + ct_r p.1 p.2) (by omega) (by omega)
  have hd := ct_dd_of (ct_wn p.1 - p.2)
  have hq : ct_r p.1 p.2 = p.2 + ct_dd (ct_wn p.1 - p.2) := rfl
  dsimp only
  rcases hd with ⟨x, y, z, u⟩ | ⟨x, y, z, u⟩ <;> omega
/-- how far the turning may be from what is wanted, tick by tick -/
def ct_f (x : Int) : Int := max (x - 100) ((3 * x + 3) / 4) + 13
def ct_bs : Nat → Int
  | 0 => 1600
  | n + 1 => ct_f (ct_bs n)
def ct_cs : Nat → Int
  | 0 => 800
  | n + 1 => max (ct_cs n - 100) ((3 * ct_cs n + 3) / 4)
/-- behind a crossing of the south with a turning to the north -/
theorem ct_good_pos (n : Nat) (hn : n ≤ 30) : ∀ p : Int × Int, -524288 ≤ p.1 → p.1 < -524288 + 800 → 0 ≤ p.2 → p.2 ≤ 800 →
    -524288 ≤ (ct_it n p).1 ∧ (ct_it n p).1 < -524288 + 800 * (n + 1) ∧ 0 ≤ (ct_it n p).2 ∧ (ct_it n p).2 ≤ 800 ∧ 800 - (ct_it n p).2 ≤ ct_cs n := by
  intro p h1 h2 h3 h4
  induction n with
  | zero => exact ⟨h1, by simpa [ct_it] using h2, h3, h4, by simp only [ct_it, ct_cs]; omega⟩
  | succ n ih =>
    obtain ⟨a, b, c, d, e⟩ := ih (by omega)
    rw [ct_it_succ]
    have hw : ct_wn (ct_it n p).1 = 800 := by rcases ct_wn_of (ct_it n p).1 with ⟨_, _, _⟩ | ⟨_, _⟩ | ⟨_, _, _⟩ | ⟨_, h⟩ <;> first | omega | exact h
    have hr := ct_r_le (s := (ct_it n p).1) (show -800 ≤ (ct_it n p).2 by omega) d
    have hd := ct_dd_of (800 - (ct_it n p).2)
    have hq : ct_r (ct_it n p).1 (ct_it n p).2 = (ct_it n p).2 + ct_dd (800 - (ct_it n p).2) := by unfold ct_r; rw [hw]
    have hs : ct_sg ((ct_it n p).1 + ct_r (ct_it n p).1 (ct_it n p).2) = (ct_it n p).1 + ct_r (ct_it n p).1 (ct_it n p).2 := ct_sg_in (by rcases hd with ⟨x, y, z, u⟩ | ⟨x, y, z, u⟩ <;> omega) (by omega)
    unfold ct_next
    rw [hs]
    dsimp only
    simp only [ct_cs]
    rcases hd with ⟨x, y, z, u⟩ | ⟨x, y, z, u⟩ <;> refine ⟨?_, ?_, ?_, ?_, ?_⟩ <;> omega
theorem ct_good_neg (n : Nat) (hn : n ≤ 30) : ∀ p : Int × Int, 524288 - 800 ≤ p.1 → p.1 < 524288 → p.2 ≤ 0 → -800 ≤ p.2 →
    (ct_it n p).1 < 524288 ∧ 524288 - 800 * (n + 1) ≤ (ct_it n p).1 ∧ (ct_it n p).2 ≤ 0 ∧ -800 ≤ (ct_it n p).2 ∧ (ct_it n p).2 + 800 ≤ ct_cs n := by
  intro p h1 h2 h3 h4
  induction n with
  | zero => exact ⟨h2, by simpa [ct_it] using h1, h3, h4, by simp only [ct_it, ct_cs]; omega⟩
  | succ n ih =>
    obtain ⟨a, b, c, d, e⟩ := ih (by omega)
    rw [ct_it_succ]
    have hw : ct_wn (ct_it n p).1 = -800 := by rcases ct_wn_of (ct_it n p).1 with ⟨_, _, _⟩ | ⟨_, h⟩ | ⟨_, _, _⟩ | ⟨_, _⟩ <;> first | omega | exact h
    have hr := ct_r_le (s := (ct_it n p).1) d (show (ct_it n p).2 ≤ 800 by omega)
    have hd := ct_dd_of (-800 - (ct_it n p).2)
    have hq : ct_r (ct_it n p).1 (ct_it n p).2 = (ct_it n p).2 + ct_dd (-800 - (ct_it n p).2) := by unfold ct_r; rw [hw]
    have hs : ct_sg ((ct_it n p).1 + ct_r (ct_it n p).1 (ct_it n p).2) = (ct_it n p).1 + ct_r (ct_it n p).1 (ct_it n p).2 := ct_sg_in (by omega) (by rcases hd with ⟨x, y, z, u⟩ | ⟨x, y, z, u⟩ <;> omega)
    unfold ct_next
    rw [hs]
    dsimp only
    simp only [ct_cs]
    rcases hd with ⟨x, y, z, u⟩ | ⟨x, y, z, u⟩ <;> refine ⟨?_, ?_, ?_, ?_, ?_⟩ <;> omega
set_option maxRecDepth 100000 in
theorem ct_cross_pos {p : Int × Int} (h1 : -524288 ≤ p.1) (h2 : p.1 < -524288 + 800) (h3 : 0 ≤ p.2) (h4 : p.2 ≤ 800) : CtS (ct_it 20 p) := by
  obtain ⟨a, b, c, d, e⟩ := ct_good_pos 20 (by decide) p h1 h2 h3 h4
  have hc : ct_cs 20 ≤ 60 := by decide
  have hw : ct_wn (ct_it 20 p).1 = 800 := by rcases ct_wn_of (ct_it 20 p).1 with ⟨_, _, _⟩ | ⟨_, _⟩ | ⟨_, _, _⟩ | ⟨_, h⟩ <;> first | omega | exact h
  exact ⟨⟨a, by omega, by omega, d⟩, by rw [hw]; omega, by rw [hw]; omega⟩
set_option maxRecDepth 100000 in
theorem ct_cross_neg {p : Int × Int} (h1 : 524288 - 800 ≤ p.1) (h2 : p.1 < 524288) (h3 : p.2 ≤ 0) (h4 : -800 ≤ p.2) : CtS (ct_it 20 p) := by
  obtain ⟨a, b, c, d, e⟩ := ct_good_neg 20 (by decide) p h1 h2 h3 h4
  have hc : ct_cs 20 ≤ 60 := by decide
  have hw : ct_wn (ct_it 20 p).1 = -800 := by rcases ct_wn_of (ct_it 20 p).1 with ⟨_, _, _⟩ | ⟨_, h⟩ | ⟨_, _, _⟩ | ⟨_, _⟩ <;> first | omega | exact h
  exact ⟨⟨by omega, a, d, by omega⟩, by rw [hw]; omega, by rw [hw]; omega⟩
theorem CtS.its {p : Int × Int} (h : CtS p) (n : Nat) : CtS (ct_it n p) := by
  induction n with
  | zero => exact h
  | succ n ih => rw [ct_it_succ]; exact ih.next
theorem CtB.its {p : Int × Int} (h : CtB p) (n : Nat) : CtB (ct_it n p) := by
  induction n with
  | zero => exact h
  | succ n ih => rw [ct_it_succ]; exact ih.next
/-- a tick crosses the south, or brings the turning nearer to what is wanted -/
theorem ct_step {p : Int × Int} {B : Int} (h : CtB p) (h1 : -B ≤ ct_wn p.1 - p.2) (h2 : ct_wn p.1 - p.2 ≤ B) :
    (-(ct_f B) ≤ ct_wn (ct_next p).1 - (ct_next p).2 ∧ ct_wn (ct_next p).1 - (ct_next p).2 ≤ ct_f B) ∨ CtS (ct_it 20 (ct_next p)) := by
  have hB := h.next
  obtain ⟨a, b, c, d⟩ := h
  have hr := ct_r_le (s := p.1) c d
  by_cases hlo : p.1 + ct_r p.1 p.2 < -524288
  · right
    have hs : ct_sg (p.1 + ct_r p.1 p.2) = p.1 + ct_r p.1 p.2 + 1048576 := by unfold ct_sg; split <;> omega
    refine ct_cross_neg (p := ct_next p) ?_ hB.2.1 ?_ hB.2.2.1
    · show _ ≤ ct_sg _; rw [hs]; omega
    · show ct_r p.1 p.2 ≤ 0; omega
  · by_cases hhi : 524288 ≤ p.1 + ct_r p.1 p.2
    · right
      have hs : ct_sg (p.1 + ct_r p.1 p.2) = p.1 + ct_r p.1 p.2 - 1048576 := by unfold ct_sg; split <;> omega
      refine ct_cross_pos (p := ct_next p) hB.1 ?_ ?_ hB.2.2.2
      · show ct_sg _ < _; rw [hs]; omega
      · show 0 ≤ ct_r p.1 p.2; omega
    · left
      unfold ct_next
      rw [ct_sg_in (by omega) (by omega)]
      have hw := ct_wn_diff (s := p.1) (t := p.1 + ct_r p.1 p.2) (by omega) (by omega)
      have hd := ct_dd_of (ct_wn p.1 - p.2)
      have hq : ct_r p.1 p.2 = p.2 + ct_dd (ct_wn p.1 - p.2) := rfl
      unfold ct_f
      dsimp only
      rcases hd with ⟨x, y, z, u⟩ | ⟨x, y, z, u⟩ <;> omega
theorem ct_settles {p : Int × Int} (h : CtB p) (n : Nat) : (-(ct_bs n) ≤ ct_wn (ct_it n p).1 - (ct_it n p).2 ∧ ct_wn (ct_it n p).1 - (ct_it n p).2 ≤ ct_bs n) ∨ CtS (ct_it (n + 20) p) := by
  induction n with
  | zero =>
    left
    have := ct_wn_le p.1
    obtain ⟨a, b, c, d⟩ := h
    simp only [ct_it, ct_bs]
    omega
  | succ n ih =>
    rcases ih with ⟨h1, h2⟩ | h1
    · rw [ct_it_succ]
      rcases ct_step (h.its n) h1 h2 with h3 | h3
      · exact .inl h3
      · right; rw [ct_it_add (n + 1) 20, ct_it_succ n]; exact h3
    · right; rw [show n + 1 + 20 = (n + 20) + 1 by omega, ct_it_succ (n + 20)]; exact h1.next
set_option maxRecDepth 100000 in
theorem ct_near_S {p : Int × Int} (h : CtB p) : CtS (ct_it 60 p) := by
  rcases ct_settles h 40 with ⟨a, b⟩ | a
  · have hc : ct_bs 40 ≤ 60 := by decide
    have : CtS (ct_it 40 p) := ⟨h.its 40, by omega, by omega⟩
    rw [show (60 : Nat) = 40 + 20 from rfl, ct_it_add 40 20]
    exact this.its 20
  · exact a
/-- from there it comes near the north -/
def CtN (p : Int × Int) : Prop := CtS p ∧ -51263 ≤ p.1 ∧ p.1 ≤ 51263
theorem CtN.next {p : Int × Int} (h : CtN p) : CtN (ct_next p) := by
  refine ⟨h.1.next, ?_⟩
  rw [h.1.stays.1]
  obtain ⟨⟨⟨a, b, c, d⟩, e, f⟩, g, k⟩ := h
  have hd := ct_dd_of (ct_wn p.1 - p.2)
  have hq : ct_r p.1 p.2 = p.2 + ct_dd (ct_wn p.1 - p.2) := rfl
  dsimp only
  rcases ct_wn_of p.1 with ⟨_, _, m⟩ | ⟨_, m⟩ | ⟨_, _, m⟩ | ⟨_, m⟩ <;> rcases hd with ⟨x, y, z, u⟩ | ⟨x, y, z, u⟩ <;> omega
theorem CtN.its {p : Int × Int} (h : CtN p) (n : Nat) : CtN (ct_it n p) := by
  induction n with
  | zero => exact h
  | succ n ih => rw [ct_it_succ]; exact ih.next
theorem ct_far (n : Nat) : ∀ p : Int × Int, CtS p → p.1 ≤ 51263 + 740 * n → -51263 - 740 * n ≤ p.1 → CtN (ct_it n p) := by
  induction n with
  | zero => intro p h a b; exact ⟨h, show -51263 ≤ p.1 by omega, show p.1 ≤ 51263 by omega⟩
  | succ n ih =>
    intro p h a b
    show CtN (ct_it n (ct_next p))
    by_cases hn : -51263 ≤ p.1 ∧ p.1 ≤ 51263
    · exact (CtN.next ⟨h, hn.1, hn.2⟩).its n
    · have hs := h.stays
      have hr := ct_r_le (s := p.1) h.1.2.2.1 h.1.2.2.2
      refine ih _ h.next ?_ ?_
      · rw [hs.1]; show p.1 + ct_r p.1 p.2 ≤ _; by_cases q : 51264 ≤ p.1
        · have := hs.2.1 q; omega
        · have := hs.2.2 (by omega); omega
      · rw [hs.1]; show _ ≤ p.1 + ct_r p.1 p.2; by_cases q : 51264 ≤ p.1
        · have := hs.2.1 q; omega
        · have := hs.2.2 (by omega); omega
theorem ct_near {p : Int × Int} (h : CtB p) : CtN (ct_it 700 p) := by
  rw [show (700 : Nat) = 60 + 640 from rfl, ct_it_add]
  have hs := ct_near_S h
  exact ct_far 640 _ hs (by have := hs.1.2.1; omega) (by have := hs.1.1; omega)
/-- then way and turning shrink together -/
def ct_he : Nat → Nat × Nat
  | 0 => (51263, 60)
  | n + 1 => ((ct_he n).1 - (ct_he n).1 / 64 + (3 * (ct_he n).2 + 3) / 4, (3 * (ct_he n).2 + 3) / 4 + ((ct_he n).1 / 64 + (3 * (ct_he n).2 + 3) / 4) / 64 + 1)
theorem ct_shrink {p : Int × Int} {H E : Int} (h : CtN p) (h1 : -H ≤ p.1) (h2 : p.1 ≤ H) (h3 : -E ≤ ct_wn p.1 - p.2) (h4 : ct_wn p.1 - p.2 ≤ E) (hE : E ≤ 60) :
    -(H - H / 64 + (3 * E + 3) / 4) ≤ (ct_next p).1 ∧ (ct_next p).1 ≤ H - H / 64 + (3 * E + 3) / 4 ∧ -((3 * E + 3) / 4 + (H / 64 + (3 * E + 3) / 4) / 64 + 1) ≤ ct_wn (ct_next p).1 - (ct_next p).2 ∧ ct_wn (ct_next p).1 - (ct_next p).2 ≤ (3 * E + 3) / 4 + (H / 64 + (3 * E + 3) / 4) / 64 + 1 := by
  have hn := h.next
  rw [h.1.stays.1] at hn ⊢
  obtain ⟨_, g', k'⟩ := hn
  obtain ⟨⟨⟨a, b, c, d⟩, e, f⟩, g, k⟩ := h
  dsimp only at g' k' ⊢
  have hd := ct_dd_of (ct_wn p.1 - p.2)
  have hq : ct_r p.1 p.2 = p.2 + ct_dd (ct_wn p.1 - p.2) := rfl
  obtain ⟨q, hqq⟩ : ∃ q, ct_r p.1 p.2 = q := ⟨_, rfl⟩
  rw [hqq] at hq g' k' ⊢
  obtain ⟨dv, hdv⟩ : ∃ x, ct_dd (ct_wn p.1 - p.2) = x := ⟨_, rfl⟩
  rw [hdv] at hd hq
  obtain ⟨w, hw⟩ : ∃ x, ct_wn p.1 = x := ⟨_, rfl⟩
  have hwo := ct_wn_of p.1
  rw [hw] at hd h3 h4 e f hwo
  have hwo' := ct_wn_of (p.1 + q)
  obtain ⟨w', hw'⟩ : ∃ x, ct_wn (p.1 + q) = x := ⟨_, rfl⟩
  rw [hw'] at hwo' ⊢
  obtain ⟨s, hs⟩ : ∃ x, p.1 = x := ⟨_, rfl⟩
  obtain ⟨r, hr⟩ : ∃ x, p.2 = x := ⟨_, rfl⟩
  rw [hs] at h1 h2 hwo hwo' g' k' g k a b ⊢
  rw [hr] at h3 h4 hd hq c d e f
  have hm : -((3 * E + 3) / 4) ≤ w - q ∧ w - q ≤ (3 * E + 3) / 4 := by rcases hd with ⟨x, y, z, u⟩ | ⟨x, y, z, u⟩ <;> omega
  clear hd hdv hqq hw hw' hs hr hq e f h3 h4
  obtain ⟨M, hM⟩ : ∃ M, (3 * E + 3) / 4 = M := ⟨_, rfl⟩
  rw [hM] at hm ⊢
  clear hM hE
  have hsq : -(H - H / 64 + M) ≤ s + q ∧ s + q ≤ H - H / 64 + M := by
    rcases hwo with ⟨_, _, m⟩ | ⟨_, m⟩ | ⟨_, _, m⟩ | ⟨_, m⟩ <;> omega
  have hqb : -(H / 64 + M) ≤ q ∧ q ≤ H / 64 + M := by
    rcases hwo with ⟨_, _, m⟩ | ⟨_, m⟩ | ⟨_, _, m⟩ | ⟨_, m⟩ <;> omega
  obtain ⟨R, hR⟩ : ∃ R, H / 64 + M = R := ⟨_, rfl⟩
  rw [hR] at hqb ⊢
  have hww : -(R / 64 + 1) ≤ w' - w ∧ w' - w ≤ R / 64 + 1 := by
    clear hsq hR h1 h2 hm a b c d
    rcases hwo with ⟨_, _, m⟩ | ⟨_, m⟩ | ⟨_, _, m⟩ | ⟨_, m⟩ <;> rcases hwo' with ⟨_, _, m'⟩ | ⟨_, m'⟩ | ⟨_, _, m'⟩ | ⟨_, m'⟩ <;> omega
  refine ⟨hsq.1, hsq.2, ?_, ?_⟩ <;> omega
theorem ct_shrinks (n : Nat) {p : Int × Int} (h : CtN p) : (-((ct_he n).1 : Int) ≤ (ct_it n p).1 ∧ (ct_it n p).1 ≤ (ct_he n).1) ∧ -((min (ct_he n).2 60 : Nat) : Int) ≤ ct_wn (ct_it n p).1 - (ct_it n p).2 ∧ ct_wn (ct_it n p).1 - (ct_it n p).2 ≤ ((min (ct_he n).2 60 : Nat) : Int) := by
  induction n with
  | zero => obtain ⟨⟨_, e, f⟩, g, k⟩ := h; exact ⟨⟨g, k⟩, e, f⟩
  | succ n ih =>
    obtain ⟨⟨a, b⟩, c, d⟩ := ih
    have hN := h.its n
    have hS := (hN.next).1
    rw [ct_it_succ]
    obtain ⟨x, y, z, u⟩ := ct_shrink hN a b c d (by omega)
    obtain ⟨_, e, f⟩ := hS
    simp only [ct_he]
    refine ⟨⟨?_, ?_⟩, ?_, ?_⟩ <;> omega
def CtT (p : Int × Int) : Prop := CtN p ∧ (-511 ≤ p.1 ∧ p.1 ≤ 511) ∧ -7 ≤ ct_wn p.1 - p.2 ∧ ct_wn p.1 - p.2 ≤ 7
theorem CtT.next {p : Int × Int} (h : CtT p) : CtT (ct_next p) := by
  obtain ⟨hN, ⟨a, b⟩, c, d⟩ := h
  obtain ⟨x, y, z, u⟩ := ct_shrink hN a b c d (by decide)
  exact ⟨hN.next, ⟨by omega, by omega⟩, by omega, by omega⟩
theorem CtT.its {p : Int × Int} (h : CtT p) (n : Nat) : CtT (ct_it n p) := by
  induction n with
  | zero => exact h
  | succ n ih => rw [ct_it_succ]; exact ih.next
set_option maxRecDepth 100000 in
theorem ct_he_end : (ct_he 1000).1 ≤ 511 ∧ (ct_he 1000).2 ≤ 7 := by decide
theorem ct_ends {p : Int × Int} (h : CtB p) : CtT (ct_it 4000 p) := by
  rw [show (4000 : Nat) = 700 + 3300 from rfl, ct_it_add, show (3300 : Nat) = 1000 + 2300 from rfl, ct_it_add]
  refine CtT.its ?_ 2300
  have hN := ct_near h
  obtain ⟨⟨a, b⟩, c, d⟩ := ct_shrinks 1000 hN
  have he := ct_he_end
  exact ⟨hN.its 1000, ⟨by omega, by omega⟩, by omega, by omega⟩
theorem CtT.small {p : Int × Int} (h : CtT p) : -512 ≤ p.1 ∧ p.1 ≤ 512 ∧ -16 ≤ p.2 ∧ p.2 ≤ 16 := by
  obtain ⟨_, ⟨a, b⟩, c, d⟩ := h
  rcases ct_wn_of p.1 with ⟨_, _, m⟩ | ⟨_, m⟩ | ⟨_, _, m⟩ | ⟨_, m⟩ <;> omega

/-! ### Twist, where the numbers are small -/
theorem ct_tmod (h : Int) : (0 ≤ h ∧ Int.tmod h 1048576 = h % 1048576) ∨ (h < 0 ∧ Int.tmod h 1048576 = -((-h) % 1048576)) := by
  rcases Int.lt_or_le h 0 with g | g
  · right; refine ⟨g, ?_⟩
    have : h = -(-h) := by omega
    rw [this, Int.neg_tmod, Int.neg_neg, Int.tmod_eq_emod_of_nonneg (by omega)]
  · left; exact ⟨g, Int.tmod_eq_emod_of_nonneg g⟩
theorem ct_i16 (x : Int) (h0 : 0 ≤ x) (h1 : x < 65536) : IntKind.i16.wrap x = if x < 32768 then x else x - 65536 := by
  simp only [IntKind.wrap, IntKind.bits, IntKind.signed]; simp; split <;> split <;> omega
theorem clamp_f (a lo hi : Int) : fix_Clamp.f a lo hi = some (if a < lo then lo else if a > hi then hi else a) := by
  unfold fix_Clamp.f; split; · rfl
  split <;> rfl
theorem way_f (x : Int) (h0 : 0 ≤ x) (h1 : x < 65536) : trig_Way.f 0 x = some (if x < 32768 then x else x - 65536) := by
  rw [trig_Way.f, show x - 0 = x by omega, wsm (a := x) (by omega) (by omega), ct_i16 x h0 h1, wsm (by split <;> omega) (by split <;> omega)]
theorem twist_ev {h r : Int} (h1 : -100000000 ≤ h) (h2 : h ≤ 100000000) (r1 : -800 ≤ r) (r2 : r ≤ 800) : Ev (fun k => control_Twist.f k h r 800) (ct_dd (ct_wn (ct_sg h) - r)) := by
  have hm := ct_tmod h
  obtain ⟨m, em⟩ : ∃ m, Int.tmod h 1048576 = m := ⟨_, rfl⟩
  rw [em] at hm
  have w1 : wrap64 (m + 1048576) = m + 1048576 := wsm (by omega) (by omega)
  have t1 : Int.tmod (m + 1048576) 1048576 = h % 1048576 := by rw [Int.tmod_eq_emod_of_nonneg (by omega)]; omega
  have t2 : Int.tmod (m + 1048576) 16 = h % 16 := by rw [Int.tmod_eq_emod_of_nonneg (by omega)]; omega
  have t3 : Int.tdiv (h % 1048576) 16 = h % 1048576 / 16 := Int.tdiv_eq_ediv_of_nonneg (by omega)
  have mx0 : mx 800 0 = 800 := by decide
  have w2 : wrap64 (h % 1048576 / 16) = h % 1048576 / 16 := wsm (by omega) (by omega)
  have w8 : wrap64 (-800) = -800 := wsm (by omega) (by omega)
  refine Ev.congr (fun k => by rw [control_Twist.f, em, w1, t1, t2, t3, mx0, w2, w8]) ?_
  refine Ev.bind (f := fun _ t => _) (Ev.congr (fun k => way_f _ (by omega) (by omega)) (Ev.now _)) ?_
  obtain ⟨s, es⟩ : ∃ s, ct_sg h = s := ⟨_, rfl⟩
  rw [es]
  have hs : wrap64 ((wrap64 (16 * (if h % 1048576 / 16 < 32768 then h % 1048576 / 16 else h % 1048576 / 16 - 65536))) + h % 16) = s := by
    rw [← es]; unfold ct_sg
    rw [wsm (a := 16 * _) (by split <;> omega) (by split <;> omega), wsm (by split <;> omega) (by split <;> omega)]
    split <;> split <;> omega
  have hb : -524288 ≤ s ∧ s < 524288 := by rw [← es]; exact ct_sg_le h
  have w3 : wrap64 (Int.tdiv s 64) = Int.tdiv s 64 := by rcases ct_tdiv64 s with ⟨_, e⟩ | ⟨_, e⟩ <;> (rw [e]; exact wsm (by omega) (by omega))
  have w4 : wrap64 (-(Int.tdiv s 64)) = -(Int.tdiv s 64) := by rcases ct_tdiv64 s with ⟨_, e⟩ | ⟨_, e⟩ <;> (rw [e]; exact wsm (by omega) (by omega))
  refine Ev.congr (fun k => by rw [hs, w3, w4]) ?_
  refine Ev.bind (f := fun _ t => _) (Ev.congr (fun k => clamp_f _ _ _) (Ev.now _)) ?_
  have hw : (if -(Int.tdiv s 64) < -800 then -800 else if -(Int.tdiv s 64) > 800 then 800 else -(Int.tdiv s 64)) = ct_wn s := by unfold ct_wn; rfl
  rw [hw]
  have hwl := ct_wn_le s
  obtain ⟨w, ew⟩ : ∃ w, ct_wn s = w := ⟨_, rfl⟩
  rw [ew] at hwl ⊢
  refine Ev.bind (sub_ev' (a := w) (b := r) (by unfold I64; omega) (by unfold I64; omega)) ?_
  have hsat : sat (w - r) = w - r := by unfold sat; rw [if_neg (by omega), if_neg (by omega)]
  rw [hsat]
  have w5 : wrap64 (Int.tdiv (w - r) 4) = Int.tdiv (w - r) 4 := by rcases ct_tdiv4 (w - r) with ⟨_, e⟩ | ⟨_, e⟩ <;> (rw [e]; exact wsm (by omega) (by omega))
  refine Ev.congr (fun k => by rw [w5]) ?_
  refine Ev.bind (f := fun _ t => _) (Ev.congr (fun k => clamp_f _ _ _) (Ev.now _)) ?_
  exact Ev.now _

/-! ### 4000 ticks -/
set_option maxRecDepth 100000 in
theorem awake17_ev : Ev (fun k => windhoverlaw17_awake.f k) true := by
  have h : windhoverlaw17_awake.f 120 = some true := by decide +kernel
  exact Ev.of (fun k => windhoverlaw17_awake.mono k) h
theorem sg_step {h q : Int} : ct_sg (h + q) = ct_sg (ct_sg h + q) := by unfold ct_sg; split <;> split <;> split <;> omega
theorem turns_end {h r : Int} (hs : -512 ≤ ct_sg h ∧ ct_sg h ≤ 512 ∧ -16 ≤ r ∧ r ≤ 16) : Ev (fun k => windhoverlaw17_ControlTurns.l0 k h r 4000) true := by
  obtain ⟨s1, s2, r1, r2⟩ := hs
  have hm := ct_tmod h
  obtain ⟨m, em⟩ : ∃ m, Int.tmod h 1048576 = m := ⟨_, rfl⟩
  rw [em] at hm
  have fin : Ev (fun k => (windhoverlaw17_awake.f k).bind fun t386 => some t386) true := Ev.bind awake17_ev (Ev.now true)
  have hv : (m ≥ 524288 ∧ ct_sg h = m - 1048576) ∨ (m < -524288 ∧ ct_sg h = m + 1048576) ∨ (-524288 ≤ m ∧ m < 524288 ∧ ct_sg h = m) := by unfold ct_sg; split <;> omega
  rcases hv with ⟨a, e⟩ | ⟨a, e⟩ | ⟨a, b, e⟩
  · have w : wrap64 (m - 1048576) = m - 1048576 := wsm (by omega) (by omega)
    exact Ev.step (fun k => by rw [windhoverlaw17_ControlTurns.l0, if_neg (by decide), em, if_pos a, w, if_neg (by omega), if_pos (by omega), if_pos (by omega), if_pos (by omega), if_pos (by omega)]) fin
  · have w : wrap64 (m + 1048576) = m + 1048576 := wsm (by omega) (by omega)
    exact Ev.step (fun k => by rw [windhoverlaw17_ControlTurns.l0, if_neg (by decide), em, if_neg (by omega), if_pos a, w, if_pos (by omega), if_pos (by omega), if_pos (by omega), if_pos (by omega)]) fin
  · exact Ev.step (fun k => by rw [windhoverlaw17_ControlTurns.l0, if_neg (by decide), em, if_neg (by omega), if_neg (by omega), if_pos (by omega), if_pos (by omega), if_pos (by omega), if_pos (by omega)]) fin
theorem turns_loop : ∀ (n i : Nat) (h r : Int), i + n = 4000 → -530000 - 800 * (i : Int) ≤ h → h ≤ 530000 + 800 * (i : Int) → CtB (ct_sg h, r) → CtT (ct_it n (ct_sg h, r)) → Ev (fun k => windhoverlaw17_ControlTurns.l0 k h r (i : Int)) true := by
  intro n
  induction n with
  | zero =>
    intro i h r hi _ _ _ ht
    obtain rfl : i = 4000 := by omega
    exact turns_end ht.small
  | succ n ih =>
    intro i h r hi h1 h2 hb ht
    obtain ⟨b1, b2, b3, b4⟩ := hb
    dsimp only at b1 b2 b3 b4
    have hr := ct_r_le (s := ct_sg h) b3 b4
    have hq : r + ct_dd (ct_wn (ct_sg h) - r) = ct_r (ct_sg h) r := rfl
    have w1 : wrap64 (r + ct_dd (ct_wn (ct_sg h) - r)) = ct_r (ct_sg h) r := by rw [hq]; exact wsm (by omega) (by omega)
    have w2 : wrap64 (h + ct_r (ct_sg h) r) = h + ct_r (ct_sg h) r := wsm (by omega) (by omega)
    have w3 : wrap64 ((i : Int) + 1) = ((i + 1 : Nat) : Int) := by rw [wsm (by omega) (by omega)]; omega
    have hn : ct_next (ct_sg h, r) = (ct_sg (h + ct_r (ct_sg h) r), ct_r (ct_sg h) r) := by unfold ct_next; dsimp only; rw [sg_step (h := h)]
    refine Ev.step (fun k => by rw [windhoverlaw17_ControlTurns.l0, if_pos (by omega)]) ?_
    refine Ev.bind (twist_ev (by omega) (by omega) b3 b4) ?_
    refine Ev.congr (fun k => by rw [w1, w2, w3]) ?_
    have hb' : CtB (ct_sg (h + ct_r (ct_sg h) r), ct_r (ct_sg h) r) := ⟨(ct_sg_le _).1, (ct_sg_le _).2, hr.1, hr.2⟩
    refine ih (i + 1) _ _ (by omega) (by omega) (by omega) hb' ?_
    rw [← hn]
    exact ht
theorem ControlTurns : windhoverlaw17_ControlTurns.Pure := by
  intro h r h1 h2
  apply Ev.rounds
  have fin : Ev (fun k => (windhoverlaw17_awake.f k).bind fun t384 => some t384) true := Ev.bind awake17_ev (Ev.now true)
  have go : ∀ x : Int, -524288 ≤ x → x ≤ 524288 → -800 ≤ r → r ≤ 800 → Ev (fun k => windhoverlaw17_ControlTurns.j2 k r x) true := by
    intro x x1 x2 r1 r2
    refine Ev.step (fun k => by rw [windhoverlaw17_ControlTurns.j2]) ?_
    have hb : CtB (ct_sg x, r) := ⟨(ct_sg_le _).1, (ct_sg_le _).2, r1, r2⟩
    exact turns_loop 4000 0 x r (by omega) (by omega) (by omega) hb (ct_ends hb)
  by_cases c1 : r < -800
  · exact Ev.congr (fun k => by rw [windhoverlaw17_ControlTurns.f, if_pos c1]) (Ev.step (fun k => by rw [windhoverlaw17_ControlTurns.j0, if_pos rfl]) fin)
  refine Ev.congr (fun k => by rw [windhoverlaw17_ControlTurns.f, if_neg c1]) ?_
  by_cases c2 : r > 800
  · exact Ev.step (fun k => by rw [windhoverlaw17_ControlTurns.j0, if_pos (decide_eq_true c2)]) fin
  have hm := ct_tmod h
  obtain ⟨m, em⟩ : ∃ m, Int.tmod h 1048576 = m := ⟨_, rfl⟩
  rw [em] at hm
  have j1 : ∀ x : Int, -1048576 < x → x < 524288 → Ev (fun k => windhoverlaw17_ControlTurns.j1 k r x) true := by
    intro x x1 x2
    by_cases c : x < -524288
    · have w : wrap64 (x + 1048576) = x + 1048576 := wsm (by omega) (by omega)
      exact Ev.step (fun k => by rw [windhoverlaw17_ControlTurns.j1, if_pos c, w]) (go _ (by omega) (by omega) (by omega) (by omega))
    · exact Ev.step (fun k => by rw [windhoverlaw17_ControlTurns.j1, if_neg c]) (go _ (by omega) (by omega) (by omega) (by omega))
  by_cases c3 : m ≥ 524288
  · have w : wrap64 (m - 1048576) = m - 1048576 := wsm (by omega) (by omega)
    exact Ev.step (fun k => by rw [windhoverlaw17_ControlTurns.j0, if_neg (by simpa using c2), em, if_pos c3, w]) (j1 _ (by omega) (by omega))
  · exact Ev.step (fun k => by rw [windhoverlaw17_ControlTurns.j0, if_neg (by simpa using c2), em, if_neg c3]) (j1 _ (by omega) (by omega))

end Go.Proofs.Ytbnliflfkljbfaa.Pure
