/- The plain law of PowerFollows. -/
import Derived.Test.YtmmlahckcgjofaaPPowerFollowsx19
namespace Go.Proofs.Ytmmlahckcgjofaa.Pure
open Go.RowKit Go.Proofs.Ytmmlahckcgjofaa.PPowerFollows Go.Proofs.YtmmlahckcgjofaaW.PrintWords Go.Proofs.YtmmlahckcgjofaaW.PrintLast

set_option linter.unusedVariables false
set_option linter.unusedSimpArgs false
theorem Ev.now {α : Type} (r : α) : Ev (fun _ => some r) r := ⟨0, fun _ _ => rfl⟩

/-! ### Whole numbers of any length, by digits of 2^30: the plain lists -/
def V : List Int → Int
 | [] => 0
 | d :: ds => d + 1073741824 * V ds
def Dg : List Int → Prop
 | [] => True
 | d :: ds => (0 ≤ d ∧ d < 1073741824) ∧ Dg ds
def Trm : List Int → Prop
 | [] => True
 | d :: ds => (ds = [] → d ≠ 0) ∧ Trm ds
theorem V_nonneg : ∀ l, Dg l → 0 ≤ V l
 | [], _ => Int.le_refl _
 | d :: ds, h => by have := V_nonneg ds h.2; have := h.1; simp only [V]; omega
theorem V_pos : ∀ l, Dg l → Trm l → l ≠ [] → 0 < V l
 | [], _, _, h => absurd rfl h
 | d :: ds, h, t, _ => by
  have hn := V_nonneg ds h.2
  have := h.1
  simp only [V]
  by_cases e : ds = []
  ·have := t.1 e; omega
  ·have := V_pos ds h.2 t.2 e; omega
theorem V_lt_len : ∀ a b, Dg a → Dg b → Trm b → a.length < b.length → V a < V b
 | [], b, _, hb, tb, h => V_pos b hb tb (by intro e; simp [e] at h)
 | x :: xs, [], _, _, _, h => by simp at h
 | x :: xs, y :: ys, ha, hb, tb, h => by
  have := V_lt_len xs ys ha.2 hb.2 tb.2 (by simpa using h)
  have := ha.1; have := hb.1
  simp only [V]; omega
def Sg (x y r : Int) : Prop := (r = -1 ∧ x < y) ∨ (r = 0 ∧ x = y) ∨ (r = 1 ∧ x > y)
def cmpL : List Int → List Int → Int
 | x :: xs, y :: ys => if cmpL xs ys ≠ 0 then cmpL xs ys else if x < y then -1 else if x > y then 1 else 0
 | _, _ => 0
theorem cmpL_spec : ∀ a b, Dg a → Dg b → a.length = b.length → Sg (V a) (V b) (cmpL a b)
 | [], [], _, _, _ => by simp [cmpL, Sg]
 | [], y :: ys, _, _, h => by simp at h
 | x :: xs, [], _, _, h => by simp at h
 | x :: xs, y :: ys, ha, hb, h => by
  have ih := cmpL_spec xs ys ha.2 hb.2 (by simpa using h)
  have := ha.1; have := hb.1
  unfold Sg at *
  simp only [V, cmpL]
  by_cases e : cmpL xs ys ≠ 0
  ·rw [if_pos e]; omega
  ·rw [if_neg e]
   by_cases l : x < y
   ·rw [if_pos l]; omega
   ·rw [if_neg l]
    by_cases g : x > y
    ·rw [if_pos g]; omega
    ·rw [if_neg g]; omega
theorem cmpL_drop : ∀ (n : Nat) (a b : List Int), cmpL (a.drop n) (b.drop n) ≠ 0 → cmpL a b = cmpL (a.drop n) (b.drop n)
 | 0, _, _, _ => rfl
 | n + 1, [], b, h => by simp [cmpL] at h
 | n + 1, x :: xs, [], h => by simp [cmpL] at h
 | n + 1, x :: xs, y :: ys, h => by
  have ih := cmpL_drop n xs ys h
  simp only [List.drop_succ_cons] at *
  rw [← ih] at h ⊢
  simp only [cmpL, if_pos h]
def trimL : List Int → List Int
 | [] => []
 | d :: ds => if trimL ds = [] then (if d = 0 then [] else [d]) else d :: trimL ds
theorem V_trimL : ∀ l, V (trimL l) = V l
 | [] => rfl
 | d :: ds => by
  have ih := V_trimL ds
  unfold trimL
  by_cases e : trimL ds = []
  ·rw [if_pos e]
   rw [e] at ih
   simp only [V] at ih
   by_cases z : d = 0
   ·rw [if_pos z]; simp only [V]; omega
   ·rw [if_neg z]; simp only [V]; omega
  ·rw [if_neg e]; simp only [V]; omega
theorem Dg_trimL : ∀ l, Dg l → Dg (trimL l)
 | [], _ => trivial
 | d :: ds, h => by
  have ih := Dg_trimL ds h.2
  unfold trimL
  split
  ·split
   ·exact trivial
   ·exact ⟨h.1, trivial⟩
  ·exact ⟨h.1, ih⟩
theorem Trm_trimL : ∀ l, Trm (trimL l)
 | [] => trivial
 | d :: ds => by
  have ih := Trm_trimL ds
  unfold trimL
  split
  ·split
   ·exact trivial
   ·next z => exact ⟨fun _ => z, trivial⟩
  ·next e => exact ⟨fun q => absurd q e, ih⟩
theorem trimL_len : ∀ l, (trimL l).length ≤ l.length
 | [] => Nat.le_refl _
 | d :: ds => by
  have ih := trimL_len ds
  unfold trimL
  split
  ·split <;> simp
  ·simpa using ih
theorem trimL_snoc : ∀ (xs : List Int) (x : Int), trimL (xs ++ [x]) = if x = 0 then trimL xs else xs ++ [x]
 | [], x => by simp [trimL]
 | d :: ds, x => by
  have ih := trimL_snoc ds x
  simp only [List.cons_append, trimL, ih]
  by_cases z : x = 0
  ·simp only [if_pos z]
  ·simp only [if_neg z]; simp
def addL : List Int → List Int → Int → List Int
 | [], [], c => if c > 0 then [c] else []
 | x :: xs, [], c => ((c + x) % 1073741824) :: addL xs [] ((c + x) / 1073741824)
 | [], y :: ys, c => ((c + y) % 1073741824) :: addL [] ys ((c + y) / 1073741824)
 | x :: xs, y :: ys, c => ((c + x + y) % 1073741824) :: addL xs ys ((c + x + y) / 1073741824)
theorem addL_spec : ∀ a b c, Dg a → Dg b → 0 ≤ c → c ≤ 1 → V (addL a b c) = V a + V b + c ∧ Dg (addL a b c) ∧ (addL a b c).length ≤ max a.length b.length + 1
 | [], [], c, _, _, h0, h1 => by
  unfold addL
  by_cases h : c > 0
  ·rw [if_pos h]; refine ⟨by simp [V], ⟨by omega, trivial⟩, by simp⟩
  ·rw [if_neg h]; refine ⟨by simp [V]; omega, trivial, by simp⟩
 | x :: xs, [], c, ha, _, h0, h1 => by
  have := ha.1
  obtain ⟨i1, i2, i3⟩ := addL_spec xs [] ((c + x) / 1073741824) ha.2 trivial (by omega) (by omega)
  unfold addL
  refine ⟨by simp only [V] at *; omega, ⟨by omega, i2⟩, by simp at i3 ⊢; omega⟩
 | [], y :: ys, c, _, hb, h0, h1 => by
  have := hb.1
  obtain ⟨i1, i2, i3⟩ := addL_spec [] ys ((c + y) / 1073741824) trivial hb.2 (by omega) (by omega)
  unfold addL
  refine ⟨by simp only [V] at *; omega, ⟨by omega, i2⟩, by simp at i3 ⊢; omega⟩
 | x :: xs, y :: ys, c, ha, hb, h0, h1 => by
  have := ha.1; have := hb.1
  obtain ⟨i1, i2, i3⟩ := addL_spec xs ys ((c + x + y) / 1073741824) ha.2 hb.2 (by omega) (by omega)
  unfold addL
  refine ⟨by simp only [V] at *; omega, ⟨by omega, i2⟩, by simp at i3 ⊢; omega⟩
def lessL : List Int → List Int → Int → List Int
 | [], _, _ => []
 | x :: xs, [], r => if x - r < 0 then (x - r + 1073741824) :: lessL xs [] 1 else (x - r) :: lessL xs [] 0
 | x :: xs, y :: ys, r => if x - r - y < 0 then (x - r - y + 1073741824) :: lessL xs ys 1 else (x - r - y) :: lessL xs ys 0
theorem lessL_spec : ∀ a b r, Dg a → Dg b → b.length ≤ a.length → 0 ≤ r → r ≤ 1 → V b + r ≤ V a → V (lessL a b r) = V a - V b - r ∧ Dg (lessL a b r) ∧ (lessL a b r).length = a.length
 | [], [], r, _, _, _, h0, h1, h => by simp only [V] at *; unfold lessL; exact ⟨by simp only [V]; omega, trivial, rfl⟩
 | [], y :: ys, r, _, _, hl, _, _, _ => by simp at hl
 | x :: xs, [], r, ha, _, _, h0, h1, h => by
  have := ha.1
  have hn := V_nonneg xs ha.2
  simp only [V] at h
  unfold lessL
  by_cases s : x - r < 0
  ·obtain ⟨i1, i2, i3⟩ := lessL_spec xs [] 1 ha.2 trivial (Nat.zero_le _) (by omega) (by omega) (by simp only [V]; omega)
   rw [if_pos s]; refine ⟨by simp only [V] at *; omega, ⟨by omega, i2⟩, by simp [i3]⟩
  ·obtain ⟨i1, i2, i3⟩ := lessL_spec xs [] 0 ha.2 trivial (Nat.zero_le _) (by omega) (by omega) (by simp only [V]; omega)
   rw [if_neg s]; refine ⟨by simp only [V] at *; omega, ⟨by omega, i2⟩, by simp [i3]⟩
 | x :: xs, y :: ys, r, ha, hb, hl, h0, h1, h => by
  have := ha.1; have := hb.1
  have hl' : ys.length ≤ xs.length := by simpa using hl
  simp only [V] at h
  unfold lessL
  by_cases s : x - r - y < 0
  ·obtain ⟨i1, i2, i3⟩ := lessL_spec xs ys 1 ha.2 hb.2 hl' (by omega) (by omega) (by omega)
   rw [if_pos s]; refine ⟨by simp only [V] at *; omega, ⟨by omega, i2⟩, by simp [i3]⟩
  ·obtain ⟨i1, i2, i3⟩ := lessL_spec xs ys 0 ha.2 hb.2 hl' (by omega) (by omega) (by omega)
   rw [if_neg s]; refine ⟨by simp only [V] at *; omega, ⟨by omega, i2⟩, by simp [i3]⟩
/-! ### The printed functions on whole numbers do what the plain lists say -/
theorem wsm {a : Int} (h1 : -9223372036854775808 ≤ a) (h2 : a ≤ 9223372036854775807) : wrap64 a = a := by unfold wrap64; omega
theorem rd_nat (l : List Int) (i : Nat) : rd l (i : Int) = l.getD i 0 := by simp [rd]
theorem drop_rd (l : List Int) (i : Nat) (h : i < l.length) : l.drop i = rd l (i : Int) :: l.drop (i + 1) := by
 rw [rd_nat, List.drop_eq_getElem_cons h]
 simp [List.getD_eq_getElem?_getD, h]
theorem Dg_drop : ∀ (l : List Int) (i : Nat), Dg l → Dg (l.drop i)
 | [], _, _ => by simp [Dg]
 | d :: ds, 0, h => h
 | d :: ds, i + 1, h => Dg_drop ds i h.2
theorem Dg_rd {l : List Int} (h : Dg l) {i : Nat} (hi : i < l.length) : 0 ≤ rd l (i : Int) ∧ rd l (i : Int) < 1073741824 := by
 have := Dg_drop l i h
 rw [drop_rd l i hi] at this
 exact this.1
theorem ev_eq {α : Type} {g : Nat → Option α} {r s : α} (h : r = s) (e : Ev g s) : Ev g r := h ▸ e
theorem trim_ev (l : List Int) (hs : l.length ≤ 1000000) : ∀ (n : Nat), n ≤ l.length → Ev (fun k => windhoverref00_trim.l0 k l (n : Int)) (trimL (l.take n)) := by
 intro n
 induction n with
 | zero =>
  intro _
  refine Ev.step (f := fun _ => some (trimL (l.take 0))) (fun k => ?_) (Ev.now _)
  rw [windhoverref00_trim.l0, if_neg (by decide), if_pos (by decide), if_pos (by omega)]
  simp [trimL]
 | succ n ih =>
  intro hn
  have e : wrap64 (((n + 1 : Nat) : Int) - 1) = (n : Int) := by rw [wsm (by omega) (by omega)]; omega
  have ht : l.take (n + 1) = l.take n ++ [rd l (n : Int)] := by
   rw [rd_nat, List.take_succ_eq_append_getElem (by omega)]
   simp [List.getD_eq_getElem?_getD, show n < l.length from by omega]
  by_cases z : rd l (n : Int) = 0
  ·refine ev_eq (by rw [ht, trimL_snoc, if_pos z]) (Ev.step (fun k => ?_) (ih (by omega)))
   rw [windhoverref00_trim.l0, if_pos (by omega), e, if_pos (by omega), if_pos (by omega), if_pos z]
  ·refine Ev.step (f := fun _ => some (trimL (l.take (n + 1)))) (fun k => ?_) (Ev.now _)
   rw [windhoverref00_trim.l0, if_pos (by omega), e, if_pos (by omega), if_pos (by omega), if_neg z, if_pos (by omega), if_pos (by omega)]
   rw [ht, trimL_snoc, if_neg z, ← ht]
   rfl
theorem trimf_ev (l : List Int) (hs : l.length ≤ 1000000) : Ev (fun k => windhoverref00_trim.f k l) (trimL l) := by
 have := trim_ev l hs l.length (Nat.le_refl _)
 rw [List.take_length] at this
 exact this
theorem add_end (a b out : List Int) (i : Nat) (hi : max a.length b.length ≤ i) (h2 : out.length ≤ 1000000) :
  Ev (fun k => windhoverref00_add.l0 k a b out 0 (i : Int)) (trimL out) := by
 refine Ev.step (f := fun k => windhoverref00_add.j1 k a b out 0 (i : Int) false) (fun k => ?_) ?_
 ·rw [windhoverref00_add.l0, if_neg (by omega), if_neg (by omega)]
  rfl
 ·refine Ev.step (f := fun k => (windhoverref00_trim.f k out).bind fun t => some t) (fun k => ?_) ?_
  ·rw [windhoverref00_add.j1, if_neg (by decide)]
  ·exact Ev.bind (trimf_ev out h2) (Ev.now _)
theorem add_ev (a b : List Int) (ha : Dg a) (hb : Dg b) (hal : a.length ≤ 1000) (hbl : b.length ≤ 1000) : ∀ (n i : Nat) (out : List Int) (c : Int), max a.length b.length ≤ i + n → i ≤ 1000 → out.length ≤ 2000 + i → 0 ≤ c → c ≤ 1 →
  Ev (fun k => windhoverref00_add.l0 k a b out c (i : Int)) (trimL (out ++ addL (a.drop i) (b.drop i) c)) := by
 intro n
 induction n with
 | zero =>
  intro i out c hi hi2 hl h0 h1
  have ea : a.drop i = [] := List.drop_of_length_le (by omega)
  have eb : b.drop i = [] := List.drop_of_length_le (by omega)
  rw [ea, eb]
  by_cases hc : c > 0
  ·obtain rfl : c = 1 := by omega
   refine ev_eq (s := trimL (out ++ [1])) (by simp [addL]) ?_
   refine Ev.step (f := fun k => windhoverref00_add.j1 k a b out 1 (i : Int) true) (fun k => ?_) ?_
   ·rw [windhoverref00_add.l0, if_neg (by omega), if_neg (by omega)]; rfl
   ·refine Ev.step (f := fun k => windhoverref00_add.l0 k a b (out ++ [1]) 0 ((i + 1 : Nat) : Int)) (fun k => ?_) ?_
    ·rw [windhoverref00_add.j1, if_pos rfl, if_neg (by omega), if_neg (by omega), if_pos (by omega), show Int.tmod 1 1073741824 = 1 from by decide, show wrap64 (Int.tdiv 1 1073741824) = 0 from by decide +kernel, wsm (by omega) (by omega)]
     rfl
    ·exact add_end a b (out ++ [1]) (i + 1) (by omega) (by simp; omega)
  ·obtain rfl : c = 0 := by omega
   refine ev_eq (s := trimL out) (by simp [addL]) ?_
   exact add_end a b out i (by omega) (by omega)
 | succ n ih =>
  intro i out c hi hi2 hl h0 h1
  by_cases hlt : max a.length b.length ≤ i
  ·exact (by
    have ea : a.drop i = [] := List.drop_of_length_le (by omega)
    have eb : b.drop i = [] := List.drop_of_length_le (by omega)
    rw [ea, eb]
    by_cases hc : c > 0
    ·obtain rfl : c = 1 := by omega
     refine ev_eq (s := trimL (out ++ [1])) (by simp [addL]) ?_
     refine Ev.step (f := fun k => windhoverref00_add.j1 k a b out 1 (i : Int) true) (fun k => ?_) ?_
     ·rw [windhoverref00_add.l0, if_neg (by omega), if_neg (by omega)]; rfl
     ·refine Ev.step (f := fun k => windhoverref00_add.l0 k a b (out ++ [1]) 0 ((i + 1 : Nat) : Int)) (fun k => ?_) ?_
      ·rw [windhoverref00_add.j1, if_pos rfl, if_neg (by omega), if_neg (by omega), if_pos (by omega), show Int.tmod 1 1073741824 = 1 from by decide, show wrap64 (Int.tdiv 1 1073741824) = 0 from by decide +kernel, wsm (by omega) (by omega)]
       rfl
      ·exact add_end a b (out ++ [1]) (i + 1) (by omega) (by simp; omega)
    ·obtain rfl : c = 0 := by omega
     refine ev_eq (s := trimL out) (by simp [addL]) ?_
     exact add_end a b out i (by omega) (by omega))
  ·have ei : wrap64 ((i : Int) + 1) = ((i + 1 : Nat) : Int) := by rw [wsm (by omega) (by omega)]; omega
   refine Ev.step (f := fun k => windhoverref00_add.j1 k a b out c (i : Int) true) (fun k => ?_) ?_
   ·rw [windhoverref00_add.l0]
    by_cases p : (i : Int) < (a.length : Int)
    ·rw [if_pos p]
    ·rw [if_neg p, if_pos (by omega)]
   ·by_cases p : i < a.length
    ·have hx := Dg_rd ha p
     by_cases q : i < b.length
     ·have hy := Dg_rd hb q
      rw [drop_rd a i p, drop_rd b i q]
      unfold addL
      refine ev_eq (s := trimL ((out ++ [(c + rd a i + rd b i) % 1073741824]) ++ addL (a.drop (i + 1)) (b.drop (i + 1)) ((c + rd a i + rd b i) / 1073741824))) (by simp) (Ev.step (fun k => ?_) (ih (i + 1) _ _ (by omega) (by omega) (by simp; omega) (by omega) (by omega)))
      rw [windhoverref00_add.j1, if_pos rfl, if_pos (by omega), if_pos (by omega), if_pos (by omega), if_pos (by omega), ei, wsm (a := c + _) (by omega) (by omega), wsm (a := c + _ + _) (by omega) (by omega), Int.tmod_eq_emod_of_nonneg (by omega), Int.tdiv_eq_ediv_of_nonneg (by omega), wsm (by omega) (by omega)]
     ·rw [drop_rd a i p, List.drop_of_length_le (show b.length ≤ i by omega)]
      unfold addL
      refine ev_eq (s := trimL ((out ++ [(c + rd a i) % 1073741824]) ++ addL (a.drop (i + 1)) (b.drop (i + 1)) ((c + rd a i) / 1073741824))) (by rw [List.drop_of_length_le (show b.length ≤ i + 1 by omega)]; simp) (Ev.step (fun k => ?_) (ih (i + 1) _ _ (by omega) (by omega) (by simp; omega) (by omega) (by omega)))
      rw [windhoverref00_add.j1, if_pos rfl, if_pos (by omega), if_pos (by omega), if_neg (by omega), if_pos (by omega), ei, wsm (a := c + _) (by omega) (by omega), Int.tmod_eq_emod_of_nonneg (by omega), Int.tdiv_eq_ediv_of_nonneg (by omega), wsm (by omega) (by omega)]
    ·have q : i < b.length := by omega
     have hy := Dg_rd hb q
     rw [drop_rd b i q, List.drop_of_length_le (show a.length ≤ i by omega)]
     unfold addL
     refine ev_eq (s := trimL ((out ++ [(c + rd b i) % 1073741824]) ++ addL (a.drop (i + 1)) (b.drop (i + 1)) ((c + rd b i) / 1073741824))) (by rw [List.drop_of_length_le (show a.length ≤ i + 1 by omega)]; simp) (Ev.step (fun k => ?_) (ih (i + 1) _ _ (by omega) (by omega) (by simp; omega) (by omega) (by omega)))
     rw [windhoverref00_add.j1, if_pos rfl, if_neg (by omega), if_pos (by omega), if_pos (by omega), if_pos (by omega), ei, wsm (a := c + _) (by omega) (by omega), Int.tmod_eq_emod_of_nonneg (by omega), Int.tdiv_eq_ediv_of_nonneg (by omega), wsm (by omega) (by omega)]
theorem addf_ev (a b : List Int) (ha : Dg a) (hb : Dg b) (hal : a.length ≤ 900) (hbl : b.length ≤ 900) : Ev (fun k => windhoverref00_add.f k a b) (trimL (addL a b 0)) :=
 add_ev a b ha hb (by omega) (by omega) (max a.length b.length) 0 [] 0 (by omega) (by omega) (by simp) (by decide) (by decide)

theorem less_ev (a b : List Int) (ha : Dg a) (hb : Dg b) (hal : a.length ≤ 1000) (hbl : b.length ≤ a.length) : ∀ (n i : Nat) (out : List Int) (r : Int), a.length = i + n → out.length ≤ 2000 + i → 0 ≤ r → r ≤ 1 →
  Ev (fun k => windhoverref00_less.l0 k a b out r (i : Int)) (trimL (out ++ lessL (a.drop i) (b.drop i) r)) := by
 intro n
 induction n with
 | zero =>
  intro i out r hi hl h0 h1
  rw [List.drop_of_length_le (show a.length ≤ i by omega)]
  refine ev_eq (s := trimL out) (by simp [lessL]) ?_
  refine Ev.step (f := fun k => (windhoverref00_trim.f k out).bind fun t => some t) (fun k => ?_) (Ev.bind (trimf_ev out (by omega)) (Ev.now _))
  rw [windhoverref00_less.l0, if_neg (by omega)]
 | succ n ih =>
  intro i out r hi hl h0 h1
  have p : i < a.length := by omega
  have hx := Dg_rd ha p
  have ei : wrap64 ((i : Int) + 1) = ((i + 1 : Nat) : Int) := by rw [wsm (by omega) (by omega)]; omega
  by_cases q : i < b.length
  ·have hy := Dg_rd hb q
   rw [drop_rd a i p, drop_rd b i q]
   unfold lessL
   by_cases s : rd a i - r - rd b i < 0
   ·rw [if_pos s]
    refine ev_eq (s := trimL ((out ++ [rd a i - r - rd b i + 1073741824]) ++ lessL (a.drop (i + 1)) (b.drop (i + 1)) 1)) (by simp) (Ev.step (fun k => ?_) (ih (i + 1) _ _ (by omega) (by simp; omega) (by omega) (by omega)))
    rw [windhoverref00_less.l0, if_pos (by omega), if_pos (by omega), if_pos (by omega), wsm (a := _ - r) (by omega) (by omega), wsm (a := _ - r - _) (by omega) (by omega), if_pos s, if_pos (by omega), ei, wsm (by omega) (by omega)]
   ·rw [if_neg s]
    refine ev_eq (s := trimL ((out ++ [rd a i - r - rd b i]) ++ lessL (a.drop (i + 1)) (b.drop (i + 1)) 0)) (by simp) (Ev.step (fun k => ?_) (ih (i + 1) _ _ (by omega) (by simp; omega) (by omega) (by omega)))
    rw [windhoverref00_less.l0, if_pos (by omega), if_pos (by omega), if_pos (by omega), wsm (a := _ - r) (by omega) (by omega), wsm (a := _ - r - _) (by omega) (by omega), if_neg s, if_pos (by omega), ei]
  ·rw [drop_rd a i p, List.drop_of_length_le (show b.length ≤ i by omega)]
   unfold lessL
   by_cases s : rd a i - r < 0
   ·rw [if_pos s]
    refine ev_eq (s := trimL ((out ++ [rd a i - r + 1073741824]) ++ lessL (a.drop (i + 1)) (b.drop (i + 1)) 1)) (by rw [List.drop_of_length_le (show b.length ≤ i + 1 by omega)]; simp) (Ev.step (fun k => ?_) (ih (i + 1) _ _ (by omega) (by simp; omega) (by omega) (by omega)))
    rw [windhoverref00_less.l0, if_pos (by omega), if_pos (by omega), if_neg (by omega), wsm (a := _ - r) (by omega) (by omega), if_pos s, if_pos (by omega), ei, wsm (by omega) (by omega)]
   ·rw [if_neg s]
    refine ev_eq (s := trimL ((out ++ [rd a i - r]) ++ lessL (a.drop (i + 1)) (b.drop (i + 1)) 0)) (by rw [List.drop_of_length_le (show b.length ≤ i + 1 by omega)]; simp) (Ev.step (fun k => ?_) (ih (i + 1) _ _ (by omega) (by simp; omega) (by omega) (by omega)))
    rw [windhoverref00_less.l0, if_pos (by omega), if_pos (by omega), if_neg (by omega), wsm (a := _ - r) (by omega) (by omega), if_neg s, if_pos (by omega), ei]
theorem lessf_ev (a b : List Int) (ha : Dg a) (hb : Dg b) (hal : a.length ≤ 1000) (hbl : b.length ≤ a.length) : Ev (fun k => windhoverref00_less.f k a b) (trimL (lessL a b 0)) :=
 less_ev a b ha hb hal hbl a.length 0 [] 0 (by omega) (by simp) (by decide) (by decide)
theorem cmpL_at (a b : List Int) (i : Nat) (h1 : i < a.length) (h2 : i < b.length) (hz : cmpL (a.drop (i + 1)) (b.drop (i + 1)) = 0) :
  cmpL (a.drop i) (b.drop i) = if rd a i < rd b i then -1 else if rd a i > rd b i then 1 else 0 := by
 rw [drop_rd a i h1, drop_rd b i h2]
 simp only [cmpL]
 rw [if_neg (by simpa using hz)]
theorem size_ev (a b : List Int) (hl : a.length = b.length) (hs : a.length ≤ 1000) : ∀ (n : Nat), n ≤ a.length → cmpL (a.drop n) (b.drop n) = 0 →
  Ev (fun k => windhoverref00_size.l0 k a b ((n : Int) - 1)) (cmpL a b) := by
 intro n
 induction n with
 | zero =>
  intro _ hz
  rw [List.drop_zero, List.drop_zero] at hz
  rw [hz]
  refine Ev.step (f := fun _ => some 0) (fun k => ?_) (Ev.now _)
  rw [windhoverref00_size.l0, if_neg (by omega)]
 | succ n ih =>
  intro hn hz
  have e1 : (((n + 1 : Nat) : Int) - 1) = (n : Int) := by omega
  have e2 : wrap64 ((n : Int) - 1) = (n : Int) - 1 := wsm (by omega) (by omega)
  have hc := cmpL_at a b n (by omega) (by omega) hz
  rw [e1]
  by_cases h1 : rd a n < rd b n
  ·rw [if_pos h1] at hc
   refine ev_eq (s := -1) ?_ (Ev.step (f := fun _ => some (-1)) (fun k => ?_) (Ev.now _))
   ·rw [cmpL_drop n a b (by rw [hc]; decide), hc]
   ·rw [windhoverref00_size.l0, if_pos (by omega), if_pos (by omega), if_pos (by omega), if_pos (by omega), if_pos h1]
  ·rw [if_neg h1] at hc
   by_cases h2 : rd a n > rd b n
   ·rw [if_pos h2] at hc
    refine ev_eq (s := 1) ?_ (Ev.step (f := fun _ => some 1) (fun k => ?_) (Ev.now _))
    ·rw [cmpL_drop n a b (by rw [hc]; decide), hc]
    ·rw [windhoverref00_size.l0, if_pos (by omega), if_pos (by omega), if_pos (by omega), if_pos (by omega), if_neg h1, if_pos h2]
   ·rw [if_neg h2] at hc
    refine Ev.step (fun k => ?_) (ih (by omega) hc)
    rw [windhoverref00_size.l0, if_pos (by omega), if_pos (by omega), if_pos (by omega), if_pos (by omega), if_neg h1, if_neg h2, e2]
/-- Magnitudes are compared. -/
theorem sizef_ev (a b : List Int) (ha : Dg a) (hb : Dg b) (ta : Trm a) (tb : Trm b) (hs : a.length ≤ 1000) : ∃ r, Ev (fun k => windhoverref00_size.f k a b) r ∧ Sg (V a) (V b) r := by
 by_cases hl : a.length = b.length
 ·refine ⟨cmpL a b, ?_, cmpL_spec a b ha hb hl⟩
  have h := size_ev a b hl hs a.length (Nat.le_refl _) (by rw [List.drop_of_length_le (Nat.le_refl _), List.drop_of_length_le (by omega)]; rfl)
  refine Ev.congr (fun k => ?_) h
  rw [windhoverref00_size.f, if_pos (by omega), wsm (by omega) (by omega)]
 ·by_cases hlt : a.length < b.length
  ·refine ⟨-1, Ev.congr (fun k => ?_) (Ev.now _), .inl ⟨rfl, V_lt_len a b ha hb tb hlt⟩⟩
   rw [windhoverref00_size.f, if_neg (by omega), if_pos (by omega)]
  ·refine ⟨1, Ev.congr (fun k => ?_) (Ev.now _), .inr (.inr ⟨rfl, V_lt_len b a hb ha ta (by omega)⟩)⟩
   rw [windhoverref00_size.f, if_neg (by omega), if_neg (by omega)]
/-- A whole number, as its sign and its digits. -/
def W (L : Nat) (b : Bool) (d : List Int) (n : Int) : Prop := Dg d ∧ Trm d ∧ (b = true → d ≠ []) ∧ n = (if b = true then -V d else V d) ∧ d.length ≤ L
theorem W.mono {L M : Nat} {b : Bool} {d : List Int} {n : Int} (h : W L b d n) (hl : L ≤ M) : W M b d n := ⟨h.1, h.2.1, h.2.2.1, h.2.2.2.1, Nat.le_trans h.2.2.2.2 hl⟩
theorem len_of {d : List Int} (h : Dg d) (t : Trm d) : (V d < 1073741824 → d.length ≤ 1) ∧ (V d < 1152921504606846976 → d.length ≤ 2) ∧ (V d < 1237940039285380274899124224 → d.length ≤ 3) ∧ (V d < 1329227995784915872903807060280344576 → d.length ≤ 4) := by
 match d, h, t with
 | [], _, _ => exact ⟨fun _ => by simp, fun _ => by simp, fun _ => by simp, fun _ => by simp⟩
 | [a], _, _ => exact ⟨fun _ => by simp, fun _ => by simp, fun _ => by simp, fun _ => by simp⟩
 | [a, b], h, t =>
  have := h.1; have := h.2.1; have := t.2.1 rfl
  simp only [V]; exact ⟨fun _ => by omega, fun _ => by simp, fun _ => by simp, fun _ => by simp⟩
 | [a, b, c], h, t =>
  have := h.1; have := h.2.1; have := h.2.2.1; have := t.2.2.1 rfl
  simp only [V]; exact ⟨fun _ => by omega, fun _ => by omega, fun _ => by simp, fun _ => by simp⟩
 | [a, b, c, e], h, t =>
  have := h.1; have := h.2.1; have := h.2.2.1; have := h.2.2.2.1; have := t.2.2.2.1 rfl
  simp only [V]; exact ⟨fun _ => by omega, fun _ => by omega, fun _ => by omega, fun _ => by simp⟩
 | a :: b :: c :: e :: f :: ds, h, t =>
  have := h.1; have := h.2.1; have := h.2.2.1; have := h.2.2.2.1
  have := V_pos (f :: ds) h.2.2.2.2 t.2.2.2.2 (by simp)
  simp only [V] at *
  exact ⟨fun _ => by omega, fun _ => by omega, fun _ => by omega, fun _ => by omega⟩
theorem of_loop (bl : Bool) : ∀ (m : Nat) (n : Int) (out : List Int), n.natAbs ≤ m → -9223372036854775808 ≤ n → n ≤ 9223372036854775807 → (∃ c : Nat, n.natAbs * 2 ^ c ≤ 9223372036854775808 ∧ out.length ≤ c) →
  ∃ ds, Ev (fun k => windhoverref00_Of.l0 k n bl out) (bl, out ++ ds) ∧ Dg ds ∧ Trm ds ∧ V ds = n.natAbs ∧ (n = 0 → ds = []) := by
 intro m
 induction m with
 | zero =>
  intro n out hm _ _ _
  obtain rfl : n = 0 := by omega
  refine ⟨[], Ev.step (f := fun _ => some (bl, out)) (fun k => ?_) (ev_eq (by simp) (Ev.now _)), trivial, trivial, rfl, fun _ => rfl⟩
  rw [windhoverref00_Of.l0, if_pos rfl]
 | succ m ih =>
  intro n out hm h1 h2 hc
  by_cases hz : n = 0
  ·subst hz
   refine ⟨[], Ev.step (f := fun _ => some (bl, out)) (fun k => ?_) (ev_eq (by simp) (Ev.now _)), trivial, trivial, rfl, fun _ => rfl⟩
   rw [windhoverref00_Of.l0, if_pos rfl]
  ·obtain ⟨c, hc1, hc2⟩ := hc
   have hc63 : c ≤ 63 := by
    rcases Nat.lt_or_ge c 64 with h | h
    ·omega
    ·have h3 : 2 ^ 64 ≤ 2 ^ c := Nat.pow_le_pow_right (by decide) h
     have h4 : 1 * 2 ^ c ≤ n.natAbs * 2 ^ c := Nat.mul_le_mul_right _ (by omega)
     omega
   have key : ∀ q : Int, q.natAbs * 2 ≤ n.natAbs → ∃ c : Nat, q.natAbs * 2 ^ c ≤ 9223372036854775808 ∧ out.length + 1 ≤ c := by
    intro q hq
    refine ⟨c + 1, ?_, by omega⟩
    have : q.natAbs * 2 ^ (c + 1) ≤ n.natAbs * 2 ^ c := by
     rw [Nat.pow_succ, Nat.mul_comm (2 ^ c) 2, ← Nat.mul_assoc]
     exact Nat.mul_le_mul_right _ hq
    omega
   by_cases hn : 0 ≤ n
   ·have e1 : Int.tmod n 1073741824 = n % 1073741824 := Int.tmod_eq_emod_of_nonneg hn
    have e2 : Int.tdiv n 1073741824 = n / 1073741824 := Int.tdiv_eq_ediv_of_nonneg hn
    obtain ⟨ds, hev, hd, ht, hv, hnil⟩ := ih (n / 1073741824) (out ++ [n % 1073741824]) (by omega) (by omega) (by omega) (by simpa using key (n / 1073741824) (by omega))
    refine ⟨n % 1073741824 :: ds, ev_eq (by simp) (Ev.step (fun k => ?_) hev), ⟨by omega, hd⟩, ⟨fun e => ?_, ht⟩, by simp only [V]; omega, fun h => absurd h hz⟩
    ·rw [windhoverref00_Of.l0, if_neg hz, e1, e2, if_neg (by omega), if_pos (by omega), wsm (by omega) (by omega)]
    ·rw [e] at hv; simp only [V] at hv; omega
   ·obtain ⟨p, rfl⟩ : ∃ p, n = -p := ⟨-n, by omega⟩
    have hp : 0 ≤ p := by omega
    have e1 : Int.tmod (-p) 1073741824 = -(p % 1073741824) := by rw [Int.neg_tmod, Int.tmod_eq_emod_of_nonneg hp]
    have e2 : Int.tdiv (-p) 1073741824 = -(p / 1073741824) := by rw [Int.neg_tdiv, Int.tdiv_eq_ediv_of_nonneg hp]
    obtain ⟨ds, hev, hd, ht, hv, hnil⟩ := ih (-(p / 1073741824)) (out ++ [p % 1073741824]) (by omega) (by omega) (by omega) (by simpa using key (-(p / 1073741824)) (by omega))
    refine ⟨p % 1073741824 :: ds, ev_eq (by simp) (Ev.step (fun k => ?_) hev), ⟨by omega, hd⟩, ⟨fun e => ?_, ht⟩, by simp only [V]; omega, fun h => absurd h hz⟩
    ·rw [windhoverref00_Of.l0, if_neg hz, e1, e2]
     by_cases z : p % 1073741824 = 0
     ·rw [if_neg (by omega), if_pos (by omega), wsm (by omega) (by omega), z]; rfl
     ·rw [if_pos (by omega), if_pos (by omega), wsm (a := -(p / 1073741824)) (by omega) (by omega), Int.neg_neg, wsm (by omega) (by omega)]
    ·rw [e] at hv; simp only [V] at hv; omega
theorem of_ev (n : Int) (h1 : -9223372036854775808 ≤ n) (h2 : n ≤ 9223372036854775807) : ∃ b d, Ev (fun k => windhoverref00_Of.f k n) (b, d) ∧ W 3 b d n := by
 obtain ⟨ds, hev, hd, ht, hv, hnil⟩ := of_loop (decide (n < 0)) n.natAbs n [] (Nat.le_refl _) h1 h2 ⟨0, by omega, by simp⟩
 refine ⟨decide (n < 0), ds, Ev.congr (fun k => by rw [windhoverref00_Of.f]) (ev_eq (by simp) hev), hd, ht, fun h => ?_, ?_, (len_of hd ht).2.2.1 (by omega)⟩
 ·intro e
  rw [e] at hv
  simp only [V] at hv
  simp at h
  omega
 ·by_cases h : n < 0
  ·rw [if_pos (by simpa using h)]; omega
  ·rw [if_neg (by simpa using h)]; omega
theorem W_range {L : Nat} {b : Bool} {d : List Int} {n : Int} (h : W L b d n) : (b = true → n < 0) ∧ (b = false → 0 ≤ n) := by
 obtain ⟨hd, ht, hb, hn, _⟩ := h
 have h0 := V_nonneg d hd
 refine ⟨fun e => ?_, fun e => ?_⟩
 ·have := V_pos d hd ht (hb e); rw [if_pos e] at hn; omega
 ·rw [e, if_neg (by decide)] at hn; omega
theorem plus_ev {L : Nat} {a b : Bool} {x y : List Int} {m n : Int} (hx : W L a x m) (hy : W L b y n) (hL : L ≤ 900) : ∃ c z, Ev (fun k => windhoverref00_Plus.f k a x b y) (c, z) ∧ W (L + 1) c z (m + n) := by
 obtain ⟨dx, tx, bx, ex, lx⟩ := hx
 obtain ⟨dy, ty, by', ey, ly⟩ := hy
 have vx := V_nonneg x dx
 have vy := V_nonneg y dy
 by_cases hab : a = b
 ·subst hab
  obtain ⟨s1, s2, s3⟩ := addL_spec x y 0 dx dy (by decide) (by decide)
  refine ⟨a, trimL (addL x y 0), Ev.congr (fun k => ?_) (Ev.bind (f := fun _ t => some (a, t)) (addf_ev x y dx dy (by omega) (by omega)) (Ev.now _)), Dg_trimL _ s2, Trm_trimL _, fun h => ?_, ?_, ?_⟩
  ·rw [windhoverref00_Plus.f, if_pos (by simp)]
  ·intro e
   have := V_trimL (addL x y 0)
   rw [e, s1] at this
   simp only [V] at this
   have := V_pos x dx tx (bx h)
   omega
  ·rw [V_trimL, s1]
   cases a <;> simp at ex ey ⊢ <;> omega
  ·have := trimL_len (addL x y 0); omega
 ·have hne : ¬ ((a == b) = true) := by simpa using hab
  obtain ⟨r, hr, hs⟩ := sizef_ev x y dx dy tx ty (by omega)
  rcases hs with ⟨rfl, hlt⟩ | ⟨rfl, heq⟩ | ⟨rfl, hgt⟩
  ·have hlen : x.length ≤ y.length := by
    rcases Nat.lt_or_ge y.length x.length with h | h
    ·have := V_lt_len y x dy dx tx h; omega
    ·exact h
   obtain ⟨s1, s2, s3⟩ := lessL_spec y x 0 dy dx hlen (by decide) (by decide) (by omega)
   refine ⟨b, trimL (lessL y x 0), Ev.congr (fun k => ?_) (Ev.bind (f := fun k t => if t = 0 then some (false, []) else if t > 0 then (windhoverref00_less.f k x y).bind fun z => some (a, z) else (windhoverref00_less.f k y x).bind fun z => some (b, z)) hr ?_), Dg_trimL _ s2, Trm_trimL _, fun h => ?_, ?_, ?_⟩
   ·rw [windhoverref00_Plus.f, if_neg hne]
   ·exact Ev.congr (fun k => by rw [if_neg (by decide), if_neg (by decide)]) (Ev.bind (f := fun _ z => some (b, z)) (lessf_ev y x dy dx (by omega) hlen) (Ev.now _))
   ·intro e
    have := V_trimL (lessL y x 0)
    rw [e, s1] at this
    simp only [V] at this
    omega
   ·rw [V_trimL, s1]
    cases a <;> cases b <;> simp at ex ey hab ⊢ <;> omega
   ·have := trimL_len (lessL y x 0); omega
  ·refine ⟨false, [], Ev.congr (fun k => ?_) (Ev.bind (f := fun k t => if t = 0 then some (false, []) else if t > 0 then (windhoverref00_less.f k x y).bind fun z => some (a, z) else (windhoverref00_less.f k y x).bind fun z => some (b, z)) hr ?_), trivial, trivial, by simp, ?_, by simp⟩
   ·rw [windhoverref00_Plus.f, if_neg hne]
   ·exact Ev.congr (fun k => by rw [if_pos rfl]) (Ev.now _)
   ·cases a <;> cases b <;> simp [V] at ex ey hab ⊢ <;> omega
  ·have hlen : y.length ≤ x.length := by
    rcases Nat.lt_or_ge x.length y.length with h | h
    ·have := V_lt_len x y dx dy ty h; omega
    ·exact h
   obtain ⟨s1, s2, s3⟩ := lessL_spec x y 0 dx dy hlen (by decide) (by decide) (by omega)
   refine ⟨a, trimL (lessL x y 0), Ev.congr (fun k => ?_) (Ev.bind (f := fun k t => if t = 0 then some (false, []) else if t > 0 then (windhoverref00_less.f k x y).bind fun z => some (a, z) else (windhoverref00_less.f k y x).bind fun z => some (b, z)) hr ?_), Dg_trimL _ s2, Trm_trimL _, fun h => ?_, ?_, ?_⟩
   ·rw [windhoverref00_Plus.f, if_neg hne]
   ·exact Ev.congr (fun k => by rw [if_neg (by decide), if_pos (by decide)]) (Ev.bind (f := fun _ z => some (a, z)) (lessf_ev x y dx dy (by omega) hlen) (Ev.now _))
   ·intro e
    have := V_trimL (lessL x y 0)
    rw [e, s1] at this
    simp only [V] at this
    omega
   ·rw [V_trimL, s1]
    cases a <;> cases b <;> simp at ex ey hab ⊢ <;> omega
   ·have := trimL_len (lessL x y 0); omega

theorem neg_f {L : Nat} {b : Bool} {d : List Int} {n : Int} (h : W L b d n) : ∃ c, windhoverref00_Negative.f b d = some (c, d) ∧ W L c d (-n) := by
 obtain ⟨hd, ht, hb, hn, hl⟩ := h
 by_cases e : d = []
 ·subst e
  refine ⟨false, ?_, hd, ht, by simp, ?_, hl⟩
  ·rw [windhoverref00_Negative.f, if_neg (by simp)]; split <;> rfl
  ·simp only [V] at hn ⊢
   cases b <;> simp at hn ⊢ <;> omega
 ·have hp : (d.length : Int) > 0 := by
   have := List.length_pos_iff.mpr e
   omega
  cases b
  ·exact ⟨true, by rw [windhoverref00_Negative.f, if_pos hp]; rfl, hd, ht, fun _ => e, by simp at hn ⊢; omega, hl⟩
  ·exact ⟨false, by rw [windhoverref00_Negative.f, if_pos hp]; rfl, hd, ht, by simp, by simp at hn ⊢; omega, hl⟩
theorem minus_ev {L : Nat} {a b : Bool} {x y : List Int} {m n : Int} (hx : W L a x m) (hy : W L b y n) (hL : L ≤ 900) : ∃ c z, Ev (fun k => windhoverref00_Minus.f k a x b y) (c, z) ∧ W (L + 1) c z (m - n) := by
 obtain ⟨c, h1, h2⟩ := neg_f hy
 obtain ⟨c2, z, h3, h4⟩ := plus_ev hx h2 hL
 refine ⟨c2, z, Ev.congr (fun k => ?_) (Ev.bind (f := fun _ t => some (t.1, t.2)) h3 (Ev.now _)), by rw [Int.sub_eq_add_neg]; exact h4⟩
 rw [windhoverref00_Minus.f, h1, Option.bind_some]
theorem cmp_ev {L : Nat} {a b : Bool} {x y : List Int} {m n : Int} (hx : W L a x m) (hy : W L b y n) (hL : L ≤ 1000) : ∃ r, Ev (fun k => windhoverref00_Cmp.f k a x b y) r ∧ Sg m n r := by
 have rx := W_range hx
 have ry := W_range hy
 obtain ⟨dx, tx, bx, ex, lx⟩ := hx
 obtain ⟨dy, ty, by', ey, ly⟩ := hy
 by_cases hab : a = b
 ·subst hab
  obtain ⟨r, hr, hs⟩ := sizef_ev x y dx dy tx ty (by omega)
  cases a
  ·refine ⟨r, Ev.congr (fun k => ?_) (Ev.bind (f := fun _ t => some t) hr (Ev.now _)), ?_⟩
   ·rw [windhoverref00_Cmp.f, if_neg (by decide)]; rfl
   ·simp at ex ey; rw [ex, ey]; exact hs
  ·refine ⟨-r, Ev.congr (fun k => ?_) (Ev.bind (f := fun _ t => some (wrap64 (-t))) hr (ev_eq ?_ (Ev.now _))), ?_⟩
   ·rw [windhoverref00_Cmp.f, if_neg (by decide)]; rfl
   ·rcases hs with ⟨rfl, _⟩ | ⟨rfl, _⟩ | ⟨rfl, _⟩ <;> exact (wsm (by decide) (by decide)).symm
   ·simp at ex ey; unfold Sg at *; omega
 ·cases a <;> cases b
  ·exact absurd rfl hab
  ·refine ⟨1, Ev.congr (fun k => ?_) (Ev.now _), .inr (.inr ⟨rfl, by have := rx.2 rfl; have := ry.1 rfl; omega⟩)⟩
   rw [windhoverref00_Cmp.f, if_pos (by decide), if_neg (by decide)]
  ·refine ⟨-1, Ev.congr (fun k => ?_) (Ev.now _), .inl ⟨rfl, by have := rx.1 rfl; have := ry.2 rfl; omega⟩⟩
   rw [windhoverref00_Cmp.f, if_pos (by decide), if_pos rfl]
  ·exact absurd rfl hab
theorem V_drop_le : ∀ (l : List Int) (i : Nat), Dg l → V (l.drop i) ≤ V l
 | [], _, _ => by simp
 | d :: ds, 0, _ => by simp
 | d :: ds, i + 1, h => by
  have := V_drop_le ds i h.2
  have := V_nonneg ds h.2
  have := h.1
  simp only [List.drop_succ_cons, V]; omega
theorem int_loop (d : List Int) (hd : Dg d) (hl : d.length ≤ 1000) (b : Bool) (hv : V d ≤ 9223372036854775807 + (if b = true then 1 else 0)) : ∀ (i : Nat), i ≤ d.length →
  Ev (fun k => windhoverref00_Int.l0 k (if b = true then -V (d.drop i) else V (d.drop i)) ((i : Int) - 1) b d) (if b = true then -V d else V d, true) := by
 intro i
 induction i with
 | zero =>
  intro _
  rw [List.drop_zero]
  refine Ev.step (f := fun _ => some (if b = true then -V d else V d, true)) (fun k => ?_) (Ev.now _)
  rw [windhoverref00_Int.l0, if_neg (by omega)]
 | succ i ih =>
  intro hi
  have p : i < d.length := by omega
  have hx := Dg_rd hd p
  have e1 : (((i + 1 : Nat) : Int) - 1) = (i : Int) := by omega
  have e2 : wrap64 ((i : Int) - 1) = (i : Int) - 1 := wsm (by omega) (by omega)
  have hle := V_drop_le d i hd
  have hn := V_nonneg _ (Dg_drop d (i + 1) hd)
  have hdr : V (d.drop i) = rd d i + 1073741824 * V (d.drop (i + 1)) := by rw [drop_rd d i p]; rfl
  rw [e1]
  refine Ev.step (fun k => ?_) (ih (by omega))
  cases b
  ·simp only [Bool.false_eq_true, if_false] at hv ⊢
   rw [windhoverref00_Int.l0, if_pos (by omega), if_neg (by decide), if_pos (by omega), if_pos (by omega), e2, wsm (a := V _ * 1073741824) (by omega) (by omega), wsm (by omega) (by omega), hdr]
   congr 1; omega
  ·simp only [if_true] at hv ⊢
   rw [windhoverref00_Int.l0, if_pos (by omega), if_pos rfl, if_pos (by omega), if_pos (by omega), e2, wsm (a := -V _ * 1073741824) (by omega) (by omega), wsm (by omega) (by omega), hdr]
   congr 1; omega
theorem int_ev {L : Nat} {b : Bool} {d : List Int} {n : Int} (h : W L b d n) (hL : L ≤ 900) : Ev (fun k => windhoverref00_Int.f k b d) (if -9223372036854775808 ≤ n ∧ n ≤ 9223372036854775807 then (n, true) else (0, false)) := by
 obtain ⟨b1, d1, o1, w1⟩ := of_ev (-9223372036854775808) (by decide) (by decide)
 obtain ⟨b2, d2, o2, w2⟩ := of_ev 9223372036854775807 (by decide) (by decide)
 obtain ⟨r1, c1, s1⟩ := cmp_ev (h.mono (show L ≤ L + 3 by omega)) (w1.mono (show 3 ≤ L + 3 by omega)) (by omega)
 obtain ⟨r2, c2, s2⟩ := cmp_ev (h.mono (show L ≤ L + 3 by omega)) (w2.mono (show 3 ≤ L + 3 by omega)) (by omega)
 obtain ⟨hd, ht, hb, hn, hl⟩ := h
 have stop : Ev (fun k => windhoverref00_Int.j0 k true b d) (0, false) := by
  refine Ev.step (f := fun _ => some (0, false)) (fun k => ?_) (Ev.now _)
  rw [windhoverref00_Int.j0, if_pos rfl]
 refine Ev.congr (fun k => by rw [windhoverref00_Int.f]) (Ev.bind o1 (Ev.bind c1 ?_))
 by_cases hlow : n < -9223372036854775808
 ·obtain rfl : r1 = -1 := by unfold Sg at s1; omega
  rw [if_neg (by omega)]
  exact Ev.congr (fun k => by rw [if_pos (by decide)]) stop
 ·have hr1 : ¬ r1 < 0 := by unfold Sg at s1; omega
  refine Ev.congr (fun k => by rw [if_neg hr1]) (Ev.bind o2 (Ev.bind c2 ?_))
  by_cases hhigh : n > 9223372036854775807
  ·obtain rfl : r2 = 1 := by unfold Sg at s2; omega
   rw [if_neg (by omega)]
   exact Ev.congr (fun k => by rw [show decide ((1 : Int) > 0) = true from by decide]) stop
  ·have hr2 : decide (r2 > 0) = false := by unfold Sg at s2; simp; omega
   rw [if_pos ⟨by omega, by omega⟩]
   have hv : V d ≤ 9223372036854775807 + (if b = true then 1 else 0) := by cases b <;> simp at hn ⊢ <;> omega
   have hi := int_loop d hd (by omega) b hv d.length (Nat.le_refl _)
   rw [List.drop_of_length_le (Nat.le_refl _), ← hn] at hi
   simp only [V, Int.neg_zero, ite_self] at hi
   refine Ev.congr (fun k => by rw [hr2]) (Ev.step (fun k => ?_) hi)
   rw [windhoverref00_Int.j0, if_neg (by decide), wsm (by omega) (by omega)]
/-- A whole number, kept within an int. -/
def sat (n : Int) : Int := if n > 9223372036854775807 then 9223372036854775807 else if n < -9223372036854775808 then -9223372036854775808 else n
theorem kept_ev {L : Nat} {b : Bool} {d : List Int} {n : Int} (h : W L b d n) (hL : L ≤ 900) : Ev (fun k => windhoverref01_kept.f k b d) (sat n) := by
 have r := W_range h
 refine Ev.congr (fun k => by rw [windhoverref01_kept.f]) (Ev.bind (int_ev h hL) ?_)
 by_cases h1 : -9223372036854775808 ≤ n ∧ n ≤ 9223372036854775807
 ·have e : sat n = n := by unfold sat; rw [if_neg (by omega), if_neg (by omega)]
  rw [e, if_pos h1]
  exact Ev.congr (fun k => by rw [if_pos rfl]) (Ev.now _)
 ·rw [if_neg h1]
  cases b
  ·have := r.2 rfl
   have e : sat n = 9223372036854775807 := by unfold sat; rw [if_pos (by omega)]
   rw [e]
   exact Ev.congr (fun k => by rw [if_neg (by decide), if_neg (by decide)]) (Ev.now _)
  ·have := r.1 rfl
   have e : sat n = -9223372036854775808 := by unfold sat; rw [if_neg (by omega), if_pos (by omega)]
   rw [e]
   exact Ev.congr (fun k => by rw [if_neg (by decide), if_pos rfl]) (Ev.now _)
def I64 (n : Int) : Prop := -9223372036854775808 ≤ n ∧ n ≤ 9223372036854775807
theorem radd_ev {a b : Int} (ha : I64 a) (hb : I64 b) : Ev (fun k => windhoverref01_Add.f k a b) (sat (a + b)) := by
 obtain ⟨b1, d1, o1, w1⟩ := of_ev a ha.1 ha.2
 obtain ⟨b2, d2, o2, w2⟩ := of_ev b hb.1 hb.2
 obtain ⟨c, z, p, w⟩ := plus_ev w1 w2 (by decide)
 exact Ev.congr (fun k => by rw [windhoverref01_Add.f]) (Ev.bind o1 (Ev.bind o2 (Ev.bind p (Ev.bind (f := fun _ t => some t) (kept_ev w (by decide)) (Ev.now _)))))
theorem rsub_ev {a b : Int} (ha : I64 a) (hb : I64 b) : Ev (fun k => windhoverref01_Sub.f k a b) (sat (a - b)) := by
 obtain ⟨b1, d1, o1, w1⟩ := of_ev a ha.1 ha.2
 obtain ⟨b2, d2, o2, w2⟩ := of_ev b hb.1 hb.2
 obtain ⟨c, z, p, w⟩ := minus_ev w1 w2 (by decide)
 exact Ev.congr (fun k => by rw [windhoverref01_Sub.f]) (Ev.bind o1 (Ev.bind o2 (Ev.bind p (Ev.bind (f := fun _ t => some t) (kept_ev w (by decide)) (Ev.now _)))))

theorem I64_of {a : Int} (h : (Lit.int .i64 a).wf = true) : I64 a := by
 simp [Lit.wf, IntKind.min, IntKind.max, IntKind.signed, IntKind.bits] at h
 unfold I64; omega

/-! ### Add, Sub, Mul: kept within an int -/
theorem add_ev' {a b : Int} (ha : I64 a) (hb : I64 b) : Ev (fun k => fix_Add.f k a b) (sat (a + b)) := by
 have key : ∀ c : Bool, c = decide (a > 0 ∧ b > 0 ∧ wrap64 (a + b) < 0) → Ev (fun k => fix_Add.j0 k a b (wrap64 (a + b)) c) (sat (a + b)) := by
  intro c hc
  refine Ev.step (f := fun _ => some (sat (a + b))) (fun k => ?_) (Ev.now _)
  rw [fix_Add.j0]
  unfold I64 at *
  have hw : (wrap64 (a + b) = a + b ∧ -9223372036854775808 ≤ a + b ∧ a + b ≤ 9223372036854775807) ∨ (wrap64 (a + b) = a + b - 18446744073709551616 ∧ a + b > 9223372036854775807) ∨ (wrap64 (a + b) = a + b + 18446744073709551616 ∧ a + b < -9223372036854775808) := by
   unfold wrap64; omega
  generalize wrap64 (a + b) = s at *
  unfold sat
  by_cases h : a > 0 ∧ b > 0 ∧ s < 0
  ·rw [hc, if_pos (by simpa using h)]
   rw [if_pos (by omega)]
  ·rw [hc, if_neg (by simpa using h)]
   by_cases h1 : a < 0
   ·rw [if_pos h1]
    by_cases h2 : b < 0
    ·rw [if_pos h2]
     by_cases h3 : s ≥ 0
     ·rw [if_pos h3, if_neg (by omega), if_pos (by omega)]
     ·rw [if_neg h3, if_neg (by omega), if_neg (by omega)]; congr 1; omega
    ·rw [if_neg h2, if_neg (by omega), if_neg (by omega)]; congr 1; omega
   ·rw [if_neg h1, if_neg (by omega), if_neg (by omega)]; congr 1; omega
 by_cases h1 : a > 0
 ·by_cases h2 : b > 0
  ·exact Ev.congr (fun k => by rw [fix_Add.f, if_pos h1, if_pos h2]) (key _ (by simp [h1, h2]))
  ·exact Ev.congr (fun k => by rw [fix_Add.f, if_pos h1, if_neg h2]) (key _ (by simp [h2]))
 ·exact Ev.congr (fun k => by rw [fix_Add.f, if_neg h1]) (key _ (by simp [h1]))
theorem sub_ev' {a b : Int} (ha : I64 a) (hb : I64 b) : Ev (fun k => fix_Sub.f k a b) (sat (a - b)) := by
 have key : ∀ c : Bool, c = decide (a ≥ 0 ∧ b < 0 ∧ wrap64 (a - b) < 0) → Ev (fun k => fix_Sub.j0 k a b (wrap64 (a - b)) c) (sat (a - b)) := by
  intro c hc
  refine Ev.step (f := fun _ => some (sat (a - b))) (fun k => ?_) (Ev.now _)
  rw [fix_Sub.j0]
  unfold I64 at *
  have hw : (wrap64 (a - b) = a - b ∧ -9223372036854775808 ≤ a - b ∧ a - b ≤ 9223372036854775807) ∨ (wrap64 (a - b) = a - b - 18446744073709551616 ∧ a - b > 9223372036854775807) ∨ (wrap64 (a - b) = a - b + 18446744073709551616 ∧ a - b < -9223372036854775808) := by
   unfold wrap64; omega
  generalize wrap64 (a - b) = s at *
  unfold sat
  by_cases h : a ≥ 0 ∧ b < 0 ∧ s < 0
  ·rw [hc, if_pos (by simpa using h)]
   rw [if_pos (by omega)]
  ·rw [hc, if_neg (by simpa using h)]
   by_cases h1 : a < 0
   ·rw [if_pos h1]
    by_cases h2 : b > 0
    ·rw [if_pos h2]
     by_cases h3 : s ≥ 0
     ·rw [if_pos h3, if_neg (by omega), if_pos (by omega)]
     ·rw [if_neg h3, if_neg (by omega), if_neg (by omega)]; congr 1; omega
    ·rw [if_neg h2, if_neg (by omega), if_neg (by omega)]; congr 1; omega
   ·rw [if_neg h1, if_neg (by omega), if_neg (by omega)]; congr 1; omega
 by_cases h1 : a ≥ 0
 ·by_cases h2 : b < 0
  ·exact Ev.congr (fun k => by rw [fix_Sub.f, if_pos h1, if_pos h2]) (key _ (by simp [h1, h2]))
  ·exact Ev.congr (fun k => by rw [fix_Sub.f, if_pos h1, if_neg h2]) (key _ (by simp [h2]))
 ·exact Ev.congr (fun k => by rw [fix_Sub.f, if_neg h1]) (key _ (by simp [h1]))

/-! ### params.Check and the document's -/
def RulesW (l : List Int) : Prop := ¬ (wrap64 ((wrap64 ((wrap64 ((rd l 0) + (rd l 6))) + (wrap64 (2 * (mx (rd l 2) (rd l 4)))))) + 4)) > 64 ∧ ¬ (rd l 12) < (wrap64 ((wrap64 (8 * (mx (rd l 1) (rd l 3)))) + 100)) ∧ ¬ (rd l 11) > (rd l 10)
def InRows (l : List Int) (i : Int) : Prop := ∀ j, i ≤ j → j < 24 → rd params_Check.tb0_0 j ≤ rd l j ∧ rd l j ≤ rd params_Check.tb0_1 j
open Classical in
noncomputable def cval (l : List Int) (i : Int) : Int := if InRows l i then (if RulesW l then 0 else 80) else 5
def Sound (l : List Int) : Prop := l.length = 24 ∧ InRows l 0 ∧ RulesW l
open Classical in
noncomputable def chv (l : List Int) : Int := if l.length = 24 then cval l 0 else 3
theorem inrows_last (l : List Int) : InRows l 24 := fun j h2 h3 => by omega
theorem cval_end (l : List Int) : cval l 24 = 0 ∧ RulesW l ∨ cval l 24 = 80 ∧ ¬ RulesW l := by
 unfold cval
 rw [if_pos (inrows_last l)]
 by_cases h : RulesW l
 ·exact .inl ⟨if_pos h, h⟩
 ·exact .inr ⟨if_neg h, h⟩
theorem cval_out {l : List Int} {i : Int} (hi : i < 24) (h : rd l i < rd params_Check.tb0_0 i ∨ rd l i > rd params_Check.tb0_1 i) : cval l i = 5 := by
 unfold cval
 rw [if_neg]
 intro g
 have := g i (Int.le_refl _) hi
 omega
theorem cval_on {l : List Int} {i : Int} (h1 : ¬ rd l i < rd params_Check.tb0_0 i) (h2 : ¬ rd l i > rd params_Check.tb0_1 i) : cval l i = cval l (i + 1) := by
 unfold cval
 have e : InRows l i ↔ InRows l (i + 1) := by
  refine ⟨fun h j a b => h j (by omega) b, fun h j a b => ?_⟩
  by_cases hj : j = i
  ·subst hj; exact ⟨by omega, by omega⟩
  ·exact h j (by omega) b
 by_cases g : InRows l i
 ·rw [if_pos g, if_pos (e.1 g)]
 ·rw [if_neg g, if_neg (fun h => g (e.2 h))]
theorem chv_zero {l : List Int} : chv l = 0 ↔ Sound l := by
 unfold chv cval Sound
 by_cases h : l.length = 24
 ·by_cases g : InRows l 0
  ·by_cases q : RulesW l
   ·rw [if_pos h, if_pos g, if_pos q]; exact ⟨fun _ => ⟨h, g, q⟩, fun _ => rfl⟩
   ·rw [if_pos h, if_pos g, if_neg q]; exact ⟨fun h => absurd h (by decide), fun h => absurd h.2.2 q⟩
  ·rw [if_pos h, if_neg g]; exact ⟨fun h => absurd h (by decide), fun h => absurd h.2.1 g⟩
 ·rw [if_neg h]; exact ⟨fun h => absurd h (by decide), fun g => absurd g.1 h⟩
theorem pchk_loop {l : List Int} (hl : l.length = 24) : ∀ (n : Nat) (i : Int), 0 ≤ i → i + n = 24 → Ev (fun k => params_Check.l0 k l i) (cval l i) := by
 have hL : (l.length : Int) = 24 := by omega
 intro n
 induction n with
 | zero =>
  intro i h0 h1
  have hi : i = 24 := by omega
  subst hi
  have hR : RulesW l = RulesW l := rfl
  conv at hR => rhs; unfold RulesW
  by_cases c1 : (wrap64 ((wrap64 ((wrap64 ((rd l 0) + (rd l 6))) + (wrap64 (2 * (mx (rd l 2) (rd l 4)))))) + 4)) > 64
  ·have e : cval l 24 = 80 := by rcases cval_end l with h | h; exact absurd c1 (hR ▸ h.2).1; exact h.1
   exact Ev.step (f := fun _ => some (cval l 24)) (fun k => by rw [params_Check.l0, hL, e]; simp only [if_neg (show ¬ (24 : Int) < 24 by decide), if_pos (show (2 : Int) < 24 by decide), if_pos (show (4 : Int) < 24 by decide), if_pos (show (1 : Int) < 24 by decide), if_pos (show (3 : Int) < 24 by decide), if_pos (show (0 : Int) < 24 by decide), if_pos (show (6 : Int) < 24 by decide), if_pos c1]) (Ev.now _)
  ·by_cases c2 : (rd l 12) < (wrap64 ((wrap64 (8 * (mx (rd l 1) (rd l 3)))) + 100))
   ·have e : cval l 24 = 80 := by rcases cval_end l with h | h; exact absurd c2 (hR ▸ h.2).2.1; exact h.1
    exact Ev.step (f := fun _ => some (cval l 24)) (fun k => by rw [params_Check.l0, hL, e]; simp only [if_neg (show ¬ (24 : Int) < 24 by decide), if_pos (show (2 : Int) < 24 by decide), if_pos (show (4 : Int) < 24 by decide), if_pos (show (1 : Int) < 24 by decide), if_pos (show (3 : Int) < 24 by decide), if_pos (show (0 : Int) < 24 by decide), if_pos (show (6 : Int) < 24 by decide), if_neg c1, if_pos (show (12 : Int) < 24 by decide), if_pos c2]) (Ev.now _)
   ·by_cases c3 : (rd l 11) > (rd l 10)
    ·have e : cval l 24 = 80 := by rcases cval_end l with h | h; exact absurd c3 (hR ▸ h.2).2.2; exact h.1
     exact Ev.step (f := fun _ => some (cval l 24)) (fun k => by rw [params_Check.l0, hL, e]; simp only [if_neg (show ¬ (24 : Int) < 24 by decide), if_pos (show (2 : Int) < 24 by decide), if_pos (show (4 : Int) < 24 by decide), if_pos (show (1 : Int) < 24 by decide), if_pos (show (3 : Int) < 24 by decide), if_pos (show (0 : Int) < 24 by decide), if_pos (show (6 : Int) < 24 by decide), if_neg c1, if_pos (show (12 : Int) < 24 by decide), if_neg c2, if_pos (show (11 : Int) < 24 by decide), if_pos (show (10 : Int) < 24 by decide), if_pos c3]) (Ev.now _)
    ·have e : cval l 24 = 0 := by
      rcases cval_end l with h | h
      ·exact h.1
      ·exact absurd (by rw [hR]; exact ⟨c1, c2, c3⟩) h.2
     exact Ev.step (f := fun _ => some (cval l 24)) (fun k => by rw [params_Check.l0, hL, e]; simp only [if_neg (show ¬ (24 : Int) < 24 by decide), if_pos (show (2 : Int) < 24 by decide), if_pos (show (4 : Int) < 24 by decide), if_pos (show (1 : Int) < 24 by decide), if_pos (show (3 : Int) < 24 by decide), if_pos (show (0 : Int) < 24 by decide), if_pos (show (6 : Int) < 24 by decide), if_neg c1, if_pos (show (12 : Int) < 24 by decide), if_neg c2, if_pos (show (11 : Int) < 24 by decide), if_pos (show (10 : Int) < 24 by decide), if_neg c3]) (Ev.now _)
 | succ n ih =>
  intro i h0 h1
  have hi : i < 24 := by omega
  have w : wrap64 (i + 1) = i + 1 := wsm (by omega) (by omega)
  have e1 := ih (i + 1) (by omega) (by omega)
  by_cases c1 : rd l i < rd params_Check.tb0_0 i
  ·exact ev_eq (cval_out hi (.inl c1)) (Ev.step (f := fun _ => some 5) (fun k => by rw [params_Check.l0, hL, if_pos hi, if_pos h0, if_pos hi, if_pos c1]) (Ev.now 5))
  ·by_cases c2 : rd l i > rd params_Check.tb0_1 i
   ·exact ev_eq (cval_out hi (.inr c2)) (Ev.step (f := fun _ => some 5) (fun k => by rw [params_Check.l0, hL, if_pos hi, if_pos h0, if_pos hi, if_neg c1, if_pos c2]) (Ev.now 5))
   ·exact ev_eq (cval_on c1 c2) (Ev.step (f := fun k => params_Check.l0 k l (i + 1)) (fun k => by rw [params_Check.l0, hL, if_pos hi, if_pos h0, if_pos hi, if_neg c1, if_neg c2, w]) e1)
theorem pcheck_ev (l : List Int) : Ev (fun k => params_Check.f k l) (chv l) := by
 by_cases hl : l.length = 24
 ·refine ev_eq (if_pos hl) (Ev.congr (fun k => by rw [params_Check.f, if_pos (by omega)]) ?_)
  exact Ev.bind (Ev.now _) (pchk_loop hl 24 0 (by omega) (by omega))
 ·exact ev_eq (if_neg hl) (Ev.congr (fun k => by rw [params_Check.f, if_neg (by omega)]) (Ev.now 3))
theorem rules_ev {l : List Int} (hl : l.length = 24) : (RulesW l → windhoverref08_rules.f l = some true) ∧ (¬ RulesW l → windhoverref08_rules.f l = some false) := by
 have hL : (l.length : Int) = 24 := by omega
 rw [windhoverref08_rules.f, hL]
 simp only [if_pos (show (2 : Int) < 24 by decide), if_pos (show (4 : Int) < 24 by decide), if_pos (show (1 : Int) < 24 by decide), if_pos (show (3 : Int) < 24 by decide), if_pos (show (0 : Int) < 24 by decide), if_pos (show (6 : Int) < 24 by decide), if_pos (show (12 : Int) < 24 by decide), if_pos (show (11 : Int) < 24 by decide), if_pos (show (10 : Int) < 24 by decide)]
 unfold RulesW
 generalize (wrap64 ((wrap64 ((wrap64 ((rd l 0) + (rd l 6))) + (wrap64 (2 * (mx (rd l 2) (rd l 4)))))) + 4)) = A
 generalize (wrap64 ((wrap64 (8 * (mx (rd l 1) (rd l 3)))) + 100)) = B
 refine ⟨fun h => ?_, fun h => ?_⟩
 ·rw [if_pos (by omega), if_pos (by omega), decide_eq_true (by omega)]
 ·by_cases c1 : A ≤ 64
  ·rw [if_pos c1]
   by_cases c2 : (rd l 12) ≥ B
   ·rw [if_pos c2, decide_eq_false (fun h3 => h ⟨by omega, by omega, by omega⟩)]
   ·rw [if_neg c2]
  ·rw [if_neg c1]
theorem rchk_loop {l : List Int} (hl : l.length = 24) : ∀ (n : Nat) (i : Int), 0 ≤ i → i + n = 24 → Ev (fun k => windhoverref08_Check.l0 k l i) (cval l i) := by
 have hL : (l.length : Int) = 24 := by omega
 intro n
 induction n with
 | zero =>
  intro i h0 h1
  have hi : i = 24 := by omega
  subst hi
  obtain ⟨r1, r2⟩ := rules_ev hl
  rcases cval_end l with h | h
  ·exact ev_eq h.1 (Ev.step (f := fun _ => some 0) (fun k => by rw [windhoverref08_Check.l0, if_neg (by decide), r1 h.2]; rfl) (Ev.now 0))
  ·exact ev_eq h.1 (Ev.step (f := fun _ => some 80) (fun k => by rw [windhoverref08_Check.l0, if_neg (by decide), r2 h.2]; rfl) (Ev.now 80))
 | succ n ih =>
  intro i h0 h1
  have hi : i < 24 := by omega
  have w : wrap64 (i + 1) = i + 1 := wsm (by omega) (by omega)
  have e1 := ih (i + 1) (by omega) (by omega)
  have f : ∀ k, windhoverref08_Check.l0 (k + 1) l i = if rd l i < rd params_Check.tb0_0 i then some 5 else if rd l i > rd params_Check.tb0_1 i then some 5 else windhoverref08_Check.l0 k l (i + 1) := fun k => by
   rw [windhoverref08_Check.l0, hL, if_pos hi, if_pos h0, if_pos hi, w, windhoverref08_lows.f, windhoverref08_highs.f]
   simp only [Option.bind_some]
   rw [show (params_Check.tb0_0 : List Int) = [0, 1, 0, 1, 0, 0, 4, 1600, 1600, 2000, 1000, 500, 200, 100, 40, 40, 1, 0, 0, 0, 0, 1, 0, 16] from rfl, show (params_Check.tb0_1 : List Int) = [16, 200, 16, 200, 16, 4, 32, 64000, 32000, 16000, 120000, 120000, 10000, 10000, 40000, 40000, 40, 1000000000, 1000000, 1000, 1000, 10000, 16384, 3200] from rfl]
   have hi2 : i < (([0, 1, 0, 1, 0, 0, 4, 1600, 1600, 2000, 1000, 500, 200, 100, 40, 40, 1, 0, 0, 0, 0, 1, 0, 16] : List Int).length : Int) := hi
   have hi3 : i < (([16, 200, 16, 200, 16, 4, 32, 64000, 32000, 16000, 120000, 120000, 10000, 10000, 40000, 40000, 40, 1000000000, 1000000, 1000, 1000, 10000, 16384, 3200] : List Int).length : Int) := hi
   rw [if_pos hi2, if_pos hi3]
  by_cases c1 : rd l i < rd params_Check.tb0_0 i
  ·exact ev_eq (cval_out hi (.inl c1)) (Ev.step (f := fun _ => some 5) (fun k => by rw [f, if_pos c1]) (Ev.now 5))
  ·by_cases c2 : rd l i > rd params_Check.tb0_1 i
   ·exact ev_eq (cval_out hi (.inr c2)) (Ev.step (f := fun _ => some 5) (fun k => by rw [f, if_neg c1, if_pos c2]) (Ev.now 5))
   ·exact ev_eq (cval_on c1 c2) (Ev.step (f := fun k => windhoverref08_Check.l0 k l (i + 1)) (fun k => by rw [f, if_neg c1, if_neg c2]) e1)
theorem rcheck_ev (l : List Int) : Ev (fun k => windhoverref08_Check.f k l) (chv l) := by
 by_cases hl : l.length = 24
 ·exact ev_eq (if_pos hl) (Ev.congr (fun k => by rw [windhoverref08_Check.f, if_pos (by omega)]) (rchk_loop hl 24 0 (by omega) (by omega)))
 ·exact ev_eq (if_neg hl) (Ev.congr (fun k => by rw [windhoverref08_Check.f, if_neg (by omega)]) (Ev.now 3))

/-! ### the way of a velocity; rounding up -/
def Wv (v b : Int) : Int := v / b * v - b * (v / b * (v / b + 1) / 2)
theorem tri_even (n : Int) : 2 * (n * (n + 1) / 2) = n * (n + 1) := by
 have h : n * (n + 1) % 2 = 0 := by
  rw [Int.mul_emod, Int.add_emod]
  rcases Int.emod_two_eq n with h | h <;> rw [h] <;> rfl
 omega
theorem wv_small {v b : Int} (hb : 0 < b) (h0 : 0 ≤ v) (h : v ≤ b) : Wv v b = 0 := by
 unfold Wv
 by_cases e : v = b
 ·subst e
  rw [Int.ediv_self (by omega)]
  simp
 ·rw [Int.ediv_eq_zero_of_lt h0 (by omega)]
  simp
theorem wv_step {v b : Int} (hb : 0 < b) : Wv v b = (v - b) + Wv (v - b) b := by
 unfold Wv
 have e : (v - b) / b = v / b - 1 := by
  rw [show v - b = v + (-1) * b by omega, Int.add_mul_ediv_right _ _ (by omega)]
  omega
 rw [e]
 generalize v / b = n
 have t1 := tri_even n
 have t2 := tri_even (n - 1)
 rw [show n - 1 + 1 = n by omega] at t2 ⊢
 have p1 : n * (n + 1) = (n - 1) * n + 2 * n := by rw [Int.mul_add, Int.sub_mul, Int.mul_one, Int.one_mul]; omega
 have t3 : n * (n + 1) / 2 = (n - 1) * n / 2 + n := by omega
 rw [t3, Int.mul_add]
 have c : b * n = n * b := Int.mul_comm _ _
 have e1 : (n - 1) * (v - b) = n * v - n * b - v + b := by rw [Int.sub_mul, Int.mul_sub, Int.one_mul]; omega
 omega
theorem wv_bound {v b : Int} (hb : 1 ≤ b) (h0 : 0 ≤ v) : 0 ≤ Wv v b ∧ Wv v b ≤ v / b * v := by
 have n0 : 0 ≤ v / b := Int.ediv_nonneg h0 (by omega)
 have hq : v / b * b ≤ v := Int.ediv_mul_le _ (by omega)
 have ht := tri_even (v / b)
 unfold Wv
 generalize v / b = n at *
 have p0 : 0 ≤ n * (n + 1) := Int.mul_nonneg n0 (by omega)
 have pT : 0 ≤ b * (n * (n + 1) / 2) := Int.mul_nonneg (by omega) (by omega)
 refine ⟨?_, by omega⟩
 -- 2 b T = b n (n+1) ≤ v (n+1) ≤ 2 n v, unless n = 0
 by_cases z : n = 0
 ·subst z; simp
 have q1 : b * (n * (n + 1)) = (n * b) * (n + 1) := by rw [← Int.mul_assoc, Int.mul_comm b n]
 have q2 : (n * b) * (n + 1) ≤ v * (n + 1) := Int.mul_le_mul_of_nonneg_right hq (by omega)
 have q3 : v * (n + 1) ≤ v * (2 * n) := Int.mul_le_mul_of_nonneg_left (by omega) h0
 have q4 : v * (2 * n) = 2 * (n * v) := by rw [Int.mul_comm 2 n, ← Int.mul_assoc, Int.mul_comm v n, Int.mul_comm]
 have q5 : b * (n * (n + 1)) = 2 * (b * (n * (n + 1) / 2)) := by rw [← ht, ← Int.mul_assoc, Int.mul_comm b 2, Int.mul_assoc]; congr 2; omega
 omega
theorem way_ev {v b : Int} (hb : 1 ≤ b) (h0 : 0 ≤ v) (hv : v ≤ 1000000000) (hb2 : b ≤ 1000000000) : params_way.f v b = some (Wv v b) := by
 have n0 : 0 ≤ v / b := Int.ediv_nonneg h0 (by omega)
 have n1 : v / b ≤ v := Int.ediv_le_self _ h0
 have wb := wv_bound hb h0
 have ht := tri_even (v / b)
 have p1 : 0 ≤ v / b * v := Int.mul_nonneg n0 h0
 have p2 : v / b * v ≤ 1000000000 * 1000000000 := Int.mul_le_mul (by omega) hv h0 (by omega)
 have p3 : v / b * (v / b + 1) ≤ 1000000000 * 1000000001 := Int.mul_le_mul (by omega) (by omega) (by omega) (by omega)
 have p4 : 0 ≤ v / b * (v / b + 1) := Int.mul_nonneg n0 (by omega)
 rw [params_way.f, if_neg (by omega), Int.tdiv_eq_ediv_of_nonneg h0]
 unfold Wv at wb ⊢
 generalize v / b = n at *
 rw [wsm (a := n) (by omega) (by omega), wsm (a := n * v) (by omega) (by omega), wsm (a := n + 1) (by omega) (by omega), wsm (a := n * (n + 1)) (by omega) (by omega), Int.tdiv_eq_ediv_of_nonneg p4]
 generalize n * (n + 1) / 2 = T at *
 rw [wsm (a := T) (by omega) (by omega)]
 generalize b * T = B at *
 generalize n * v = A at *
 rw [wsm (a := B) (by omega) (by omega), wsm (by omega) (by omega)]
theorem rway_ev {b : Int} (hb : 1 ≤ b) (hb2 : b ≤ 1000000000) : ∀ (n : Nat) (v s : Int), 0 ≤ v → v ≤ n → v ≤ 1000000000 → 0 ≤ s → s + Wv v b ≤ 9000000000000000000 → Ev (fun k => windhoverref08_Way.l0 k v b s) (s + Wv v b) := by
 intro n
 induction n with
 | zero =>
  intro v s h0 h1 h2 h3 h4
  rw [wv_small (by omega) h0 (by omega)]
  exact Ev.step (f := fun _ => some (s + 0)) (fun k => by rw [windhoverref08_Way.l0, if_neg (by omega), Int.add_zero]) (Ev.now _)
 | succ n ih =>
  intro v s h0 h1 h2 h3 h4
  by_cases h : v > b
  ·have st := wv_step (v := v) (b := b) (by omega)
   have wb := wv_bound (v := v - b) (b := b) hb (by omega)
   rw [st] at h4 ⊢
   have w1 : wrap64 (v - b) = v - b := wsm (by omega) (by omega)
   have w2 : wrap64 (s + (v - b)) = s + (v - b) := wsm (by omega) (by omega)
   refine Ev.step (f := fun k => windhoverref08_Way.l0 k (v - b) b (s + (v - b))) (fun k => by rw [windhoverref08_Way.l0, if_pos h, w1, w2]) ?_
   exact ev_eq (by omega) (ih (v - b) (s + (v - b)) (by omega) (by omega) (by omega) (by omega) (by omega))
  ·rw [wv_small (by omega) h0 (by omega)]
   exact Ev.step (f := fun _ => some (s + 0)) (fun k => by rw [windhoverref08_Way.l0, if_neg h, Int.add_zero]) (Ev.now _)
theorem rwayf_ev {v b : Int} (hb : 1 ≤ b) (h0 : 0 ≤ v) (hv : v ≤ 1000000000) (hb2 : b ≤ 1000000000) : Ev (fun k => windhoverref08_Way.f k v b) (Wv v b) := by
 have wb := wv_bound hb h0
 have n0 : 0 ≤ v / b := Int.ediv_nonneg h0 (by omega)
 have n1 : v / b ≤ v := Int.ediv_le_self _ h0
 have p2 : v / b * v ≤ 1000000000 * 1000000000 := Int.mul_le_mul (by omega) hv h0 (by omega)
 have := rway_ev hb hb2 v.toNat v 0 h0 (by omega) hv (by omega) (by omega)
 exact Ev.congr (fun k => by rw [windhoverref08_Way.f]) (ev_eq (by omega) this)
def cup (a b : Int) : Int := if Int.tmod a b > 0 then Int.tdiv a b + 1 else Int.tdiv a b
theorem tdiv_le {a b : Int} (h0 : 0 ≤ a) (hb : 1 ≤ b) : 0 ≤ Int.tdiv a b ∧ Int.tdiv a b ≤ a := by
 rw [Int.tdiv_eq_ediv_of_nonneg h0]
 exact ⟨Int.ediv_nonneg h0 (by omega), Int.ediv_le_self _ h0⟩
theorem up_ev {a b : Int} (hb : 1 ≤ b) (h0 : 0 ≤ a) (ha : a ≤ 9000000000000000000) : params_up.f a b = some (cup a b) := by
 have t := tdiv_le h0 hb
 rw [params_up.f, fix_Up.f, if_neg (by omega), if_neg (by omega)]
 unfold cup
 rw [wsm (a := Int.tdiv a b) (by omega) (by omega), wsm (a := Int.tdiv a b + 1) (by omega) (by omega)]
 by_cases h : Int.tmod a b > 0
 ·rw [if_pos h, if_pos h]; rfl
 ·rw [if_neg h, if_neg h]; rfl
theorem rup_ev {a b : Int} (hb : 1 ≤ b) (h0 : 0 ≤ a) (ha : a ≤ 9000000000000000000) : windhoverref08_up.f a b = some (cup a b) := by
 have t := tdiv_le h0 hb
 rw [windhoverref08_up.f, windhoverref01_Floor.f, if_neg (by omega), wsm (a := -a) (by omega) (by omega), Int.neg_tdiv, Int.neg_tmod, wsm (a := -(Int.tdiv a b)) (by omega) (by omega), wsm (a := -(Int.tdiv a b) - 1) (by omega) (by omega)]
 unfold cup
 by_cases h : Int.tmod a b > 0
 ·rw [if_pos h, if_pos (by omega)]
  show some (wrap64 (-(-(Int.tdiv a b) - 1))) = _
  rw [wsm (by omega) (by omega)]
  congr 1; omega
 ·rw [if_neg h, if_neg (by omega)]
  show some (wrap64 (-(-(Int.tdiv a b)))) = _
  rw [wsm (by omega) (by omega), Int.neg_neg]
theorem cup_le {a b : Int} (hb : 1 ≤ b) (h0 : 0 ≤ a) : 0 ≤ cup a b ∧ cup a b ≤ a + 1 := by
 have t := tdiv_le h0 hb
 unfold cup
 split <;> omega

/-! ### what follows from sound parameters -/
def mB (l : List Int) : Int := 64 - rd l 0
def mD (l : List Int) : Int := rd l 0 + mx (rd l 2) (rd l 4) + 2
def mJ (l : List Int) : Int := 86 * (rd l 5 + 1)
def mF (l : List Int) : Int := mx (mx (rd l 7) (rd l 8)) (rd l 9) + 128 + mJ l + mD l
def mL (l : List Int) : Int := cup (Wv (mF l) (mB l)) 6400 + 12 * mx (rd l 1) (rd l 3) + 100
def mN (l : List Int) : Int := rd l 19 + Int.tdiv (1824 * rd l 20) 1024
theorem mx_cases (a b : Int) : (mx a b = a ∧ b ≤ a) ∨ (mx a b = b ∧ a ≤ b) := by
 unfold mx
 split <;> omega
structure Rows (l : List Int) : Prop where
 len : (l.length : Int) = 24
 r0 : 0 ≤ rd l 0 ∧ rd l 0 ≤ 16
 r1 : 1 ≤ rd l 1 ∧ rd l 1 ≤ 200
 r2 : 0 ≤ rd l 2 ∧ rd l 2 ≤ 16
 r3 : 1 ≤ rd l 3 ∧ rd l 3 ≤ 200
 r4 : 0 ≤ rd l 4 ∧ rd l 4 ≤ 16
 r5 : 0 ≤ rd l 5 ∧ rd l 5 ≤ 4
 r6 : 4 ≤ rd l 6 ∧ rd l 6 ≤ 32
 r7 : 1600 ≤ rd l 7 ∧ rd l 7 ≤ 64000
 r8 : 1600 ≤ rd l 8 ∧ rd l 8 ≤ 32000
 r9 : 2000 ≤ rd l 9 ∧ rd l 9 ≤ 16000
 r10 : 1000 ≤ rd l 10 ∧ rd l 10 ≤ 120000
 r19 : 0 ≤ rd l 19 ∧ rd l 19 ≤ 1000
 r20 : 0 ≤ rd l 20 ∧ rd l 20 ≤ 1000
theorem rows_of {l : List Int} (h : Sound l) : Rows l :=
 ⟨by have := h.1; omega, h.2.1 0 (by decide) (by decide), h.2.1 1 (by decide) (by decide), h.2.1 2 (by decide) (by decide), h.2.1 3 (by decide) (by decide), h.2.1 4 (by decide) (by decide), h.2.1 5 (by decide) (by decide), h.2.1 6 (by decide) (by decide), h.2.1 7 (by decide) (by decide), h.2.1 8 (by decide) (by decide), h.2.1 9 (by decide) (by decide), h.2.1 10 (by decide) (by decide), h.2.1 19 (by decide) (by decide), h.2.1 20 (by decide) (by decide)⟩
structure Marg (l : List Int) : Prop where
 b : 48 ≤ mB l ∧ mB l ≤ 64
 d : 2 ≤ mD l ∧ mD l ≤ 34
 j : 86 ≤ mJ l ∧ mJ l ≤ 430
 f : 2216 ≤ mF l ∧ mF l ≤ 64592
 w : 0 ≤ Wv (mF l) (mB l) ∧ Wv (mF l) (mB l) ≤ 10000000000
 u : 0 ≤ cup (Wv (mF l) (mB l)) 6400 ∧ cup (Wv (mF l) (mB l)) 6400 ≤ 10000000001
 p : 1 ≤ mx (rd l 1) (rd l 3) ∧ mx (rd l 1) (rd l 3) ≤ 200
 s : 0 ≤ mx (rd l 2) (rd l 4) ∧ mx (rd l 2) (rd l 4) ≤ 16
 c : 2000 ≤ mx (mx (rd l 7) (rd l 8)) (rd l 9) ∧ mx (mx (rd l 7) (rd l 8)) (rd l 9) ≤ 64000
 n : 0 ≤ Int.tdiv (1824 * rd l 20) 1024 ∧ Int.tdiv (1824 * rd l 20) 1024 ≤ 1824000
theorem marg_of {l : List Int} (R : Rows l) : Marg l := by
 obtain ⟨len, r0, r1, r2, r3, r4, r5, r6, r7, r8, r9, r10, r19, r20⟩ := R
 have m1 := mx_cases (rd l 1) (rd l 3)
 have m2 := mx_cases (rd l 2) (rd l 4)
 have m3 := mx_cases (rd l 7) (rd l 8)
 have m4 := mx_cases (mx (rd l 7) (rd l 8)) (rd l 9)
 have B : 48 ≤ mB l ∧ mB l ≤ 64 := by unfold mB; omega
 have D : 2 ≤ mD l ∧ mD l ≤ 34 := by unfold mD; omega
 have J : 86 ≤ mJ l ∧ mJ l ≤ 430 := by unfold mJ; omega
 have C : 2000 ≤ mx (mx (rd l 7) (rd l 8)) (rd l 9) ∧ mx (mx (rd l 7) (rd l 8)) (rd l 9) ≤ 64000 := by omega
 have F : 2216 ≤ mF l ∧ mF l ≤ 64592 := by unfold mF; omega
 have wb := wv_bound (v := mF l) (b := mB l) (by omega) (by omega)
 have n0 : 0 ≤ mF l / mB l := Int.ediv_nonneg (by omega) (by omega)
 have n1 : mF l / mB l ≤ mF l := Int.ediv_le_self _ (by omega)
 have p2 : mF l / mB l * mF l ≤ 100000 * 100000 := Int.mul_le_mul (by omega) (by omega) (by omega) (by omega)
 have W : 0 ≤ Wv (mF l) (mB l) ∧ Wv (mF l) (mB l) ≤ 10000000000 := ⟨wb.1, by omega⟩
 have u := cup_le (a := Wv (mF l) (mB l)) (b := 6400) (by decide) W.1
 have t := tdiv_le (a := 1824 * rd l 20) (b := 1024) (by omega) (by decide)
 exact ⟨B, D, J, F, W, ⟨u.1, by omega⟩, by omega, by omega, C, ⟨t.1, by omega⟩⟩
theorem w_B {l : List Int} (R : Rows l) : wrap64 (64 - rd l 0) = mB l := wsm (by have := R.r0; omega) (by have := R.r0; omega)
theorem w_D {l : List Int} (R : Rows l) : wrap64 ((wrap64 ((rd l 0) + (mx (rd l 2) (rd l 4)))) + 2) = mD l := by
 have M := (marg_of R).s
 have r := R.r0
 rw [wsm (a := rd l 0 + mx (rd l 2) (rd l 4)) (by omega) (by omega), wsm (by omega) (by omega)]; rfl
theorem w_J {l : List Int} (R : Rows l) : wrap64 (86 * (wrap64 ((rd l 5) + 1))) = mJ l := by
 have r := R.r5
 rw [wsm (a := rd l 5 + 1) (by omega) (by omega), wsm (by omega) (by omega)]; rfl
theorem w_F {l : List Int} (R : Rows l) : wrap64 ((wrap64 ((wrap64 ((mx (mx (rd l 7) (rd l 8)) (rd l 9)) + 128)) + mJ l)) + mD l) = mF l := by
 have M := marg_of R
 have c := M.c; have j := M.j; have d := M.d
 rw [wsm (a := mx (mx (rd l 7) (rd l 8)) (rd l 9) + 128) (by omega) (by omega), wsm (a := mx (mx (rd l 7) (rd l 8)) (rd l 9) + 128 + mJ l) (by omega) (by omega), wsm (by omega) (by omega)]; rfl
theorem w_L {l : List Int} (R : Rows l) : wrap64 ((wrap64 (cup (Wv (mF l) (mB l)) 6400 + (wrap64 (12 * (mx (rd l 1) (rd l 3)))))) + 100) = mL l := by
 have M := marg_of R
 have p := M.p; have u := M.u
 rw [wsm (a := 12 * mx (rd l 1) (rd l 3)) (by omega) (by omega), wsm (a := cup (Wv (mF l) (mB l)) 6400 + 12 * mx (rd l 1) (rd l 3)) (by omega) (by omega), wsm (by omega) (by omega)]; rfl
theorem w_N {l : List Int} (R : Rows l) : wrap64 ((rd l 19) + (wrap64 (Int.tdiv (wrap64 (1824 * (rd l 20))) 1024))) = mN l := by
 have M := marg_of R
 have n := M.n
 have r := R.r20; have q := R.r19
 rw [wsm (a := 1824 * rd l 20) (by omega) (by omega), wsm (a := Int.tdiv (1824 * rd l 20) 1024) (by omega) (by omega), wsm (by omega) (by omega)]; rfl
def mT (l : List Int) : Int × Int × Int × Int × Int × Int × Int := (mB l, mD l, mJ l, mF l, mL l, mN l, 0)
theorem pmarg_ok {l : List Int} (h : Sound l) : Ev (fun k => params_Margins.f k l) (mT l) := by
 have R := rows_of h
 have M := marg_of R
 have b := M.b; have f := M.f; have w := M.w
 have e0 := pcheck_ev l
 rw [chv_zero.2 h] at e0
 refine Ev.congr (fun k => by rw [params_Margins.f]) ?_
 refine Ev.bind e0 ?_
 have hw : params_way.f (mF l) (mB l) = some (Wv (mF l) (mB l)) := way_ev (by omega) (by omega) (by omega) (by omega)
 have hu : params_up.f (Wv (mF l) (mB l)) 6400 = some (cup (Wv (mF l) (mB l)) 6400) := up_ev (by decide) w.1 (by omega)
 refine Ev.congr (f := fun _ => some (mT l)) (fun k => ?_) (Ev.now _)
 rw [R.len, w_B R, w_D R, w_J R, w_F R, hw]
 simp only [if_true, Option.bind_some, hu]
 rw [w_L R, w_N R]
 rfl
theorem rmarg_ok {l : List Int} (h : Sound l) : Ev (fun k => windhoverref08_Margins.f k l) (mT l) := by
 have R := rows_of h
 have M := marg_of R
 have b := M.b; have f := M.f; have w := M.w
 have e0 := rcheck_ev l
 rw [chv_zero.2 h] at e0
 refine Ev.congr (fun k => by rw [windhoverref08_Margins.f]) ?_
 refine Ev.bind e0 ?_
 have hw : Ev (fun k => windhoverref08_Way.f k (mF l) (mB l)) (Wv (mF l) (mB l)) := rwayf_ev (by omega) (by omega) (by omega) (by omega)
 have hu : windhoverref08_up.f (Wv (mF l) (mB l)) 6400 = some (cup (Wv (mF l) (mB l)) 6400) := rup_ev (by decide) w.1 (by omega)
 refine Ev.congr (f := fun k => (windhoverref08_Way.f k (mF l) (mB l)).bind fun t => (windhoverref08_up.f t 6400).bind fun t357 => some (mB l, mD l, mJ l, mF l, wrap64 ((wrap64 (t357 + (wrap64 (12 * (mx (rd l 1) (rd l 3)))))) + 100), mN l, 0)) (fun k => ?_) ?_
 ·rw [R.len, w_B R, w_D R, w_J R, w_F R, w_N R]
  rfl
 ·refine Ev.bind hw ?_
  refine Ev.congr (f := fun _ => some (mT l)) (fun k => ?_) (Ev.now _)
  rw [hu]
  simp only [Option.bind_some]
  rw [w_L R]
  rfl
theorem pmarg_no {l : List Int} (h : ¬ Sound l) : Ev (fun k => params_Margins.f k l) (0, 0, 0, 0, 0, 0, chv l) := by
 refine Ev.congr (fun k => by rw [params_Margins.f]) ?_
 refine Ev.bind (pcheck_ev l) ?_
 exact Ev.congr (fun k => by rw [if_neg (fun g => h (chv_zero.1 g))]) (Ev.now _)
theorem rmarg_no {l : List Int} (h : ¬ Sound l) : Ev (fun k => windhoverref08_Margins.f k l) (0, 0, 0, 0, 0, 0, chv l) := by
 refine Ev.congr (fun k => by rw [windhoverref08_Margins.f]) ?_
 refine Ev.bind (rcheck_ev l) ?_
 exact Ev.congr (fun k => by rw [if_neg (fun g => h (chv_zero.1 g))]) (Ev.now _)
/-! ### how long landing and returning take, and the room beyond a fence -/
def outb (a : Int) : Bool := if a < 0 then true else decide (a > 536870912)
theorem out_f (a : Int) : params_outside.f a = some (outb a) := by
 unfold params_outside.f outb
 split <;> rfl
theorem far_f (a : Int) : windhoverref08_far.f a = some (outb a) := by
 unfold windhoverref08_far.f outb
 split <;> rfl
theorem out_no {a : Int} (h : outb a = false) : 0 ≤ a ∧ a ≤ 536870912 := by
 unfold outb at h
 by_cases g : a < 0
 ·rw [if_pos g] at h; cases h
 ·rw [if_neg g] at h
  have := of_decide_eq_false h
  omega
def LTv (l : List Int) (h : Int) : Int := Int.tdiv (mF l) (mB l) + Int.tdiv (rd l 9) 32 + cup (h * 6400 + Wv (mF l) (mB l) + 16 * mF l) (rd l 9 - mD l) + 104
structure Land (l : List Int) (h : Int) : Prop where
 w1 : wrap64 ((wrap64 ((wrap64 (h * 6400)) + Wv (mF l) (mB l))) + (wrap64 (16 * mF l))) = h * 6400 + Wv (mF l) (mB l) + 16 * mF l
 w2 : wrap64 (rd l 9 - mD l) = rd l 9 - mD l
 w3 : wrap64 (Int.tdiv (mF l) (mB l)) = Int.tdiv (mF l) (mB l)
 w4 : wrap64 (Int.tdiv (rd l 9) 32) = Int.tdiv (rd l 9) 32
 w5 : ∀ c, c = cup (h * 6400 + Wv (mF l) (mB l) + 16 * mF l) (rd l 9 - mD l) → wrap64 ((wrap64 ((wrap64 ((wrap64 (Int.tdiv (mF l) (mB l) + Int.tdiv (rd l 9) 32)) + c)) + 40)) + 64) = LTv l h ∧ wrap64 ((wrap64 ((wrap64 (Int.tdiv (mF l) (mB l) + Int.tdiv (rd l 9) 32)) + c)) + 104) = LTv l h
 d : 1 ≤ rd l 9 - mD l
 a : 0 ≤ h * 6400 + Wv (mF l) (mB l) + 16 * mF l ∧ h * 6400 + Wv (mF l) (mB l) + 16 * mF l ≤ 4000000000000
 v : 104 ≤ LTv l h ∧ LTv l h ≤ 4000001000000
theorem land_of {l : List Int} (R : Rows l) {h : Int} (h0 : 0 ≤ h) (h1 : h ≤ 536870912) : Land l h := by
 have M := marg_of R
 have b := M.b; have d := M.d; have f := M.f; have w := M.w; have r9 := R.r9
 have t1 := tdiv_le (a := mF l) (b := mB l) (by omega) (by omega)
 have t2 := tdiv_le (a := rd l 9) (b := 32) (by omega) (by decide)
 have cc := cup_le (a := h * 6400 + Wv (mF l) (mB l) + 16 * mF l) (b := rd l 9 - mD l) (by omega) (by omega)
 have V : 104 ≤ LTv l h ∧ LTv l h ≤ 4000001000000 := by unfold LTv; omega
 refine ⟨?_, wsm (by omega) (by omega), wsm (by omega) (by omega), wsm (by omega) (by omega), ?_, by omega, by omega, V⟩
 ·rw [wsm (a := h * 6400) (by omega) (by omega), wsm (a := 16 * mF l) (by omega) (by omega), wsm (a := h * 6400 + Wv (mF l) (mB l)) (by omega) (by omega), wsm (by omega) (by omega)]
 ·intro c hc
  unfold LTv at V ⊢
  rw [← hc] at V cc ⊢
  clear hc
  rw [wsm (a := Int.tdiv (mF l) (mB l) + Int.tdiv (rd l 9) 32) (by omega) (by omega), wsm (a := Int.tdiv (mF l) (mB l) + Int.tdiv (rd l 9) 32 + c) (by omega) (by omega), wsm (a := Int.tdiv (mF l) (mB l) + Int.tdiv (rd l 9) 32 + c + 40) (by omega) (by omega), wsm (a := Int.tdiv (mF l) (mB l) + Int.tdiv (rd l 9) 32 + c + 40 + 64) (by omega) (by omega), wsm (a := Int.tdiv (mF l) (mB l) + Int.tdiv (rd l 9) 32 + c + 104) (by omega) (by omega)]
  omega
theorem pland_ok {l : List Int} (S : Sound l) {h : Int} (ho : outb h = false) : Ev (fun k => params_LandTicks.f k l h) (LTv l h, 0) := by
 have R := rows_of S
 have o := out_no ho
 have L := land_of R o.1 o.2
 have M := marg_of R
 have b := M.b; have f := M.f
 have hw : params_way.f (mF l) (mB l) = some (Wv (mF l) (mB l)) := way_ev (by omega) (by omega) (by omega) (by omega)
 have hu := up_ev L.d L.a.1 (by have := L.a; omega)
 refine Ev.congr (fun k => by rw [params_LandTicks.f]) ?_
 refine Ev.bind (pmarg_ok S) ?_
 refine Ev.congr (f := fun _ => some (LTv l h, 0)) (fun k => ?_) (Ev.now _)
 unfold mT
 dsimp only
 rw [if_pos rfl, out_f, ho]
 simp only [Option.bind_some]
 rw [if_neg (by decide), hw]
 simp only [Option.bind_some]
 rw [if_neg (by omega), R.len, if_pos (by decide), L.w1, L.w2, hu]
 simp only [Option.bind_some]
 rw [L.w3, L.w4, (L.w5 _ rfl).1]
theorem rland_ok {l : List Int} (S : Sound l) {h : Int} (ho : outb h = false) : Ev (fun k => windhoverref08_LandTicks.f k l h) (LTv l h, 0) := by
 have R := rows_of S
 have o := out_no ho
 have L := land_of R o.1 o.2
 have M := marg_of R
 have b := M.b; have f := M.f
 have hw : Ev (fun k => windhoverref08_Way.f k (mF l) (mB l)) (Wv (mF l) (mB l)) := rwayf_ev (by omega) (by omega) (by omega) (by omega)
 have hu := rup_ev L.d L.a.1 (by have := L.a; omega)
 refine Ev.congr (fun k => by rw [windhoverref08_LandTicks.f]) ?_
 refine Ev.bind (rmarg_ok S) ?_
 refine Ev.congr (f := fun k => (windhoverref08_Way.f k (mF l) (mB l)).bind fun t371 => (windhoverref08_up.f (wrap64 ((wrap64 ((wrap64 (h * 6400)) + t371)) + (wrap64 (16 * mF l)))) (rd l 9 - mD l)).bind fun t372 => some (wrap64 ((wrap64 ((wrap64 (Int.tdiv (mF l) (mB l) + Int.tdiv (rd l 9) 32)) + t372)) + 104), 0)) (fun k => ?_) ?_
 ·unfold mT
  dsimp only
  rw [if_pos rfl, far_f, ho]
  simp only [Option.bind_some]
  rw [if_neg (by decide), R.len, if_pos (by decide), if_neg (by omega), L.w2, L.w3, L.w4]
 ·refine Ev.bind hw ?_
  refine Ev.congr (f := fun _ => some (LTv l h, 0)) (fun k => ?_) (Ev.now _)
  rw [L.w1, hu]
  simp only [Option.bind_some]
  rw [(L.w5 _ rfl).2]
/-! ### returning; slack -/
def ALv (l : List Int) (mm sp : Int) : Int := 8 * Int.tdiv sp (rd l 6) + cup (19200 * mm) sp + 800
def RTv (l : List Int) (h d : Int) : Int := ALv l (mx h (rd l 10) + 1000) (rd l 8) + ALv l d (rd l 7) + 8 * Int.tdiv (rd l 8 + rd l 9) (rd l 6) + cup (12800 * (mx h (rd l 10) + 1000)) (rd l 9) + 104
theorem al_v {l : List Int} (R : Rows l) {mm sp : Int} (h0 : 0 ≤ mm) (h1 : mm ≤ 540000000) (s0 : 1600 ≤ sp) (s1 : sp ≤ 64000) : (800 ≤ ALv l mm sp ∧ ALv l mm sp ≤ 20000000000000) ∧ wrap64 ((wrap64 ((wrap64 (8 * (wrap64 (Int.tdiv sp (rd l 6))))) + cup (19200 * mm) sp)) + 800) = ALv l mm sp := by
 have r6 := R.r6
 have t := tdiv_le (a := sp) (b := rd l 6) (by omega) (by omega)
 have c := cup_le (a := 19200 * mm) (b := sp) (by omega) (by omega)
 refine ⟨⟨by unfold ALv; omega, by unfold ALv; omega⟩, ?_⟩
 unfold ALv
 rw [wsm (a := Int.tdiv sp (rd l 6)) (by omega) (by omega), wsm (a := 8 * Int.tdiv sp (rd l 6)) (by omega) (by omega), wsm (a := 8 * Int.tdiv sp (rd l 6) + cup (19200 * mm) sp) (by omega) (by omega), wsm (by omega) (by omega)]
theorem pal_ok {l : List Int} (R : Rows l) {mm sp : Int} (h0 : 0 ≤ mm) (h1 : mm ≤ 540000000) (s0 : 1600 ≤ sp) (s1 : sp ≤ 64000) : params_ReturnTicks.al l mm sp = some (ALv l mm sp) := by
 have r6 := R.r6
 rw [params_ReturnTicks.al, if_neg (by omega), wsm (a := 19200 * mm) (by omega) (by omega), up_ev (by omega) (by omega) (by omega)]
 simp only [Option.bind_some]
 rw [(al_v R h0 h1 s0 s1).2]
theorem ral_ok {l : List Int} (R : Rows l) {mm sp : Int} (h0 : 0 ≤ mm) (h1 : mm ≤ 540000000) (s0 : 1600 ≤ sp) (s1 : sp ≤ 64000) : windhoverref08_axis.f l mm sp = some (ALv l mm sp) := by
 have r6 := R.r6
 rw [windhoverref08_axis.f, R.len, if_pos (by decide), if_neg (by omega), wsm (a := 19200 * mm) (by omega) (by omega), rup_ev (by omega) (by omega) (by omega)]
 simp only [Option.bind_some]
 rw [(al_v R h0 h1 s0 s1).2]
structure Ret (l : List Int) (h : Int) (d : Int) : Prop where
 hh : 0 ≤ mx h (rd l 10) + 1000 ∧ mx h (rd l 10) + 1000 ≤ 540000000
 w0 : wrap64 (mx h (rd l 10) + 1000) = mx h (rd l 10) + 1000
 w1 : wrap64 (12800 * (mx h (rd l 10) + 1000)) = 12800 * (mx h (rd l 10) + 1000)
 w2 : ∀ p q s, p = ALv l (mx h (rd l 10) + 1000) (rd l 8) → q = ALv l d (rd l 7) → s = cup (12800 * (mx h (rd l 10) + 1000)) (rd l 9) → wrap64 ((wrap64 ((wrap64 ((wrap64 ((wrap64 (p + q)) + (wrap64 (8 * (wrap64 (Int.tdiv (wrap64 ((rd l 8) + (rd l 9))) (rd l 6))))))) + s)) + 40)) + 64) = RTv l h d ∧ wrap64 ((wrap64 ((wrap64 ((wrap64 (p + q)) + (wrap64 (8 * (wrap64 (Int.tdiv (wrap64 ((rd l 8) + (rd l 9))) (rd l 6))))))) + s)) + 104) = RTv l h d
 v : 104 ≤ RTv l h d
theorem ret_of {l : List Int} (R : Rows l) {h d : Int} (h0 : 0 ≤ h) (h1 : h ≤ 536870912) (d0 : 0 ≤ d) (d1 : d ≤ 536870912) : Ret l h d := by
 have r6 := R.r6; have r7 := R.r7; have r8 := R.r8; have r9 := R.r9; have r10 := R.r10
 have m := mx_cases h (rd l 10)
 have H : 0 ≤ mx h (rd l 10) + 1000 ∧ mx h (rd l 10) + 1000 ≤ 540000000 := by omega
 have A := (al_v R H.1 H.2 r8.1 (by omega)).1
 have B := (al_v R d0 (by omega) r7.1 r7.2).1
 have t := tdiv_le (a := rd l 8 + rd l 9) (b := rd l 6) (by omega) (by omega)
 have c := cup_le (a := 12800 * (mx h (rd l 10) + 1000)) (b := rd l 9) (by omega) (by omega)
 refine ⟨H, wsm (by omega) (by omega), wsm (by omega) (by omega), ?_, by unfold RTv; omega⟩
 intro p q s hp hq hs
 unfold RTv
 rw [← hp, ← hq, ← hs]
 rw [← hp] at A; rw [← hq] at B; rw [← hs] at c
 clear hp hq hs
 rw [wsm (a := rd l 8 + rd l 9) (by omega) (by omega), wsm (a := Int.tdiv (rd l 8 + rd l 9) (rd l 6)) (by omega) (by omega), wsm (a := 8 * Int.tdiv (rd l 8 + rd l 9) (rd l 6)) (by omega) (by omega), wsm (a := p + q) (by omega) (by omega), wsm (a := p + q + 8 * Int.tdiv (rd l 8 + rd l 9) (rd l 6)) (by omega) (by omega), wsm (a := p + q + 8 * Int.tdiv (rd l 8 + rd l 9) (rd l 6) + s) (by omega) (by omega), wsm (a := p + q + 8 * Int.tdiv (rd l 8 + rd l 9) (rd l 6) + s + 40) (by omega) (by omega), wsm (a := p + q + 8 * Int.tdiv (rd l 8 + rd l 9) (rd l 6) + s + 40 + 64) (by omega) (by omega), wsm (a := p + q + 8 * Int.tdiv (rd l 8 + rd l 9) (rd l 6) + s + 104) (by omega) (by omega)]
 omega
theorem pret_ok {l : List Int} (S : Sound l) {h d : Int} (ho : outb h = false) (hd : outb d = false) : Ev (fun k => params_ReturnTicks.f k l h d) (RTv l h d, 0) := by
 have R := rows_of S
 have o := out_no ho; have p := out_no hd
 have T := ret_of R o.1 o.2 p.1 p.2
 have r6 := R.r6; have r7 := R.r7; have r8 := R.r8; have r9 := R.r9
 have e0 := pcheck_ev l
 rw [chv_zero.2 S] at e0
 refine Ev.congr (fun k => by rw [params_ReturnTicks.f]) ?_
 refine Ev.bind e0 ?_
 refine Ev.congr (f := fun _ => some (RTv l h d, 0)) (fun k => ?_) (Ev.now _)
 rw [if_pos rfl, out_f, out_f, ho, hd]
 simp only [Option.bind_some]
 rw [if_neg (by decide), if_neg (by decide), if_pos R.len, if_neg (by omega), T.w0, (pal_ok R T.hh.1 T.hh.2 r8.1 (by omega)), (pal_ok R p.1 (by omega) r7.1 r7.2), T.w1, up_ev (by omega) (by have := T.hh; omega) (by have := T.hh; omega)]
 simp only [Option.bind_some]
 rw [(T.w2 _ _ _ rfl rfl rfl).1]
theorem rret_ok {l : List Int} (S : Sound l) {h d : Int} (ho : outb h = false) (hd : outb d = false) : Ev (fun k => windhoverref08_ReturnTicks.f k l h d) (RTv l h d, 0) := by
 have R := rows_of S
 have o := out_no ho; have p := out_no hd
 have T := ret_of R o.1 o.2 p.1 p.2
 have r6 := R.r6; have r7 := R.r7; have r8 := R.r8; have r9 := R.r9
 have e0 := rcheck_ev l
 rw [chv_zero.2 S] at e0
 refine Ev.congr (fun k => by rw [windhoverref08_ReturnTicks.f]) ?_
 refine Ev.bind e0 ?_
 refine Ev.congr (f := fun k => windhoverref08_ReturnTicks.j0 k l h d false) (fun k => ?_) ?_
 ·rw [if_pos rfl, far_f, far_f, ho, hd]
  simp only [Option.bind_some]
  rw [if_neg (by decide)]
 ·refine Ev.step (f := fun _ => some (RTv l h d, 0)) (fun k => ?_) (Ev.now _)
  rw [windhoverref08_ReturnTicks.j0, if_neg (by decide), R.len, if_pos (by decide), if_pos (by decide), if_pos (by decide), T.w0, (ral_ok R T.hh.1 T.hh.2 r8.1 (by omega))]
  simp only [Option.bind_some]
  rw [if_pos (by decide), (ral_ok R p.1 (by omega) r7.1 r7.2)]
  simp only [Option.bind_some]
  rw [if_pos (by decide), if_neg (by omega), T.w1, rup_ev (by omega) (by have := T.hh; omega) (by have := T.hh; omega)]
  simp only [Option.bind_some]
  rw [(T.w2 _ _ _ rfl rfl rfl).2]
def SLv (l : List Int) (c : Int) : Int := cup (mD l * LTv l c + 64 * mJ l) 6400 + 2
structure Slk (l : List Int) (c : Int) : Prop where
 a : 0 ≤ mD l * LTv l c + 64 * mJ l ∧ mD l * LTv l c + 64 * mJ l ≤ 200000000000000
 w1 : wrap64 ((wrap64 (mD l * LTv l c)) + (wrap64 (64 * mJ l))) = mD l * LTv l c + 64 * mJ l
 w2 : wrap64 (cup (mD l * LTv l c + 64 * mJ l) 6400 + 2) = SLv l c
 v : 2 ≤ SLv l c
set_option maxRecDepth 100000 in
theorem awake14_ev : Ev (fun k => windhoverlaw14_awake.f k) true := by
 have h : windhoverlaw14_awake.f 80 = some true := by decide +kernel
 exact Ev.of (fun k => windhoverlaw14_awake.mono k) h
theorem fin14 : Ev (fun k => (windhoverlaw14_awake.f k).bind fun t => some t) true := Ev.bind awake14_ev (Ev.now true)
theorem new_ok {l : List Int} (h : Sound l) : Ev (fun k => power_New.f k l) (l, mN l, false, 0, 0, 0) := by
 refine Ev.congr (fun k => by rw [power_New.f]) ?_
 refine Ev.bind (pmarg_ok h) ?_
 have hl : l.length = 24 := h.1
 exact Ev.congr (fun k => by rw [mT]; dsimp only; rw [if_pos rfl, if_pos (by omega)]) (Ev.now _)
theorem new_no {l : List Int} (h : ¬ Sound l) : Ev (fun k => power_New.f k l) ([], 0, false, 0, 0, chv l) := by
 refine Ev.congr (fun k => by rw [power_New.f]) ?_
 refine Ev.bind (pmarg_no h) ?_
 exact Ev.congr (fun k => by dsimp only; rw [if_neg (fun e => h (chv_zero.1 e))]) (Ev.now _)

theorem same_loop {l : List Int} (hl : l.length ≤ 4611686018427387904) : ∀ (n i : Nat), i + n = l.length → Ev (fun k => windhoverref00_SameInts.l0 k l l (i : Int)) true := by
 intro n
 induction n with
 | zero => intro i h; exact Ev.step (f := fun _ => some true) (fun k => by rw [windhoverref00_SameInts.l0, if_neg (by omega)]) (Ev.now _)
 | succ n ih =>
  intro i h
  have w : wrap64 ((i : Int) + 1) = ((i + 1 : Nat) : Int) := by rw [wsm (by omega) (by omega)]; omega
  exact Ev.step (f := fun k => windhoverref00_SameInts.l0 k l l ((i + 1 : Nat) : Int)) (fun k => by rw [windhoverref00_SameInts.l0, if_pos (by omega), if_pos (by omega), if_pos (by omega), if_pos rfl, w]) (ih (i + 1) (by omega))
theorem same_ev {l : List Int} (hl : l.length ≤ 4611686018427387904) : Ev (fun k => windhoverref00_SameInts.f k l l) true :=
 Ev.congr (fun k => by rw [windhoverref00_SameInts.f, if_pos rfl]; rfl) (same_loop hl l.length 0 (by omega))

theorem lent_w4 {n : Nat} (h : n ≤ 17592186043904) : wrap64 ((n : Int) + 4) = (n : Int) + 4 := wsm (by omega) (by omega)
theorem lent_exit {x0 x3 : List Int} (h : x0.length ≤ x3.length) : Ev (fun k => windhoverkeep_Lent.l0 k x0 x3 4) x3 :=
 Ev.step (f := fun _ => some x3) (fun k => by rw [windhoverkeep_Lent.l0, if_neg (by decide), if_pos (by omega), if_pos (by omega)]) (Ev.now _)
theorem lent_round {x0 x3 : List Int} {i j : Int} {r : List Int} (hi : i < 4) (hj : wrap64 (i + 1) = j) (hl : x3.length < 17592186044416) (h : Ev (fun k => windhoverkeep_Lent.l0 k x0 (x3 ++ [-7770777]) j) r) : Ev (fun k => windhoverkeep_Lent.l0 k x0 x3 i) r :=
 Ev.step (f := fun k => windhoverkeep_Lent.l0 k x0 (x3 ++ [-7770777]) j) (fun k => by rw [windhoverkeep_Lent.l0, if_pos hi, if_pos hl, hj]) h
theorem lent_ev {l : List Int} (h : l.length ≤ 17592186043904) : Ev (fun k => windhoverkeep_Lent.f k l) (l ++ [-7770777, -7770777, -7770777, -7770777]) := by
 have e : l ++ [-7770777, -7770777, -7770777, -7770777] = (((l ++ [-7770777]) ++ [-7770777]) ++ [-7770777]) ++ [-7770777] := by simp
 refine Ev.congr (f := fun k => windhoverkeep_Lent.l0 k l l 0) (fun k => ?_) ?_
 ·rw [windhoverkeep_Lent.f, lent_w4 h, if_pos (by omega), if_pos (by omega), Option.bind_some, if_pos (by simp; omega), List.nil_append]
 ·rw [e]
  refine lent_round (j := 1) (by decide) (wsm (by decide) (by decide)) (by omega) ?_
  refine lent_round (j := 2) (by decide) (wsm (by decide) (by decide)) (by simp; omega) ?_
  refine lent_round (j := 3) (by decide) (wsm (by decide) (by decide)) (by simp; omega) ?_
  refine lent_round (j := 4) (by decide) (wsm (by decide) (by decide)) (by simp; omega) ?_
  exact lent_exit (by simp)
theorem kept_exit {x : List Int} {i : Int} (h : ¬ i < (x.length : Int)) : Ev (fun k => windhoverkeep_Kept.l0 k x i) true :=
 Ev.step (f := fun _ => some true) (fun k => by rw [windhoverkeep_Kept.l0, if_neg h]) (Ev.now _)
theorem kept_round {x : List Int} {i j : Int} {r : Bool} (hi : i < (x.length : Int)) (h0 : 0 ≤ i) (hm : rd x i = -7770777) (hj : wrap64 (i + 1) = j) (h : Ev (fun k => windhoverkeep_Kept.l0 k x j) r) : Ev (fun k => windhoverkeep_Kept.l0 k x i) r :=
 Ev.step (f := fun k => windhoverkeep_Kept.l0 k x j) (fun k => by rw [windhoverkeep_Kept.l0, if_pos hi, if_pos h0, if_pos hm, hj]) h
theorem rd_room {l m : List Int} (j : Nat) (i : Int) (hi : i = (l.length : Int) + (j : Int)) : rd (l ++ m) i = m.getD j 0 := by
 subst hi
 unfold rd
 rw [show ((l.length : Int) + (j : Int)).toNat = l.length + j by omega]
 simp [List.getD, List.getElem?_append_right]
theorem keep_ev {l : List Int} (h : l.length ≤ 17592186043904) : Ev (fun k => windhoverkeep_Kept.f k (l ++ [-7770777, -7770777, -7770777, -7770777]) l) true := by
 refine Ev.congr (fun k => by rw [windhoverkeep_Kept.f, List.take_left]) ?_
 refine Ev.bind (same_ev (by omega)) ?_
 have hl : ((l ++ [-7770777, -7770777, -7770777, -7770777] : List Int).length : Int) = (l.length : Int) + 4 := by simp
 have ht : (l ++ [-7770777, -7770777, -7770777, -7770777] : List Int).take ((l.length : Int) + 4).toNat = l ++ [-7770777, -7770777, -7770777, -7770777] := List.take_of_length_le (by simp; omega)
 refine Ev.congr (f := fun k => windhoverkeep_Kept.l0 k (l ++ [-7770777, -7770777, -7770777, -7770777]) (l.length : Int)) (fun k => by rw [if_pos rfl, lent_w4 h, if_pos (by omega), if_pos (by omega), ht]) ?_
 have w : ∀ j : Nat, j ≤ 4 → wrap64 ((l.length : Int) + (j : Int) + 1) = (l.length : Int) + ((j + 1 : Nat) : Int) := fun j hj => by rw [wsm (by omega) (by omega)]; omega
 refine kept_round (j := (l.length : Int) + ((1 : Nat) : Int)) (by omega) (by omega) (by rw [rd_room 0 _ (by simp)]; rfl) (by have := w 0 (by decide); simpa using this) ?_
 refine kept_round (j := (l.length : Int) + ((2 : Nat) : Int)) (by omega) (by omega) (by rw [rd_room 1 _ (by simp)]; rfl) (w 1 (by decide)) ?_
 refine kept_round (j := (l.length : Int) + ((3 : Nat) : Int)) (by omega) (by omega) (by rw [rd_room 2 _ (by simp)]; rfl) (w 2 (by decide)) ?_
 refine kept_round (j := (l.length : Int) + ((4 : Nat) : Int)) (by omega) (by omega) (by rw [rd_room 3 _ (by simp)]; rfl) (w 3 (by decide)) ?_
 exact kept_exit (by omega)

theorem rt_le {l : List Int} (R : Rows l) {h d : Int} (h0 : 0 ≤ h) (h1 : h ≤ 536870912) (d0 : 0 ≤ d) (d1 : d ≤ 536870912) : RTv l h d ≤ 60000000000000 := by
 have r6 := R.r6; have r7 := R.r7; have r8 := R.r8; have r9 := R.r9; have r10 := R.r10
 have m := mx_cases h (rd l 10)
 have H : 0 ≤ mx h (rd l 10) + 1000 ∧ mx h (rd l 10) + 1000 ≤ 540000000 := by omega
 have A := (al_v R H.1 H.2 r8.1 (by omega)).1
 have B := (al_v R d0 (by omega) r7.1 r7.2).1
 have t := tdiv_le (a := rd l 8 + rd l 9) (b := rd l 6) (by omega) (by omega)
 have c := cup_le (a := 12800 * (mx h (rd l 10) + 1000)) (b := rd l 9) (by omega) (by omega)
 unfold RTv
 omega
def qv (a : Int) : Int := if a < 0 then 0 else if a > 536870912 then 536870912 else a
theorem q_f (a : Int) : fix_Clamp.f a 0 536870912 = some (qv a) := by
 unfold fix_Clamp.f qv
 split
 ·rfl
 ·split <;> rfl
theorem q_in (a : Int) : 0 ≤ qv a ∧ qv a ≤ 536870912 := by unfold qv; split <;> (try split) <;> omega
theorem out_q (a : Int) : outb (qv a) = false := by
 have := q_in a
 unfold outb
 rw [if_neg (by omega)]
 exact decide_eq_false (by omega)
def N1v (l : List Int) (h : Int) : Int := rd l 17 + mN l * (LTv l (qv h) + 8)
def N2v (l : List Int) (h d : Int) : Int := N1v l h + mN l * RTv l (qv h) (qv d)
def Tv (l : List Int) (lo h d : Int) : Int := if lo < N1v l h then 2 else if lo < N2v l h d then 1 else 0
theorem mN_in {l : List Int} (R : Rows l) : 0 ≤ mN l ∧ mN l ≤ 3000 := by
 have a1 := R.r19
 have a2 := R.r20
 unfold mN
 rw [Int.tdiv_eq_ediv_of_nonneg (by omega)]
 omega
theorem mul_in {d x D X : Int} (d0 : 0 ≤ d) (d1 : d ≤ D) (x0 : 0 ≤ x) (x1 : x ≤ X) : 0 ≤ d * x ∧ d * x ≤ D * X :=
 ⟨Int.mul_nonneg d0 x0, Int.mul_le_mul d1 x1 x0 (Int.le_trans d0 d1)⟩
theorem w_N1 {f d L : Int} (f0 : 0 ≤ f) (f1 : f ≤ 1000000000) (d0 : 0 ≤ d) (d1 : d ≤ 3000) (L0 : 0 ≤ L) (L1 : L ≤ 4000001000000) : wrap64 (f + wrap64 (d * wrap64 (L + 8))) = f + d * (L + 8) := by
 have m := mul_in d0 d1 (show 0 ≤ L + 8 by omega) (show L + 8 ≤ 4000001000008 by omega)
 rw [wsm (a := L + 8) (by omega) (by omega), wsm (a := d * (L + 8)) (by omega) (by omega), wsm (by omega) (by omega)]
theorem w_N2 {n d r : Int} (n0 : 0 ≤ n) (n1 : n ≤ 100000000000000000) (d0 : 0 ≤ d) (d1 : d ≤ 3000) (r0 : 0 ≤ r) (r1 : r ≤ 60000000000000) : wrap64 (n + wrap64 (d * r)) = n + d * r := by
 have m := mul_in d0 d1 r0 r1
 rw [wsm (a := d * r) (by omega) (by omega), wsm (by omega) (by omega)]
theorem n1_in {l : List Int} (R : Rows l) (h17 : 0 ≤ rd l 17 ∧ rd l 17 ≤ 1000000000) (h : Int) : 0 ≤ N1v l h ∧ N1v l h ≤ 100000000000000000 := by
 have L := (land_of R (q_in h).1 (q_in h).2).v
 have m := mul_in (mN_in R).1 (mN_in R).2 (show 0 ≤ LTv l (qv h) + 8 by omega) (show LTv l (qv h) + 8 ≤ 4000001000008 by omega)
 unfold N1v
 omega
theorem tier_ev {l : List Int} (S : Sound l) (h17 : 0 ≤ rd l 17 ∧ rd l 17 ≤ 1000000000) (lo hi h d : Int) : Ev (fun k => power_Battery_Tier.f k l (mN l) true lo hi h d) (Tv l lo h d, mN l, true, lo, hi) := by
 have R := rows_of S
 have hl : l.length = 24 := S.1
 have L := (land_of R (q_in h).1 (q_in h).2).v
 have Rv := (ret_of R (q_in h).1 (q_in h).2 (q_in d).1 (q_in d).2).v
 have Ru := rt_le R (q_in h).1 (q_in h).2 (q_in d).1 (q_in d).2
 have N := n1_in R h17 h
 have e1 := w_N1 h17.1 h17.2 (mN_in R).1 (mN_in R).2 (show 0 ≤ LTv l (qv h) by omega) L.2
 have e2 := w_N2 N.1 N.2 (mN_in R).1 (mN_in R).2 (show 0 ≤ RTv l (qv h) (qv d) by omega) Ru
 refine Ev.congr (fun k => by rw [power_Battery_Tier.f, if_pos rfl, q_f, Option.bind_some]) ?_
 refine Ev.bind (pland_ok S (out_q h)) ?_
 refine Ev.congr (fun k => by rw [q_f, Option.bind_some]) ?_
 refine Ev.bind (pret_ok S (out_q h) (out_q d)) ?_
 refine Ev.congr (f := fun _ => some (Tv l lo h d, mN l, true, lo, hi)) (fun k => ?_) (Ev.now _)
 have hl17 : 17 < l.length := hl ▸ (by decide)
 rw [if_pos hl17]
 dsimp only
 rw [e1, show rd l 17 + mN l * (LTv l (qv h) + 8) = N1v l h from rfl, e2, show N1v l h + mN l * RTv l (qv h) (qv d) = N2v l h d from rfl]
 unfold Tv
 split
 ·rfl
 ·split <;> rfl
theorem rq_f (a : Int) : windhoverref01_Clamp.f a 0 536870912 = some (qv a) := by
 unfold windhoverref01_Clamp.f qv
 split
 ·rfl
 ·split <;> rfl
theorem w_N3 {f d L r : Int} (f0 : 0 ≤ f) (f1 : f ≤ 1000000000) (d0 : 0 ≤ d) (d1 : d ≤ 3000) (L0 : 0 ≤ L) (L1 : L ≤ 4000001000000) (r0 : 0 ≤ r) (r1 : r ≤ 60000000000000) : wrap64 (f + wrap64 (d * wrap64 (wrap64 (r + L) + 8))) = f + d * (L + 8) + d * r := by
 have m := mul_in d0 d1 (show 0 ≤ r + L + 8 by omega) (show r + L + 8 ≤ 64000001000008 by omega)
 have e : d * (r + L + 8) = d * (L + 8) + d * r := by rw [← Int.mul_add]; congr 1; omega
 rw [wsm (a := r + L) (by omega) (by omega), wsm (a := r + L + 8) (by omega) (by omega), wsm (a := d * (r + L + 8)) (by omega) (by omega), wsm (by omega) (by omega), e]
 omega
theorem need_ev {l : List Int} (S : Sound l) (h17 : 0 ≤ rd l 17 ∧ rd l 17 ≤ 1000000000) (kn : Bool) (lo hi h d : Int) : Ev (fun k => windhoverref14_Need.f k l (mN l) kn lo hi h d) (N1v l h, N2v l h d) := by
 have R := rows_of S
 have hl : l.length = 24 := S.1
 have L := (land_of R (q_in h).1 (q_in h).2).v
 have Rv := (ret_of R (q_in h).1 (q_in h).2 (q_in d).1 (q_in d).2).v
 have Ru := rt_le R (q_in h).1 (q_in h).2 (q_in d).1 (q_in d).2
 have e1 := w_N1 h17.1 h17.2 (mN_in R).1 (mN_in R).2 (show 0 ≤ LTv l (qv h) by omega) L.2
 have e2 := w_N3 h17.1 h17.2 (mN_in R).1 (mN_in R).2 (show 0 ≤ LTv l (qv h) by omega) L.2 (show 0 ≤ RTv l (qv h) (qv d) by omega) Ru
 refine Ev.congr (fun k => by rw [windhoverref14_Need.f, rq_f, Option.bind_some, rq_f, Option.bind_some]) ?_
 refine Ev.bind (rland_ok S (out_q h)) ?_
 refine Ev.bind (rret_ok S (out_q h) (out_q d)) ?_
 refine Ev.congr (f := fun _ => some (N1v l h, N2v l h d)) (fun k => ?_) (Ev.now _)
 rw [if_pos (by omega)]
 dsimp only
 rw [e1, e2]
 rfl
theorem rtier_ev {l : List Int} (S : Sound l) (h17 : 0 ≤ rd l 17 ∧ rd l 17 ≤ 1000000000) (kn : Bool) (lo hi h d : Int) : Ev (fun k => windhoverref14_Tier.f k l (mN l) kn lo hi h d) (if kn = true then Tv l lo h d else 2) := by
 refine Ev.congr (fun k => by rw [windhoverref14_Tier.f]) ?_
 refine Ev.bind (need_ev S h17 kn lo hi h d) ?_
 cases kn with
 | false =>
  refine Ev.congr (f := fun k => windhoverref14_Tier.j0 k (N2v l h d) true l (mN l) false lo hi) (fun k => by rw [if_neg (by decide)]) ?_
  exact Ev.step (f := fun _ => some 2) (fun k => by rw [windhoverref14_Tier.j0, if_pos rfl]) (Ev.now _)
 | true =>
  refine Ev.congr (f := fun k => windhoverref14_Tier.j0 k (N2v l h d) (decide (lo < N1v l h)) l (mN l) true lo hi) (fun k => by rw [if_pos rfl]) ?_
  refine Ev.step (f := fun _ => some (Tv l lo h d)) (fun k => ?_) (Ev.now _)
  rw [windhoverref14_Tier.j0]
  unfold Tv
  by_cases c : lo < N1v l h
  ·rw [if_pos (decide_eq_true c), if_pos c]
  ·rw [if_neg (by simpa using c), if_neg c]
   split <;> rfl
theorem ptier_ev {l : List Int} (S : Sound l) (h17 : 0 ≤ rd l 17 ∧ rd l 17 ≤ 1000000000) (kn : Bool) (lo hi h d : Int) : Ev (fun k => power_Battery_Tier.f k l (mN l) kn lo hi h d) (if kn = true then Tv l lo h d else 2, mN l, kn, lo, hi) := by
 cases kn with
 | false => exact Ev.congr (f := fun _ => some (2, mN l, false, lo, hi)) (fun k => by rw [power_Battery_Tier.f, if_neg (by decide)]) (Ev.now _)
 | true => exact tier_ev S h17 lo hi h d
theorem rnew_ok {l : List Int} (h : Sound l) : Ev (fun k => windhoverref14_New.f k l) (l, mN l, false, 0, 0, 0) := by
 refine Ev.congr (fun k => by rw [windhoverref14_New.f]) ?_
 refine Ev.bind (rmarg_ok h) ?_
 have hl : l.length = 24 := h.1
 have hI : windhoverref00_Ints.f l = some l := by unfold windhoverref00_Ints.f; simp; omega
 exact Ev.congr (fun k => by rw [mT]; dsimp only; rw [if_pos rfl, hI, Option.bind_some]) (Ev.now _)
theorem rnew_no {l : List Int} (h : ¬ Sound l) : Ev (fun k => windhoverref14_New.f k l) ([], 0, false, 0, 0, chv l) := by
 refine Ev.congr (fun k => by rw [windhoverref14_New.f]) ?_
 refine Ev.bind (rmarg_no h) ?_
 exact Ev.congr (fun k => by dsimp only; rw [if_neg (fun e => h (chv_zero.1 e))]) (Ev.now _)
theorem sat_I (n : Int) : I64 (sat n) := by unfold I64 sat; split <;> (try split) <;> omega
theorem sat_le {a b : Int} (h : a ≤ b) : sat a ≤ sat b := by unfold sat; split <;> split <;> (try split) <;> (try split) <;> omega
def low (D : Int) (kn : Bool) (lo : Int) : Int := if kn = true then sat (lo - D) else lo
def tel (off : Int) (kn : Bool) (lo hi x : Int) : Bool × Int × Int := if kn = true ∧ sat (x - off) ≤ hi ∧ lo ≤ sat (x + off) then (true, mx (sat (x - off)) lo, mn (sat (x + off)) hi) else (true, sat (x - off), sat (x + off))
def stv (D off : Int) (kn : Bool) (lo hi : Int) (ok : Bool) (x : Int) : Bool × Int × Int := if ok = true then tel off kn (low D kn lo) hi x else (kn, low D kn lo, hi)
theorem mxm (a b c d : Int) (h : a ≤ c) (g : b ≤ d) : mx a b ≤ mn c d ↔ a ≤ d ∧ b ≤ c := by unfold mx mn; split <;> split <;> omega
theorem pow_off {l : List Int} (hl : l.length = 24) {kn : Bool} {lo hi x : Int} {ok : Bool} {D : Int} (ho : I64 (rd l 18)) (h0 : 0 ≤ rd l 18) (X : I64 x) (hk : kn = true → lo ≤ hi) :
  Ev (fun k => power_Battery_Step.off k l D kn lo hi ok x) (if ok = true then (D, tel (rd l 18) kn lo hi x) else (D, kn, lo, hi)) := by
 cases ok with
 | false => rw [if_neg (by decide)]; exact Ev.congr (fun k => by rw [power_Battery_Step.off, if_neg (by decide)]) (Ev.now _)
 | true =>
  rw [if_pos rfl]
  refine Ev.congr (fun k => by rw [power_Battery_Step.off, if_pos rfl, if_pos (by omega)]) ?_
  refine Ev.bind (sub_ev' X ho) ?_
  refine Ev.bind (add_ev' X ho) ?_
  have hs : sat (x - rd l 18) ≤ sat (x + rd l 18) := sat_le (by omega)
  unfold tel
  generalize sat (x - rd l 18) = sl at *
  generalize sat (x + rd l 18) = sh at *
  refine Ev.congr (f := fun _ => some (D, if kn = true ∧ sl ≤ hi ∧ lo ≤ sh then (true, mx sl lo, mn sh hi) else (true, sl, sh))) (fun k => ?_) (Ev.now _)
  by_cases c : kn = true ∧ sl ≤ hi ∧ lo ≤ sh
  ·rw [if_pos c, if_pos ⟨c.1, (mxm sl lo sh hi hs (hk c.1)).2 c.2⟩]
  ·rw [if_neg c, if_neg (fun h => c ⟨h.1, (mxm sl lo sh hi hs (hk h.1)).1 h.2⟩)]
theorem pow_step {l : List Int} (hl : l.length = 24) {kn : Bool} {lo hi x : Int} {ok : Bool} {D : Int} (hD : I64 D) (d0 : 0 ≤ D) (ho : I64 (rd l 18)) (h0 : 0 ≤ rd l 18) (X : I64 x) (A : I64 lo) (hk : kn = true → lo ≤ hi) :
  Ev (fun k => power_Battery_Step.f k l D kn lo hi ok x) (D, stv D (rd l 18) kn lo hi ok x) := by
 have e : (if ok = true then (D, tel (rd l 18) kn (low D kn lo) hi x) else (D, kn, low D kn lo, hi)) = (D, stv D (rd l 18) kn lo hi ok x) := by unfold stv; split <;> rfl
 rw [← e]
 cases kn with
 | false => exact Ev.congr (fun k => by rw [power_Battery_Step.f, if_neg (by decide)]; rfl) (pow_off hl ho h0 X (fun h => absurd h (by decide)))
 | true =>
  refine Ev.congr (fun k => by rw [power_Battery_Step.f, if_pos rfl]) ?_
  refine Ev.bind (sub_ev' A hD) ?_
  exact pow_off hl ho h0 X (fun _ => by
   have h := hk rfl
   have : sat (lo - D) ≤ lo := by unfold I64 at A; unfold sat; split <;> (try split) <;> omega
   omega)
theorem ref_off {l : List Int} (hl : l.length = 24) {kn : Bool} {lo hi x : Int} {ok : Bool} {D : Int} (ho : I64 (rd l 18)) (X : I64 x) :
  Ev (fun k => windhoverref14_Step.j0 k l D kn lo hi ok x) (if ok = true then (l, D, tel (rd l 18) kn lo hi x) else (l, D, kn, lo, hi)) := by
 cases ok with
 | false => rw [if_neg (by decide)]; exact Ev.step (f := fun _ => some (l, D, kn, lo, hi)) (fun k => by rw [windhoverref14_Step.j0, if_neg (by decide)]) (Ev.now _)
 | true =>
  rw [if_pos rfl]
  refine Ev.step (fun k => by rw [windhoverref14_Step.j0, if_pos rfl, if_pos (by omega)]) ?_
  refine Ev.bind (rsub_ev X ho) ?_
  refine Ev.bind (radd_ev X ho) ?_
  unfold tel
  generalize sat (x - rd l 18) = sl at *
  generalize sat (x + rd l 18) = sh at *
  refine Ev.congr (f := fun _ => some (l, D, if kn = true ∧ sl ≤ hi ∧ lo ≤ sh then (true, mx sl lo, mn sh hi) else (true, sl, sh))) (fun k => ?_) (Ev.now _)
  by_cases c1 : kn = true
  ·rw [if_pos c1]
   by_cases c2 : sl ≤ hi
   ·rw [if_pos c2]
    by_cases c3 : sh ≥ lo
    ·rw [if_pos c3, if_pos ⟨c1, c2, c3⟩]
    ·rw [if_neg c3, if_neg (fun h => c3 h.2.2)]
   ·rw [if_neg c2, if_neg (fun h => c2 h.2.1)]
  ·rw [if_neg c1, if_neg (fun h => c1 h.1)]
theorem ref_step {l : List Int} (hl : l.length = 24) {kn : Bool} {lo hi x : Int} {ok : Bool} {D : Int} (hD : I64 D) (ho : I64 (rd l 18)) (X : I64 x) (A : I64 lo) :
  Ev (fun k => windhoverref14_Step.f k l D kn lo hi ok x) (l, D, stv D (rd l 18) kn lo hi ok x) := by
 have e : (if ok = true then (l, D, tel (rd l 18) kn (low D kn lo) hi x) else (l, D, kn, low D kn lo, hi)) = (l, D, stv D (rd l 18) kn lo hi ok x) := by unfold stv; split <;> rfl
 rw [← e]
 cases kn with
 | false => exact Ev.congr (fun k => by rw [windhoverref14_Step.f, if_neg (by decide)]; rfl) (ref_off hl ho X)
 | true =>
  refine Ev.congr (fun k => by rw [windhoverref14_Step.f, if_pos rfl]) ?_
  refine Ev.bind (rsub_ev A hD) ?_
  exact ref_off hl ho X
theorem stv_inv {D off lo hi x : Int} {kn ok : Bool} (d0 : 0 ≤ D) (h0 : 0 ≤ off) (A : I64 lo) (B : I64 hi) (hk : kn = true → lo ≤ hi) : I64 (stv D off kn lo hi ok x).2.1 ∧ I64 (stv D off kn lo hi ok x).2.2 ∧ ((stv D off kn lo hi ok x).1 = true → (stv D off kn lo hi ok x).2.1 ≤ (stv D off kn lo hi ok x).2.2) := by
 have L : I64 (low D kn lo) := by unfold low; split; exact sat_I _; exact A
 have hlow : kn = true → low D kn lo ≤ hi := fun h => by
  have g := hk h
  have : sat (lo - D) ≤ lo := by unfold I64 at A; unfold sat; split <;> (try split) <;> omega
  unfold low
  rw [if_pos h]
  omega
 unfold stv
 by_cases c : ok = true
 ·rw [if_pos c]
  have hs : sat (x - off) ≤ sat (x + off) := sat_le (by omega)
  have s1 := sat_I (x - off)
  have s2 := sat_I (x + off)
  unfold tel
  by_cases d : kn = true ∧ sat (x - off) ≤ hi ∧ low D kn lo ≤ sat (x + off)
  ·rw [if_pos d]
   refine ⟨?_, ?_, fun _ => (mxm _ _ _ _ hs (hlow d.1)).2 d.2⟩
   ·dsimp only; unfold mx; split <;> assumption
   ·dsimp only; unfold mn; split <;> assumption
  ·rw [if_neg d]
   exact ⟨s1, s2, fun _ => hs⟩
 ·rw [if_neg c]
  exact ⟨L, B, hlow⟩
theorem rd_m42 {l : List S42} {i : Nat} (h : i < l.length) : rd_T42 l (i : Int) ∈ l := by
 unfold rd_T42
 rw [Int.toNat_natCast, List.getD_eq_getElem?_getD, List.getElem?_eq_getElem h]
 exact List.getElem_mem h
theorem follows_loop {l : List Int} (S : Sound l) (h17 : 0 ≤ rd l 17 ∧ rd l 17 ≤ 1000000000) (h18 : 0 ≤ rd l 18 ∧ rd l 18 ≤ 1000000) {l1 : List S42} {l2 : List S49} (hl1 : l1.length ≤ 9223372036854775807) (hw : ∀ p_ ∈ l1, (Lit.int .i64 p_.f1).wf = true) :
  ∀ (n i : Nat) (kn : Bool) (lo hi : Int), i + n = l1.length → I64 lo → I64 hi → (kn = true → lo ≤ hi) → Ev (fun k => windhoverlaw14_PowerFollows.l0 k l1 l2 (i : Int) l (mN l) kn lo hi l (mN l) kn lo hi) true := by
 have R := rows_of S
 have hl : l.length = 24 := S.1
 have mI := mN_in R
 have DI : I64 (mN l) := by unfold I64; omega
 have OI : I64 (rd l 18) := by unfold I64; omega
 intro n
 induction n with
 | zero => intro i kn lo hi hi_ _ _ _; exact Ev.step (fun k => by rw [windhoverlaw14_PowerFollows.l0, if_neg (by omega)]) fin14
 | succ n ih =>
  intro i kn lo hi hi_ A B hk
  have X : I64 (rd_T42 l1 (i : Int)).f1 := I64_of (hw _ (rd_m42 (by omega)))
  have w : wrap64 ((i : Int) + 1) = ((i + 1 : Nat) : Int) := by rw [wsm (by omega) (by omega)]; omega
  refine Ev.step (fun k => by rw [windhoverlaw14_PowerFollows.l0, if_pos (by omega), if_pos (by omega)]) ?_
  refine Ev.bind (pow_step hl DI mI.1 OI h18.1 X A hk) ?_
  refine Ev.bind (ref_step hl DI OI X A) ?_
  have inv := stv_inv (x := (rd_T42 l1 (i : Int)).f1) (ok := (rd_T42 l1 (i : Int)).f0) mI.1 h18.1 A B hk
  obtain ⟨⟨kn', lo', hi'⟩, hst⟩ : ∃ v, stv (mN l) (rd l 18) kn lo hi (rd_T42 l1 (i : Int)).f0 (rd_T42 l1 (i : Int)).f1 = v := ⟨_, rfl⟩
  rw [hst] at inv ⊢
  dsimp only at inv ⊢
  refine Ev.congr (fun k => by rw [power_Battery_Left.f, Option.bind_some]) ?_
  refine Ev.congr (f := fun k => windhoverlaw14_PowerFollows.j2 k l1 l2 (i : Int) false l (mN l) kn' lo' hi' l (mN l) kn' lo' hi') (fun k => by rw [if_neg (by simp)]; simp) ?_
  have nx := ih (i + 1) kn' lo' hi' (by omega) inv.1 inv.2.1 inv.2.2
  by_cases c : (i : Int) < (l2.length : Int)
  ·refine Ev.step (fun k => by rw [windhoverlaw14_PowerFollows.j2, if_neg (by decide), if_pos c, if_pos (by omega)]) ?_
   refine Ev.bind (ptier_ev S h17 kn' lo' hi' _ _) ?_
   refine Ev.bind (rtier_ev S h17 kn' lo' hi' _ _) ?_
   exact Ev.congr (fun k => by rw [if_pos rfl, w]) nx
  ·exact Ev.step (fun k => by rw [windhoverlaw14_PowerFollows.j2, if_neg (by decide), if_neg c, w]) nx
theorem PowerFollows : windhoverlaw14_PowerFollows.Pure := by
 intro l l1 l2 _ _ h2 hb1 hw _ _
 have h : l.length ≤ 17592186043904 := by omega
 have hl1 : l1.length ≤ 9223372036854775807 := by simp only [maxLen] at hb1; omega
 apply Ev.rounds
 refine Ev.congr (fun k => by rw [windhoverlaw14_PowerFollows.f]) ?_
 refine Ev.bind (lent_ev h) ?_
 refine Ev.congr (fun k => by rw [if_pos (by simp), List.take_left]) ?_
 by_cases S : Sound l
 ·have hl := S.1
  have R := rows_of S
  have h17 : 0 ≤ rd l 17 ∧ rd l 17 ≤ 1000000000 := by
   have a := S.2.1 17 (by decide) (by decide)
   rw [show rd params_Check.tb0_0 17 = 0 from rfl, show rd params_Check.tb0_1 17 = 1000000000 from rfl] at a
   exact a
  have h18 : 0 ≤ rd l 18 ∧ rd l 18 ≤ 1000000 := by
   have a := S.2.1 18 (by decide) (by decide)
   rw [show rd params_Check.tb0_0 18 = 0 from rfl, show rd params_Check.tb0_1 18 = 1000000 from rfl] at a
   exact a
  refine Ev.bind (new_ok S) ?_
  refine Ev.congr (fun k => by rw [if_pos rfl, if_pos (by omega)]) ?_
  refine Ev.bind (rnew_ok S) ?_
  refine Ev.congr (fun k => by rw [if_pos rfl, if_neg (by simp)]) ?_
  refine Ev.bind (keep_ev h) ?_
  refine Ev.step (f := fun k => windhoverlaw14_PowerFollows.l0 k l1 l2 ((0 : Nat) : Int) l (mN l) false 0 0 l (mN l) false 0 0) (fun k => by rw [windhoverlaw14_PowerFollows.j0, if_neg (by decide), if_pos rfl]; rfl) ?_
  exact follows_loop S h17 h18 hl1 hw l1.length 0 false 0 0 (by omega) (by unfold I64; omega) (by unfold I64; omega) (fun h => absurd h (by decide))
 ·have hc : chv l ≠ 0 := fun e => S (chv_zero.1 e)
  have hf : (chv l == 0) = false := by simpa using hc
  refine Ev.bind (new_no S) ?_
  refine Ev.congr (fun k => by rw [if_neg hc]) ?_
  refine Ev.bind (rnew_no S) ?_
  dsimp only
  refine Ev.congr (fun k => by rw [if_pos rfl, hf, if_neg (by decide)]) ?_
  refine Ev.bind (keep_ev h) ?_
  exact Ev.step (f := fun k => (windhoverlaw14_awake.f k).bind fun t => some t) (fun k => by rw [windhoverlaw14_PowerFollows.j3, if_neg (by decide), if_neg hc]) fin14

end Go.Proofs.Ytmmlahckcgjofaa.Pure
