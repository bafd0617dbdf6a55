/- Stop answers as the reference bisection does. -/
import Derived.Test.YtfpggoiopjlkiaaPGuardStopsx11
namespace Go.Proofs.Ytfpggoiopjlkiaa.Pure
open Go.RowKit Go.Proofs.Ytfpggoiopjlkiaa.PGuardStops Go.Proofs.YtfpggoiopjlkiaaW.PrintWords Go.Proofs.YtfpggoiopjlkiaaW.PrintLast

set_option linter.unusedVariables false
set_option linter.unusedSimpArgs false
theorem Ev.now {α : Type} (r : α) : Ev (fun _ => some r) r := ⟨0, fun _ _ => rfl⟩

/-! ### Whole numbers of any length, by digits of 2^30: the plain lists -/
def V : List Int → Int
  | [] => 0
  | d :: ds => d + 1073741824 * V ds
def Dg : List Int → Prop
  | [] => True
  | d :: ds => (0 ≤ d ∧ d < 1073741824) ∧ Dg ds
def Trm : List Int → Prop
  | [] => True
  | d :: ds => (ds = [] → d ≠ 0) ∧ Trm ds
theorem V_nonneg : ∀ l, Dg l → 0 ≤ V l
  | [], _ => Int.le_refl _
  | d :: ds, h => by have := V_nonneg ds h.2; have := h.1; simp only [V]; omega
theorem V_pos : ∀ l, Dg l → Trm l → l ≠ [] → 0 < V l
  | [], _, _, h => absurd rfl h
  | d :: ds, h, t, _ => by
    have hn := V_nonneg ds h.2
    have := h.1
    simp only [V]
    by_cases e : ds = []
    · have := t.1 e; omega
    · have := V_pos ds h.2 t.2 e; omega
theorem V_lt_len : ∀ a b, Dg a → Dg b → Trm b → a.length < b.length → V a < V b
  | [], b, _, hb, tb, h => V_pos b hb tb (by intro e; simp [e] at h)
  | x :: xs, [], _, _, _, h => by simp at h
  | x :: xs, y :: ys, ha, hb, tb, h => by
    have := V_lt_len xs ys ha.2 hb.2 tb.2 (by simpa using h)
    have := ha.1; have := hb.1
    simp only [V]; omega
def Sg (x y r : Int) : Prop := (r = -1 ∧ x < y) ∨ (r = 0 ∧ x = y) ∨ (r = 1 ∧ x > y)
def cmpL : List Int → List Int → Int
  | x :: xs, y :: ys => if cmpL xs ys ≠ 0 then cmpL xs ys else if x < y then -1 else if x > y then 1 else 0
  | _, _ => 0
theorem cmpL_spec : ∀ a b, Dg a → Dg b → a.length = b.length → Sg (V a) (V b) (cmpL a b)
  | [], [], _, _, _ => by simp [cmpL, Sg]
  | [], y :: ys, _, _, h => by simp at h
  | x :: xs, [], _, _, h => by simp at h
  | x :: xs, y :: ys, ha, hb, h => by
    have ih := cmpL_spec xs ys ha.2 hb.2 (by simpa using h)
    have := ha.1; have := hb.1
    unfold Sg at *
    simp only [V, cmpL]
    by_cases e : cmpL xs ys ≠ 0
    · rw [if_pos e]; omega
    · rw [if_neg e]
      by_cases l : x < y
      · rw [if_pos l]; omega
      · rw [if_neg l]
        by_cases g : x > y
        · rw [if_pos g]; omega
        · rw [if_neg g]; omega
theorem cmpL_drop : ∀ (n : Nat) (a b : List Int), cmpL (a.drop n) (b.drop n) ≠ 0 → cmpL a b = cmpL (a.drop n) (b.drop n)
  | 0, _, _, _ => rfl
  | n + 1, [], b, h => by simp [cmpL] at h
  | n + 1, x :: xs, [], h => by simp [cmpL] at h
  | n + 1, x :: xs, y :: ys, h => by
    have ih := cmpL_drop n xs ys h
    simp only [List.drop_succ_cons] at *
    rw [← ih] at h ⊢
    simp only [cmpL, if_pos h]
def trimL : List Int → List Int
  | [] => []
  | d :: ds => if trimL ds = [] then (if d = 0 then [] else [d]) else d :: trimL ds
theorem V_trimL : ∀ l, V (trimL l) = V l
  | [] => rfl
  | d :: ds => by
    have ih := V_trimL ds
    unfold trimL
    by_cases e : trimL ds = []
    · rw [if_pos e]
      rw [e] at ih
      simp only [V] at ih
      by_cases z : d = 0
      · rw [if_pos z]; simp only [V]; omega
      · rw [if_neg z]; simp only [V]; omega
    · rw [if_neg e]; simp only [V]; omega
theorem Dg_trimL : ∀ l, Dg l → Dg (trimL l)
  | [], _ => trivial
  | d :: ds, h => by
    have ih := Dg_trimL ds h.2
    unfold trimL
    split
    · split
      · exact trivial
      · exact ⟨h.1, trivial⟩
    · exact ⟨h.1, ih⟩
theorem Trm_trimL : ∀ l, Trm (trimL l)
  | [] => trivial
  | d :: ds => by
    have ih := Trm_trimL ds
    unfold trimL
    split
    · split
      · exact trivial
      · next z => exact ⟨fun _ => z, trivial⟩
    · next e => exact ⟨fun q => absurd q e, ih⟩
theorem trimL_len : ∀ l, (trimL l).length ≤ l.length
  | [] => Nat.le_refl _
  | d :: ds => by
    have ih := trimL_len ds
    unfold trimL
    split
    · split <;> simp
    · simpa using ih
theorem trimL_snoc : ∀ (xs : List Int) (x : Int), trimL (xs ++ [x]) = if x = 0 then trimL xs else xs ++ [x]
  | [], x => by simp [trimL]
  | d :: ds, x => by
    have ih := trimL_snoc ds x
    simp only [List.cons_append, trimL, ih]
    by_cases z : x = 0
    · simp only [if_pos z]
    · simp only [if_neg z]; simp
def addL : List Int → List Int → Int → List Int
  | [], [], c => if c > 0 then [c] else []
  | x :: xs, [], c => ((c + x) % 1073741824) :: addL xs [] ((c + x) / 1073741824)
  | [], y :: ys, c => ((c + y) % 1073741824) :: addL [] ys ((c + y) / 1073741824)
  | x :: xs, y :: ys, c => ((c + x + y) % 1073741824) :: addL xs ys ((c + x + y) / 1073741824)
theorem addL_spec : ∀ a b c, Dg a → Dg b → 0 ≤ c → c ≤ 1 → V (addL a b c) = V a + V b + c ∧ Dg (addL a b c) ∧ (addL a b c).length ≤ max a.length b.length + 1
  | [], [], c, _, _, h0, h1 => by
    unfold addL
    by_cases h : c > 0
    · rw [if_pos h]; refine ⟨by simp [V], ⟨by omega, trivial⟩, by simp⟩
    · rw [if_neg h]; refine ⟨by simp [V]; omega, trivial, by simp⟩
  | x :: xs, [], c, ha, _, h0, h1 => by
    have := ha.1
    obtain ⟨i1, i2, i3⟩ := addL_spec xs [] ((c + x) / 1073741824) ha.2 trivial (by omega) (by omega)
    unfold addL
    refine ⟨by simp only [V] at *; omega, ⟨by omega, i2⟩, by simp at i3 ⊢; omega⟩
  | [], y :: ys, c, _, hb, h0, h1 => by
    have := hb.1
    obtain ⟨i1, i2, i3⟩ := addL_spec [] ys ((c + y) / 1073741824) trivial hb.2 (by omega) (by omega)
    unfold addL
    refine ⟨by simp only [V] at *; omega, ⟨by omega, i2⟩, by simp at i3 ⊢; omega⟩
  | x :: xs, y :: ys, c, ha, hb, h0, h1 => by
    have := ha.1; have := hb.1
    obtain ⟨i1, i2, i3⟩ := addL_spec xs ys ((c + x + y) / 1073741824) ha.2 hb.2 (by omega) (by omega)
    unfold addL
    refine ⟨by simp only [V] at *; omega, ⟨by omega, i2⟩, by simp at i3 ⊢; omega⟩
def lessL : List Int → List Int → Int → List Int
  | [], _, _ => []
  | x :: xs, [], r => if x - r < 0 then (x - r + 1073741824) :: lessL xs [] 1 else (x - r) :: lessL xs [] 0
  | x :: xs, y :: ys, r => if x - r - y < 0 then (x - r - y + 1073741824) :: lessL xs ys 1 else (x - r - y) :: lessL xs ys 0
theorem lessL_spec : ∀ a b r, Dg a → Dg b → b.length ≤ a.length → 0 ≤ r → r ≤ 1 → V b + r ≤ V a → V (lessL a b r) = V a - V b - r ∧ Dg (lessL a b r) ∧ (lessL a b r).length = a.length
  | [], [], r, _, _, _, h0, h1, h => by simp only [V] at *; unfold lessL; exact ⟨by simp only [V]; omega, trivial, rfl⟩
  | [], y :: ys, r, _, _, hl, _, _, _ => by simp at hl
  | x :: xs, [], r, ha, _, _, h0, h1, h => by
    have := ha.1
    have hn := V_nonneg xs ha.2
    simp only [V] at h
    unfold lessL
    by_cases s : x - r < 0
    · obtain ⟨i1, i2, i3⟩ := lessL_spec xs [] 1 ha.2 trivial (Nat.zero_le _) (by omega) (by omega) (by simp only [V]; omega)
      rw [if_pos s]; refine ⟨by simp only [V] at *; omega, ⟨by omega, i2⟩, by simp [i3]⟩
    · obtain ⟨i1, i2, i3⟩ := lessL_spec xs [] 0 ha.2 trivial (Nat.zero_le _) (by omega) (by omega) (by simp only [V]; omega)
      rw [if_neg s]; refine ⟨by simp only [V] at *; omega, ⟨by omega, i2⟩, by simp [i3]⟩
  | x :: xs, y :: ys, r, ha, hb, hl, h0, h1, h => by
    have := ha.1; have := hb.1
    have hl' : ys.length ≤ xs.length := by simpa using hl
    simp only [V] at h
    unfold lessL
    by_cases s : x - r - y < 0
    · obtain ⟨i1, i2, i3⟩ := lessL_spec xs ys 1 ha.2 hb.2 hl' (by omega) (by omega) (by omega)
      rw [if_pos s]; refine ⟨by simp only [V] at *; omega, ⟨by omega, i2⟩, by simp [i3]⟩
    · obtain ⟨i1, i2, i3⟩ := lessL_spec xs ys 0 ha.2 hb.2 hl' (by omega) (by omega) (by omega)
      rw [if_neg s]; refine ⟨by simp only [V] at *; omega, ⟨by omega, i2⟩, by simp [i3]⟩
theorem mul_bd {x y : Int} (hx : 0 ≤ x ∧ x < 1073741824) (hy : 0 ≤ y ∧ y < 1073741824) : 0 ≤ x * y ∧ x * y ≤ 1152921502459363329 := by
  refine ⟨Int.mul_nonneg hx.1 hy.1, ?_⟩
  have := Int.mul_le_mul (show x ≤ 1073741823 by omega) (show y ≤ 1073741823 by omega) hy.1 (by decide)
  omega
def mulL : List Int → List Int → Int → Int → List Int
  | [], _, _, _ => []
  | o :: os, [], _, c => (o + c) :: os
  | o :: os, y :: ys, x, c => ((o + x * y + c) % 1073741824) :: mulL os ys x ((o + x * y + c) / 1073741824)
theorem mulL_len : ∀ o b x c, (mulL o b x c).length = o.length
  | [], _, _, _ => by unfold mulL; rfl
  | o :: os, [], _, _ => by unfold mulL; rfl
  | o :: os, y :: ys, x, c => by unfold mulL; simp [mulL_len os ys]
def AllZ : List Int → Prop
  | [] => True
  | d :: ds => d = 0 ∧ AllZ ds
theorem mulL_spec : ∀ o b x c, Dg o → Dg b → b.length < o.length → AllZ (o.drop b.length) → 0 ≤ x ∧ x < 1073741824 → 0 ≤ c ∧ c < 1073741824 →
    V (mulL o b x c) = V o + x * V b + c ∧ Dg (mulL o b x c) ∧ AllZ ((mulL o b x c).drop (b.length + 1))
  | [], _, _, _, _, _, h, _, _, _ => by simp at h
  | o :: os, [], x, c, ho, _, _, hz, hx, hc => by
    simp only [List.length_nil, List.drop_zero, AllZ] at hz
    unfold mulL
    refine ⟨by simp [V]; omega, ⟨by omega, ho.2⟩, by simpa using hz.2⟩
  | o :: os, y :: ys, x, c, ho, hb, hl, hz, hx, hc => by
    have hm := mul_bd hx hb.1
    have := ho.1
    obtain ⟨i1, i2, i3⟩ := mulL_spec os ys x ((o + x * y + c) / 1073741824) ho.2 hb.2 (by simpa using hl) (by simpa using hz) hx (by omega)
    unfold mulL
    refine ⟨?_, ⟨by omega, i2⟩, by simpa using i3⟩
    simp only [V, i1]
    rw [Int.mul_add x y, Int.mul_left_comm x 1073741824 (V ys)]
    generalize x * V ys = t
    generalize x * y = u at *
    omega
def timesL : List Int → List Int → List Int → List Int
  | o, [], _ => o
  | o, x :: xs, b => match mulL o b x 0 with
    | [] => []
    | h :: t => h :: timesL t xs b
theorem timesL_spec : ∀ a b o, Dg a → Dg b → Dg o → o.length = a.length + b.length → AllZ (o.drop b.length) → V (timesL o a b) = V o + V a * V b ∧ Dg (timesL o a b) ∧ (timesL o a b).length = o.length
  | [], b, o, _, _, ho, _, _ => by unfold timesL; exact ⟨by simp [V], ho, rfl⟩
  | x :: xs, b, o, ha, hb, ho, hl, hz => by
    have hl1 : b.length < o.length := by simp at hl; omega
    obtain ⟨i1, i2, i3⟩ := mulL_spec o b x 0 ho hb hl1 hz ha.1 (by decide)
    have hlen := mulL_len o b x 0
    unfold timesL
    generalize mulL o b x 0 = m at *
    cases m with
    | nil => simp at hlen; omega
    | cons h t =>
      obtain ⟨j1, j2, j3⟩ := timesL_spec xs b t ha.2 hb i2.2 (by simp at hl hlen; omega) (by simpa using i3)
      refine ⟨?_, ⟨i2.1, j2⟩, by simp at hlen ⊢; omega⟩
      simp only [V] at i1 ⊢
      rw [j1, Int.add_mul, Int.mul_assoc 1073741824 (V xs) (V b)]
      generalize V xs * V b = q
      generalize x * V b = u at *
      omega

/-! ### The printed functions on whole numbers do what the plain lists say -/
theorem wsm {a : Int} (h1 : -9223372036854775808 ≤ a) (h2 : a ≤ 9223372036854775807) : wrap64 a = a := by unfold wrap64; omega
theorem rd_nat (l : List Int) (i : Nat) : rd l (i : Int) = l.getD i 0 := by simp [rd]
theorem drop_rd (l : List Int) (i : Nat) (h : i < l.length) : l.drop i = rd l (i : Int) :: l.drop (i + 1) := by
  rw [rd_nat, List.drop_eq_getElem_cons h]
  simp [List.getD_eq_getElem?_getD, h]
theorem Dg_drop : ∀ (l : List Int) (i : Nat), Dg l → Dg (l.drop i)
  | [], _, _ => by simp [Dg]
  | d :: ds, 0, h => h
  | d :: ds, i + 1, h => Dg_drop ds i h.2
theorem Dg_rd {l : List Int} (h : Dg l) {i : Nat} (hi : i < l.length) : 0 ≤ rd l (i : Int) ∧ rd l (i : Int) < 1073741824 := by
  have := Dg_drop l i h
  rw [drop_rd l i hi] at this
  exact this.1
theorem ev_eq {α : Type} {g : Nat → Option α} {r s : α} (h : r = s) (e : Ev g s) : Ev g r := h ▸ e
theorem trim_ev (l : List Int) (hs : l.length ≤ 1000000) : ∀ (n : Nat), n ≤ l.length → Ev (fun k => windhoverref00_trim.l0 k l (n : Int)) (trimL (l.take n)) := by
  intro n
  induction n with
  | zero =>
    intro _
    refine Ev.step (f := fun _ => some (trimL (l.take 0))) (fun k => ?_) (Ev.now _)
    rw [windhoverref00_trim.l0, if_neg (by decide), if_pos (by decide), if_pos (by omega)]
    simp [trimL]
  | succ n ih =>
    intro hn
    have e : wrap64 (((n + 1 : Nat) : Int) - 1) = (n : Int) := by rw [wsm (by omega) (by omega)]; omega
    have ht : l.take (n + 1) = l.take n ++ [rd l (n : Int)] := by
      rw [rd_nat, List.take_succ_eq_append_getElem (by omega)]
      simp [List.getD_eq_getElem?_getD, show n < l.length from by omega]
    by_cases z : rd l (n : Int) = 0
    · refine ev_eq (by rw [ht, trimL_snoc, if_pos z]) (Ev.step (fun k => ?_) (ih (by omega)))
      rw [windhoverref00_trim.l0, if_pos (by omega), e, if_pos (by omega), if_pos (by omega), if_pos z]
    · refine Ev.step (f := fun _ => some (trimL (l.take (n + 1)))) (fun k => ?_) (Ev.now _)
      rw [windhoverref00_trim.l0, if_pos (by omega), e, if_pos (by omega), if_pos (by omega), if_neg z, if_pos (by omega), if_pos (by omega)]
      rw [ht, trimL_snoc, if_neg z, ← ht]
      rfl
theorem trimf_ev (l : List Int) (hs : l.length ≤ 1000000) : Ev (fun k => windhoverref00_trim.f k l) (trimL l) := by
  have := trim_ev l hs l.length (Nat.le_refl _)
  rw [List.take_length] at this
  exact this
theorem add_end (a b out : List Int) (i : Nat) (hi : max a.length b.length ≤ i) (h2 : out.length ≤ 1000000) :
    Ev (fun k => windhoverref00_add.l0 k a b out 0 (i : Int)) (trimL out) := by
  refine Ev.step (f := fun k => windhoverref00_add.j1 k a b out 0 (i : Int) false) (fun k => ?_) ?_
  · rw [windhoverref00_add.l0, if_neg (by omega), if_neg (by omega)]
    rfl
  · refine Ev.step (f := fun k => (windhoverref00_trim.f k out).bind fun t => some t) (fun k => ?_) ?_
    · rw [windhoverref00_add.j1, if_neg (by decide)]
    · exact Ev.bind (trimf_ev out h2) (Ev.now _)
theorem add_ev (a b : List Int) (ha : Dg a) (hb : Dg b) (hal : a.length ≤ 1000) (hbl : b.length ≤ 1000) : ∀ (n i : Nat) (out : List Int) (c : Int), max a.length b.length ≤ i + n → i ≤ 1000 → out.length ≤ 2000 + i → 0 ≤ c → c ≤ 1 →
    Ev (fun k => windhoverref00_add.l0 k a b out c (i : Int)) (trimL (out ++ addL (a.drop i) (b.drop i) c)) := by
  intro n
  induction n with
  | zero =>
    intro i out c hi hi2 hl h0 h1
    have ea : a.drop i = [] := List.drop_of_length_le (by omega)
    have eb : b.drop i = [] := List.drop_of_length_le (by omega)
    rw [ea, eb]
    by_cases hc : c > 0
    · obtain rfl : c = 1 := by omega
      refine ev_eq (s := trimL (out ++ [1])) (by simp [addL]) ?_
      refine Ev.step (f := fun k => windhoverref00_add.j1 k a b out 1 (i : Int) true) (fun k => ?_) ?_
      · rw [windhoverref00_add.l0, if_neg (by omega), if_neg (by omega)]; rfl
      · refine Ev.step (f := fun k => windhoverref00_add.l0 k a b (out ++ [1]) 0 ((i + 1 : Nat) : Int)) (fun k => ?_) ?_
        · rw [windhoverref00_add.j1, if_pos rfl, if_neg (by omega), if_neg (by omega), if_pos (by omega), show Int.tmod 1 1073741824 = 1 from by decide, show wrap64 (Int.tdiv 1 1073741824) = 0 from by decide +kernel, wsm (by omega) (by omega)]
          rfl
        · exact add_end a b (out ++ [1]) (i + 1) (by omega) (by simp; omega)
    · obtain rfl : c = 0 := by omega
      refine ev_eq (s := trimL out) (by simp [addL]) ?_
      exact add_end a b out i (by omega) (by omega)
  | succ n ih =>
    intro i out c hi hi2 hl h0 h1
    by_cases hlt : max a.length b.length ≤ i
    · exact (by
        have ea : a.drop i = [] := List.drop_of_length_le (by omega)
        have eb : b.drop i = [] := List.drop_of_length_le (by omega)
        rw [ea, eb]
        by_cases hc : c > 0
        · obtain rfl : c = 1 := by omega
          refine ev_eq (s := trimL (out ++ [1])) (by simp [addL]) ?_
          refine Ev.step (f := fun k => windhoverref00_add.j1 k a b out 1 (i : Int) true) (fun k => ?_) ?_
          · rw [windhoverref00_add.l0, if_neg (by omega), if_neg (by omega)]; rfl
          · refine Ev.step (f := fun k => windhoverref00_add.l0 k a b (out ++ [1]) 0 ((i + 1 : Nat) : Int)) (fun k => ?_) ?_
            · rw [windhoverref00_add.j1, if_pos rfl, if_neg (by omega), if_neg (by omega), if_pos (by omega), show Int.tmod 1 1073741824 = 1 from by decide, show wrap64 (Int.tdiv 1 1073741824) = 0 from by decide +kernel, wsm (by omega) (by omega)]
              rfl
            · exact add_end a b (out ++ [1]) (i + 1) (by omega) (by simp; omega)
        · obtain rfl : c = 0 := by omega
          refine ev_eq (s := trimL out) (by simp [addL]) ?_
          exact add_end a b out i (by omega) (by omega))
    · have ei : wrap64 ((i : Int) + 1) = ((i + 1 : Nat) : Int) := by rw [wsm (by omega) (by omega)]; omega
      refine Ev.step (f := fun k => windhoverref00_add.j1 k a b out c (i : Int) true) (fun k => ?_) ?_
      · rw [windhoverref00_add.l0]
        by_cases p : (i : Int) < (a.length : Int)
        · rw [if_pos p]
        · rw [if_neg p, if_pos (by omega)]
      · by_cases p : i < a.length
        · have hx := Dg_rd ha p
          by_cases q : i < b.length
          · have hy := Dg_rd hb q
            rw [drop_rd a i p, drop_rd b i q]
            unfold addL
            refine ev_eq (s := trimL ((out ++ [(c + rd a i + rd b i) % 1073741824]) ++ addL (a.drop (i + 1)) (b.drop (i + 1)) ((c + rd a i + rd b i) / 1073741824))) (by simp) (Ev.step (fun k => ?_) (ih (i + 1) _ _ (by omega) (by omega) (by simp; omega) (by omega) (by omega)))
            rw [windhoverref00_add.j1, if_pos rfl, if_pos (by omega), if_pos (by omega), if_pos (by omega), if_pos (by omega), ei, wsm (a := c + _) (by omega) (by omega), wsm (a := c + _ + _) (by omega) (by omega), Int.tmod_eq_emod_of_nonneg (by omega), Int.tdiv_eq_ediv_of_nonneg (by omega), wsm (by omega) (by omega)]
          · rw [drop_rd a i p, List.drop_of_length_le (show b.length ≤ i by omega)]
            unfold addL
            refine ev_eq (s := trimL ((out ++ [(c + rd a i) % 1073741824]) ++ addL (a.drop (i + 1)) (b.drop (i + 1)) ((c + rd a i) / 1073741824))) (by rw [List.drop_of_length_le (show b.length ≤ i + 1 by omega)]; simp) (Ev.step (fun k => ?_) (ih (i + 1) _ _ (by omega) (by omega) (by simp; omega) (by omega) (by omega)))
            rw [windhoverref00_add.j1, if_pos rfl, if_pos (by omega), if_pos (by omega), if_neg (by omega), if_pos (by omega), ei, wsm (a := c + _) (by omega) (by omega), Int.tmod_eq_emod_of_nonneg (by omega), Int.tdiv_eq_ediv_of_nonneg (by omega), wsm (by omega) (by omega)]
        · have q : i < b.length := by omega
          have hy := Dg_rd hb q
          rw [drop_rd b i q, List.drop_of_length_le (show a.length ≤ i by omega)]
          unfold addL
          refine ev_eq (s := trimL ((out ++ [(c + rd b i) % 1073741824]) ++ addL (a.drop (i + 1)) (b.drop (i + 1)) ((c + rd b i) / 1073741824))) (by rw [List.drop_of_length_le (show a.length ≤ i + 1 by omega)]; simp) (Ev.step (fun k => ?_) (ih (i + 1) _ _ (by omega) (by omega) (by simp; omega) (by omega) (by omega)))
          rw [windhoverref00_add.j1, if_pos rfl, if_neg (by omega), if_pos (by omega), if_pos (by omega), if_pos (by omega), ei, wsm (a := c + _) (by omega) (by omega), Int.tmod_eq_emod_of_nonneg (by omega), Int.tdiv_eq_ediv_of_nonneg (by omega), wsm (by omega) (by omega)]
theorem addf_ev (a b : List Int) (ha : Dg a) (hb : Dg b) (hal : a.length ≤ 900) (hbl : b.length ≤ 900) : Ev (fun k => windhoverref00_add.f k a b) (trimL (addL a b 0)) :=
  add_ev a b ha hb (by omega) (by omega) (max a.length b.length) 0 [] 0 (by omega) (by omega) (by simp) (by decide) (by decide)

theorem less_ev (a b : List Int) (ha : Dg a) (hb : Dg b) (hal : a.length ≤ 1000) (hbl : b.length ≤ a.length) : ∀ (n i : Nat) (out : List Int) (r : Int), a.length = i + n → out.length ≤ 2000 + i → 0 ≤ r → r ≤ 1 →
    Ev (fun k => windhoverref00_less.l0 k a b out r (i : Int)) (trimL (out ++ lessL (a.drop i) (b.drop i) r)) := by
  intro n
  induction n with
  | zero =>
    intro i out r hi hl h0 h1
    rw [List.drop_of_length_le (show a.length ≤ i by omega)]
    refine ev_eq (s := trimL out) (by simp [lessL]) ?_
    refine Ev.step (f := fun k => (windhoverref00_trim.f k out).bind fun t => some t) (fun k => ?_) (Ev.bind (trimf_ev out (by omega)) (Ev.now _))
    rw [windhoverref00_less.l0, if_neg (by omega)]
  | succ n ih =>
    intro i out r hi hl h0 h1
    have p : i < a.length := by omega
    have hx := Dg_rd ha p
    have ei : wrap64 ((i : Int) + 1) = ((i + 1 : Nat) : Int) := by rw [wsm (by omega) (by omega)]; omega
    by_cases q : i < b.length
    · have hy := Dg_rd hb q
      rw [drop_rd a i p, drop_rd b i q]
      unfold lessL
      by_cases s : rd a i - r - rd b i < 0
      · rw [if_pos s]
        refine ev_eq (s := trimL ((out ++ [rd a i - r - rd b i + 1073741824]) ++ lessL (a.drop (i + 1)) (b.drop (i + 1)) 1)) (by simp) (Ev.step (fun k => ?_) (ih (i + 1) _ _ (by omega) (by simp; omega) (by omega) (by omega)))
        rw [windhoverref00_less.l0, if_pos (by omega), if_pos (by omega), if_pos (by omega), wsm (a := _ - r) (by omega) (by omega), wsm (a := _ - r - _) (by omega) (by omega), if_pos s, if_pos (by omega), ei, wsm (by omega) (by omega)]
      · rw [if_neg s]
        refine ev_eq (s := trimL ((out ++ [rd a i - r - rd b i]) ++ lessL (a.drop (i + 1)) (b.drop (i + 1)) 0)) (by simp) (Ev.step (fun k => ?_) (ih (i + 1) _ _ (by omega) (by simp; omega) (by omega) (by omega)))
        rw [windhoverref00_less.l0, if_pos (by omega), if_pos (by omega), if_pos (by omega), wsm (a := _ - r) (by omega) (by omega), wsm (a := _ - r - _) (by omega) (by omega), if_neg s, if_pos (by omega), ei]
    · rw [drop_rd a i p, List.drop_of_length_le (show b.length ≤ i by omega)]
      unfold lessL
      by_cases s : rd a i - r < 0
      · rw [if_pos s]
        refine ev_eq (s := trimL ((out ++ [rd a i - r + 1073741824]) ++ lessL (a.drop (i + 1)) (b.drop (i + 1)) 1)) (by rw [List.drop_of_length_le (show b.length ≤ i + 1 by omega)]; simp) (Ev.step (fun k => ?_) (ih (i + 1) _ _ (by omega) (by simp; omega) (by omega) (by omega)))
        rw [windhoverref00_less.l0, if_pos (by omega), if_pos (by omega), if_neg (by omega), wsm (a := _ - r) (by omega) (by omega), if_pos s, if_pos (by omega), ei, wsm (by omega) (by omega)]
      · rw [if_neg s]
        refine ev_eq (s := trimL ((out ++ [rd a i - r]) ++ lessL (a.drop (i + 1)) (b.drop (i + 1)) 0)) (by rw [List.drop_of_length_le (show b.length ≤ i + 1 by omega)]; simp) (Ev.step (fun k => ?_) (ih (i + 1) _ _ (by omega) (by simp; omega) (by omega) (by omega)))
        rw [windhoverref00_less.l0, if_pos (by omega), if_pos (by omega), if_neg (by omega), wsm (a := _ - r) (by omega) (by omega), if_neg s, if_pos (by omega), ei]
theorem lessf_ev (a b : List Int) (ha : Dg a) (hb : Dg b) (hal : a.length ≤ 1000) (hbl : b.length ≤ a.length) : Ev (fun k => windhoverref00_less.f k a b) (trimL (lessL a b 0)) :=
  less_ev a b ha hb hal hbl a.length 0 [] 0 (by omega) (by simp) (by decide) (by decide)
theorem cmpL_at (a b : List Int) (i : Nat) (h1 : i < a.length) (h2 : i < b.length) (hz : cmpL (a.drop (i + 1)) (b.drop (i + 1)) = 0) :
    cmpL (a.drop i) (b.drop i) = if rd a i < rd b i then -1 else if rd a i > rd b i then 1 else 0 := by
  rw [drop_rd a i h1, drop_rd b i h2]
  simp only [cmpL]
  rw [if_neg (by simpa using hz)]
theorem size_ev (a b : List Int) (hl : a.length = b.length) (hs : a.length ≤ 1000) : ∀ (n : Nat), n ≤ a.length → cmpL (a.drop n) (b.drop n) = 0 →
    Ev (fun k => windhoverref00_size.l0 k a b ((n : Int) - 1)) (cmpL a b) := by
  intro n
  induction n with
  | zero =>
    intro _ hz
    rw [List.drop_zero, List.drop_zero] at hz
    rw [hz]
    refine Ev.step (f := fun _ => some 0) (fun k => ?_) (Ev.now _)
    rw [windhoverref00_size.l0, if_neg (by omega)]
  | succ n ih =>
    intro hn hz
    have e1 : (((n + 1 : Nat) : Int) - 1) = (n : Int) := by omega
    have e2 : wrap64 ((n : Int) - 1) = (n : Int) - 1 := wsm (by omega) (by omega)
    have hc := cmpL_at a b n (by omega) (by omega) hz
    rw [e1]
    by_cases h1 : rd a n < rd b n
    · rw [if_pos h1] at hc
      refine ev_eq (s := -1) ?_ (Ev.step (f := fun _ => some (-1)) (fun k => ?_) (Ev.now _))
      · rw [cmpL_drop n a b (by rw [hc]; decide), hc]
      · rw [windhoverref00_size.l0, if_pos (by omega), if_pos (by omega), if_pos (by omega), if_pos (by omega), if_pos h1]
    · rw [if_neg h1] at hc
      by_cases h2 : rd a n > rd b n
      · rw [if_pos h2] at hc
        refine ev_eq (s := 1) ?_ (Ev.step (f := fun _ => some 1) (fun k => ?_) (Ev.now _))
        · rw [cmpL_drop n a b (by rw [hc]; decide), hc]
        · rw [windhoverref00_size.l0, if_pos (by omega), if_pos (by omega), if_pos (by omega), if_pos (by omega), if_neg h1, if_pos h2]
      · rw [if_neg h2] at hc
        refine Ev.step (fun k => ?_) (ih (by omega) hc)
        rw [windhoverref00_size.l0, if_pos (by omega), if_pos (by omega), if_pos (by omega), if_pos (by omega), if_neg h1, if_neg h2, e2]
/-- Magnitudes are compared. -/
theorem sizef_ev (a b : List Int) (ha : Dg a) (hb : Dg b) (ta : Trm a) (tb : Trm b) (hs : a.length ≤ 1000) : ∃ r, Ev (fun k => windhoverref00_size.f k a b) r ∧ Sg (V a) (V b) r := by
  by_cases hl : a.length = b.length
  · refine ⟨cmpL a b, ?_, cmpL_spec a b ha hb hl⟩
    have h := size_ev a b hl hs a.length (Nat.le_refl _) (by rw [List.drop_of_length_le (Nat.le_refl _), List.drop_of_length_le (by omega)]; rfl)
    refine Ev.congr (fun k => ?_) h
    rw [windhoverref00_size.f, if_pos (by omega), wsm (by omega) (by omega)]
  · by_cases hlt : a.length < b.length
    · refine ⟨-1, Ev.congr (fun k => ?_) (Ev.now _), .inl ⟨rfl, V_lt_len a b ha hb tb hlt⟩⟩
      rw [windhoverref00_size.f, if_neg (by omega), if_pos (by omega)]
    · refine ⟨1, Ev.congr (fun k => ?_) (Ev.now _), .inr (.inr ⟨rfl, V_lt_len b a hb ha ta (by omega)⟩)⟩
      rw [windhoverref00_size.f, if_neg (by omega), if_neg (by omega)]
/-- A whole number, as its sign and its digits. -/
def W (L : Nat) (b : Bool) (d : List Int) (n : Int) : Prop := Dg d ∧ Trm d ∧ (b = true → d ≠ []) ∧ n = (if b = true then -V d else V d) ∧ d.length ≤ L
theorem W.mono {L M : Nat} {b : Bool} {d : List Int} {n : Int} (h : W L b d n) (hl : L ≤ M) : W M b d n := ⟨h.1, h.2.1, h.2.2.1, h.2.2.2.1, Nat.le_trans h.2.2.2.2 hl⟩
theorem len_of {d : List Int} (h : Dg d) (t : Trm d) : (V d < 1073741824 → d.length ≤ 1) ∧ (V d < 1152921504606846976 → d.length ≤ 2) ∧ (V d < 1237940039285380274899124224 → d.length ≤ 3) ∧ (V d < 1329227995784915872903807060280344576 → d.length ≤ 4) := by
  match d, h, t with
  | [], _, _ => exact ⟨fun _ => by simp, fun _ => by simp, fun _ => by simp, fun _ => by simp⟩
  | [a], _, _ => exact ⟨fun _ => by simp, fun _ => by simp, fun _ => by simp, fun _ => by simp⟩
  | [a, b], h, t =>
    have := h.1; have := h.2.1; have := t.2.1 rfl
    simp only [V]; exact ⟨fun _ => by omega, fun _ => by simp, fun _ => by simp, fun _ => by simp⟩
  | [a, b, c], h, t =>
    have := h.1; have := h.2.1; have := h.2.2.1; have := t.2.2.1 rfl
    simp only [V]; exact ⟨fun _ => by omega, fun _ => by omega, fun _ => by simp, fun _ => by simp⟩
  | [a, b, c, e], h, t =>
    have := h.1; have := h.2.1; have := h.2.2.1; have := h.2.2.2.1; have := t.2.2.2.1 rfl
    simp only [V]; exact ⟨fun _ => by omega, fun _ => by omega, fun _ => by omega, fun _ => by simp⟩
  | a :: b :: c :: e :: f :: ds, h, t =>
    have := h.1; have := h.2.1; have := h.2.2.1; have := h.2.2.2.1
    have := V_pos (f :: ds) h.2.2.2.2 t.2.2.2.2 (by simp)
    simp only [V] at *
    exact ⟨fun _ => by omega, fun _ => by omega, fun _ => by omega, fun _ => by omega⟩
theorem of_loop (bl : Bool) : ∀ (m : Nat) (n : Int) (out : List Int), n.natAbs ≤ m → -9223372036854775808 ≤ n → n ≤ 9223372036854775807 → (∃ c : Nat, n.natAbs * 2 ^ c ≤ 9223372036854775808 ∧ out.length ≤ c) →
    ∃ ds, Ev (fun k => windhoverref00_Of.l0 k n bl out) (bl, out ++ ds) ∧ Dg ds ∧ Trm ds ∧ V ds = n.natAbs ∧ (n = 0 → ds = []) := by
  intro m
  induction m with
  | zero =>
    intro n out hm _ _ _
    obtain rfl : n = 0 := by omega
    refine ⟨[], Ev.step (f := fun _ => some (bl, out)) (fun k => ?_) (ev_eq (by simp) (Ev.now _)), trivial, trivial, rfl, fun _ => rfl⟩
    rw [windhoverref00_Of.l0, if_pos rfl]
  | succ m ih =>
    intro n out hm h1 h2 hc
    by_cases hz : n = 0
    · subst hz
      refine ⟨[], Ev.step (f := fun _ => some (bl, out)) (fun k => ?_) (ev_eq (by simp) (Ev.now _)), trivial, trivial, rfl, fun _ => rfl⟩
      rw [windhoverref00_Of.l0, if_pos rfl]
    · obtain ⟨c, hc1, hc2⟩ := hc
      have hc63 : c ≤ 63 := by
        rcases Nat.lt_or_ge c 64 with h | h
        · omega
        · have h3 : 2 ^ 64 ≤ 2 ^ c := Nat.pow_le_pow_right (by decide) h
          have h4 : 1 * 2 ^ c ≤ n.natAbs * 2 ^ c := Nat.mul_le_mul_right _ (by omega)
          omega
      have key : ∀ q : Int, q.natAbs * 2 ≤ n.natAbs → ∃ c : Nat, q.natAbs * 2 ^ c ≤ 9223372036854775808 ∧ out.length + 1 ≤ c := by
        intro q hq
        refine ⟨c + 1, ?_, by omega⟩
        have : q.natAbs * 2 ^ (c + 1) ≤ n.natAbs * 2 ^ c := by
          rw [Nat.pow_succ, Nat.mul_comm (2 ^ c) 2, ← Nat.mul_assoc]
          exact Nat.mul_le_mul_right _ hq
        omega
      by_cases hn : 0 ≤ n
      · have e1 : Int.tmod n 1073741824 = n % 1073741824 := Int.tmod_eq_emod_of_nonneg hn
        have e2 : Int.tdiv n 1073741824 = n / 1073741824 := Int.tdiv_eq_ediv_of_nonneg hn
        obtain ⟨ds, hev, hd, ht, hv, hnil⟩ := ih (n / 1073741824) (out ++ [n % 1073741824]) (by omega) (by omega) (by omega) (by simpa using key (n / 1073741824) (by omega))
        refine ⟨n % 1073741824 :: ds, ev_eq (by simp) (Ev.step (fun k => ?_) hev), ⟨by omega, hd⟩, ⟨fun e => ?_, ht⟩, by simp only [V]; omega, fun h => absurd h hz⟩
        · rw [windhoverref00_Of.l0, if_neg hz, e1, e2, if_neg (by omega), if_pos (by omega), wsm (by omega) (by omega)]
        · rw [e] at hv; simp only [V] at hv; omega
      · obtain ⟨p, rfl⟩ : ∃ p, n = -p := ⟨-n, by omega⟩
        have hp : 0 ≤ p := by omega
        have e1 : Int.tmod (-p) 1073741824 = -(p % 1073741824) := by rw [Int.neg_tmod, Int.tmod_eq_emod_of_nonneg hp]
        have e2 : Int.tdiv (-p) 1073741824 = -(p / 1073741824) := by rw [Int.neg_tdiv, Int.tdiv_eq_ediv_of_nonneg hp]
        obtain ⟨ds, hev, hd, ht, hv, hnil⟩ := ih (-(p / 1073741824)) (out ++ [p % 1073741824]) (by omega) (by omega) (by omega) (by simpa using key (-(p / 1073741824)) (by omega))
        refine ⟨p % 1073741824 :: ds, ev_eq (by simp) (Ev.step (fun k => ?_) hev), ⟨by omega, hd⟩, ⟨fun e => ?_, ht⟩, by simp only [V]; omega, fun h => absurd h hz⟩
        · rw [windhoverref00_Of.l0, if_neg hz, e1, e2]
          by_cases z : p % 1073741824 = 0
          · rw [if_neg (by omega), if_pos (by omega), wsm (by omega) (by omega), z]; rfl
          · rw [if_pos (by omega), if_pos (by omega), wsm (a := -(p / 1073741824)) (by omega) (by omega), Int.neg_neg, wsm (by omega) (by omega)]
        · rw [e] at hv; simp only [V] at hv; omega
theorem of_ev (n : Int) (h1 : -9223372036854775808 ≤ n) (h2 : n ≤ 9223372036854775807) : ∃ b d, Ev (fun k => windhoverref00_Of.f k n) (b, d) ∧ W 3 b d n := by
  obtain ⟨ds, hev, hd, ht, hv, hnil⟩ := of_loop (decide (n < 0)) n.natAbs n [] (Nat.le_refl _) h1 h2 ⟨0, by omega, by simp⟩
  refine ⟨decide (n < 0), ds, Ev.congr (fun k => by rw [windhoverref00_Of.f]) (ev_eq (by simp) hev), hd, ht, fun h => ?_, ?_, (len_of hd ht).2.2.1 (by omega)⟩
  · intro e
    rw [e] at hv
    simp only [V] at hv
    simp at h
    omega
  · by_cases h : n < 0
    · rw [if_pos (by simpa using h)]; omega
    · rw [if_neg (by simpa using h)]; omega
theorem W_range {L : Nat} {b : Bool} {d : List Int} {n : Int} (h : W L b d n) : (b = true → n < 0) ∧ (b = false → 0 ≤ n) := by
  obtain ⟨hd, ht, hb, hn, _⟩ := h
  have h0 := V_nonneg d hd
  refine ⟨fun e => ?_, fun e => ?_⟩
  · have := V_pos d hd ht (hb e); rw [if_pos e] at hn; omega
  · rw [e, if_neg (by decide)] at hn; omega
theorem plus_ev {L : Nat} {a b : Bool} {x y : List Int} {m n : Int} (hx : W L a x m) (hy : W L b y n) (hL : L ≤ 900) : ∃ c z, Ev (fun k => windhoverref00_Plus.f k a x b y) (c, z) ∧ W (L + 1) c z (m + n) := by
  obtain ⟨dx, tx, bx, ex, lx⟩ := hx
  obtain ⟨dy, ty, by', ey, ly⟩ := hy
  have vx := V_nonneg x dx
  have vy := V_nonneg y dy
  by_cases hab : a = b
  · subst hab
    obtain ⟨s1, s2, s3⟩ := addL_spec x y 0 dx dy (by decide) (by decide)
    refine ⟨a, trimL (addL x y 0), Ev.congr (fun k => ?_) (Ev.bind (f := fun _ t => some (a, t)) (addf_ev x y dx dy (by omega) (by omega)) (Ev.now _)), Dg_trimL _ s2, Trm_trimL _, fun h => ?_, ?_, ?_⟩
    · rw [windhoverref00_Plus.f, if_pos (by simp)]
    · intro e
      have := V_trimL (addL x y 0)
      rw [e, s1] at this
      simp only [V] at this
      have := V_pos x dx tx (bx h)
      omega
    · rw [V_trimL, s1]
      cases a <;> simp at ex ey ⊢ <;> omega
    · have := trimL_len (addL x y 0); omega
  · have hne : ¬ ((a == b) = true) := by simpa using hab
    obtain ⟨r, hr, hs⟩ := sizef_ev x y dx dy tx ty (by omega)
    rcases hs with ⟨rfl, hlt⟩ | ⟨rfl, heq⟩ | ⟨rfl, hgt⟩
    · have hlen : x.length ≤ y.length := by
        rcases Nat.lt_or_ge y.length x.length with h | h
        · have := V_lt_len y x dy dx tx h; omega
        · exact h
      obtain ⟨s1, s2, s3⟩ := lessL_spec y x 0 dy dx hlen (by decide) (by decide) (by omega)
      refine ⟨b, trimL (lessL y x 0), Ev.congr (fun k => ?_) (Ev.bind (f := fun k t => if t = 0 then some (false, []) else if t > 0 then (windhoverref00_less.f k x y).bind fun z => some (a, z) else (windhoverref00_less.f k y x).bind fun z => some (b, z)) hr ?_), Dg_trimL _ s2, Trm_trimL _, fun h => ?_, ?_, ?_⟩
      · rw [windhoverref00_Plus.f, if_neg hne]
      · exact Ev.congr (fun k => by rw [if_neg (by decide), if_neg (by decide)]) (Ev.bind (f := fun _ z => some (b, z)) (lessf_ev y x dy dx (by omega) hlen) (Ev.now _))
      · intro e
        have := V_trimL (lessL y x 0)
        rw [e, s1] at this
        simp only [V] at this
        omega
      · rw [V_trimL, s1]
        cases a <;> cases b <;> simp at ex ey hab ⊢ <;> omega
      · have := trimL_len (lessL y x 0); omega
    · refine ⟨false, [], Ev.congr (fun k => ?_) (Ev.bind (f := fun k t => if t = 0 then some (false, []) else if t > 0 then (windhoverref00_less.f k x y).bind fun z => some (a, z) else (windhoverref00_less.f k y x).bind fun z => some (b, z)) hr ?_), trivial, trivial, by simp, ?_, by simp⟩
      · rw [windhoverref00_Plus.f, if_neg hne]
      · exact Ev.congr (fun k => by rw [if_pos rfl]) (Ev.now _)
      · cases a <;> cases b <;> simp [V] at ex ey hab ⊢ <;> omega
    · have hlen : y.length ≤ x.length := by
        rcases Nat.lt_or_ge x.length y.length with h | h
        · have := V_lt_len x y dx dy ty h; omega
        · exact h
      obtain ⟨s1, s2, s3⟩ := lessL_spec x y 0 dx dy hlen (by decide) (by decide) (by omega)
      refine ⟨a, trimL (lessL x y 0), Ev.congr (fun k => ?_) (Ev.bind (f := fun k t => if t = 0 then some (false, []) else if t > 0 then (windhoverref00_less.f k x y).bind fun z => some (a, z) else (windhoverref00_less.f k y x).bind fun z => some (b, z)) hr ?_), Dg_trimL _ s2, Trm_trimL _, fun h => ?_, ?_, ?_⟩
      · rw [windhoverref00_Plus.f, if_neg hne]
      · exact Ev.congr (fun k => by rw [if_neg (by decide), if_pos (by decide)]) (Ev.bind (f := fun _ z => some (a, z)) (lessf_ev x y dx dy (by omega) hlen) (Ev.now _))
      · intro e
        have := V_trimL (lessL x y 0)
        rw [e, s1] at this
        simp only [V] at this
        omega
      · rw [V_trimL, s1]
        cases a <;> cases b <;> simp at ex ey hab ⊢ <;> omega
      · have := trimL_len (lessL x y 0); omega

theorem neg_f {L : Nat} {b : Bool} {d : List Int} {n : Int} (h : W L b d n) : ∃ c, windhoverref00_Negative.f b d = some (c, d) ∧ W L c d (-n) := by
  obtain ⟨hd, ht, hb, hn, hl⟩ := h
  by_cases e : d = []
  · subst e
    refine ⟨false, ?_, hd, ht, by simp, ?_, hl⟩
    · rw [windhoverref00_Negative.f, if_neg (by simp)]; split <;> rfl
    · simp only [V] at hn ⊢
      cases b <;> simp at hn ⊢ <;> omega
  · have hp : (d.length : Int) > 0 := by
      have := List.length_pos_iff.mpr e
      omega
    cases b
    · exact ⟨true, by rw [windhoverref00_Negative.f, if_pos hp]; rfl, hd, ht, fun _ => e, by simp at hn ⊢; omega, hl⟩
    · exact ⟨false, by rw [windhoverref00_Negative.f, if_pos hp]; rfl, hd, ht, by simp, by simp at hn ⊢; omega, hl⟩
theorem minus_ev {L : Nat} {a b : Bool} {x y : List Int} {m n : Int} (hx : W L a x m) (hy : W L b y n) (hL : L ≤ 900) : ∃ c z, Ev (fun k => windhoverref00_Minus.f k a x b y) (c, z) ∧ W (L + 1) c z (m - n) := by
  obtain ⟨c, h1, h2⟩ := neg_f hy
  obtain ⟨c2, z, h3, h4⟩ := plus_ev hx h2 hL
  refine ⟨c2, z, Ev.congr (fun k => ?_) (Ev.bind (f := fun _ t => some (t.1, t.2)) h3 (Ev.now _)), by rw [Int.sub_eq_add_neg]; exact h4⟩
  rw [windhoverref00_Minus.f, h1, Option.bind_some]
theorem cmp_ev {L : Nat} {a b : Bool} {x y : List Int} {m n : Int} (hx : W L a x m) (hy : W L b y n) (hL : L ≤ 1000) : ∃ r, Ev (fun k => windhoverref00_Cmp.f k a x b y) r ∧ Sg m n r := by
  have rx := W_range hx
  have ry := W_range hy
  obtain ⟨dx, tx, bx, ex, lx⟩ := hx
  obtain ⟨dy, ty, by', ey, ly⟩ := hy
  by_cases hab : a = b
  · subst hab
    obtain ⟨r, hr, hs⟩ := sizef_ev x y dx dy tx ty (by omega)
    cases a
    · refine ⟨r, Ev.congr (fun k => ?_) (Ev.bind (f := fun _ t => some t) hr (Ev.now _)), ?_⟩
      · rw [windhoverref00_Cmp.f, if_neg (by decide)]; rfl
      · simp at ex ey; rw [ex, ey]; exact hs
    · refine ⟨-r, Ev.congr (fun k => ?_) (Ev.bind (f := fun _ t => some (wrap64 (-t))) hr (ev_eq ?_ (Ev.now _))), ?_⟩
      · rw [windhoverref00_Cmp.f, if_neg (by decide)]; rfl
      · rcases hs with ⟨rfl, _⟩ | ⟨rfl, _⟩ | ⟨rfl, _⟩ <;> exact (wsm (by decide) (by decide)).symm
      · simp at ex ey; unfold Sg at *; omega
  · cases a <;> cases b
    · exact absurd rfl hab
    · refine ⟨1, Ev.congr (fun k => ?_) (Ev.now _), .inr (.inr ⟨rfl, by have := rx.2 rfl; have := ry.1 rfl; omega⟩)⟩
      rw [windhoverref00_Cmp.f, if_pos (by decide), if_neg (by decide)]
    · refine ⟨-1, Ev.congr (fun k => ?_) (Ev.now _), .inl ⟨rfl, by have := rx.1 rfl; have := ry.2 rfl; omega⟩⟩
      rw [windhoverref00_Cmp.f, if_pos (by decide), if_pos rfl]
    · exact absurd rfl hab
def I64 (n : Int) : Prop := -9223372036854775808 ≤ n ∧ n ≤ 9223372036854775807
theorem mulL_cons {o y : Int} {os ys : List Int} {x c : Int} : mulL (o :: os) (y :: ys) x c = ((o + x * y + c) % 1073741824) :: mulL os ys x ((o + x * y + c) / 1073741824) := by
  conv => lhs; unfold mulL
theorem set_mid (P : List Int) (o v : Int) (os : List Int) (n : Nat) (h : P.length = n) : (P ++ o :: os).set n v = P ++ v :: os := by
  subst h
  simp [List.set_append_right]
theorem rd_mid (P : List Int) (o : Int) (os : List Int) (n : Nat) (h : P.length = n) : rd (P ++ o :: os) (n : Int) = o := by
  subst h
  rw [rd_nat]
  simp [List.getD_eq_getElem?_getD]
theorem wadd (i j : Nat) (h : i + j ≤ 1000000) : wrap64 ((i : Int) + (j : Int)) = ((i + j : Nat) : Int) := by rw [wsm (by omega) (by omega)]; omega
theorem wadd1 (i : Nat) (h : i ≤ 1000000) : wrap64 ((i : Int) + 1) = ((i + 1 : Nat) : Int) := by rw [wsm (by omega) (by omega)]; omega
theorem times_in (ab bb : Bool) (a b : List Int) (hal : a.length ≤ 400) (hbl : b.length ≤ 400) (hb : Dg b) (i : Nat) (hi : i < a.length) (ha : Dg a) (r : Bool × List Int) :
    ∀ (n j : Nat) (P o : List Int) (c : Int), b.length = j + n → P.length = i + j → n < o.length → P.length + o.length ≤ 900 → Dg o → AllZ (o.drop n) → (0 ≤ c ∧ c < 1073741824) →
    Ev (fun k => windhoverref00_Times.l0 k (P ++ mulL o (b.drop j) (rd a i) c) ((i + 1 : Nat) : Int) ab a bb b) r →
    Ev (fun k => windhoverref00_Times.l1 k (P ++ o) (i : Int) c (j : Int) ab a bb b) r := by
  intro n
  have hx := Dg_rd ha hi
  induction n with
  | zero =>
    intro j P o c hj hP ho htot hd hz hc hev
    cases o with
    | nil => simp at ho
    | cons o os =>
      have em : mulL (o :: os) [] (rd a i) c = (o + c) :: os := by unfold mulL; rfl
      rw [List.drop_of_length_le (show b.length ≤ j by omega), em] at hev
      simp only [List.drop_zero, AllZ] at hz
      have hlen : ((P ++ o :: os).length : Int) = i + j + os.length + 1 := by simp; omega
      simp only [List.length_cons] at htot
      have ho0 : o = 0 := hz.1
      clear hz hx
      have q1 : ¬ (j : Int) < (b.length : Int) := by omega
      have q2 : 0 ≤ ((i + b.length : Nat) : Int) := by omega
      have q3 : ((i + b.length : Nat) : Int) < ((P ++ o :: os).length : Int) := by omega
      have q4 : P.length = i + b.length := by omega
      have q5 : i + b.length ≤ 1000000 := by omega
      have q6 : i ≤ 1000000 := by omega
      have e3 : -9223372036854775808 ≤ o + c ∧ o + c ≤ 9223372036854775807 := by omega
      refine Ev.step (fun k => ?_) hev
      rw [windhoverref00_Times.l1, if_neg q1, wadd i b.length q5, if_pos q2, if_pos q3, wadd1 i q6, rd_mid P o os _ q4, wsm e3.1 e3.2, Int.toNat_natCast, set_mid P o (o + c) os _ q4]
  | succ n ih =>
    intro j P o c hj hP ho htot hd hz hc hev
    cases o with
    | nil => simp at ho
    | cons o os =>
      have q : j < b.length := by omega
      have hy := Dg_rd hb q
      have hm := mul_bd hx hy
      have hod := hd.1
      rw [drop_rd b j q, mulL_cons] at hev
      have hlen : ((P ++ o :: os).length : Int) = i + j + os.length + 1 := by simp; omega
      simp only [List.length_cons] at htot ho
      have q1 : (j : Int) < (b.length : Int) := by omega
      have q2 : 0 ≤ ((i + j : Nat) : Int) := by omega
      have q3 : ((i + j : Nat) : Int) < ((P ++ o :: os).length : Int) := by omega
      have q4 : P.length = i + j := by omega
      have q5 : i + j ≤ 1000000 := by omega
      have q6 : j ≤ 1000000 := by omega
      have q7 : 0 ≤ (i : Int) := by omega
      have q8 : (i : Int) < (a.length : Int) := by omega
      have q9 : 0 ≤ (j : Int) := by omega
      have r1 : b.length = j + 1 + n := by omega
      have r2 : n < os.length := by omega
      have key : ∀ t : Int, 0 ≤ t → t ≤ 1152921502459363329 → wrap64 t = t ∧ wrap64 (o + t) = o + t ∧ wrap64 (o + t + c) = o + t + c ∧ Int.tmod (o + t + c) 1073741824 = (o + t + c) % 1073741824 ∧ wrap64 (Int.tdiv (o + t + c) 1073741824) = (o + t + c) / 1073741824 ∧ (0 ≤ (o + t + c) / 1073741824 ∧ (o + t + c) / 1073741824 < 1073741824) := by
        intro t h0 h1
        refine ⟨wsm (by omega) (by omega), wsm (by omega) (by omega), wsm (by omega) (by omega), Int.tmod_eq_emod_of_nonneg (by omega), ?_, ⟨by omega, by omega⟩⟩
        rw [Int.tdiv_eq_ediv_of_nonneg (by omega), wsm (by omega) (by omega)]
      have hl2 : (P ++ [(o + rd a i * rd b j + c) % 1073741824]).length = i + (j + 1) := by simp; omega
      have hl3 : (P ++ [(o + rd a i * rd b j + c) % 1073741824]).length + os.length ≤ 900 := by simp; omega
      obtain ⟨k1, k2, k3, k4, k5, k6⟩ := key _ hm.1 hm.2
      clear key hlen htot
      have hev' := ih (j + 1) (P ++ [(o + rd a i * rd b j + c) % 1073741824]) os _ r1 hl2 r2 hl3 hd.2 hz k6 (by rw [List.append_assoc]; exact hev)
      refine Ev.step (fun k => ?_) hev'
      rw [windhoverref00_Times.l1, if_pos q1, wadd i j q5, if_pos q2, if_pos q3, if_pos q7, if_pos q8, if_pos q9, rd_mid P o os _ q4, k1, k2, k3, k4, k5, wadd1 j q6, Int.toNat_natCast, set_mid P o _ os _ q4, List.append_assoc]
      rfl
theorem timesL_step {o : List Int} {x : Int} {xs b : List Int} {h : Int} {t : List Int} (e : mulL o b x 0 = h :: t) : timesL o (x :: xs) b = h :: timesL t xs b := by
  conv => lhs; unfold timesL
  rw [e]
theorem times_out (ab bb : Bool) (a b : List Int) (hal : a.length ≤ 400) (hbl : b.length ≤ 400) (ha : Dg a) (hb : Dg b) : ∀ (n i : Nat) (P o : List Int), a.length = i + n → P.length = i → o.length = n + b.length → Dg o → AllZ (o.drop b.length) →
    Ev (fun k => windhoverref00_Times.l0 k (P ++ o) (i : Int) ab a bb b) (ab != bb, trimL (P ++ timesL o (a.drop i) b)) := by
  intro n
  induction n with
  | zero =>
    intro i P o hi hP ho hd hz
    rw [List.drop_of_length_le (show a.length ≤ i by omega)]
    have e : timesL o [] b = o := by unfold timesL; rfl
    rw [e]
    refine Ev.step (f := fun k => (windhoverref00_trim.f k (P ++ o)).bind fun t => some (ab != bb, t)) (fun k => ?_) (Ev.bind (trimf_ev _ (by simp; omega)) (Ev.now _))
    rw [windhoverref00_Times.l0, if_neg (by omega)]
  | succ n ih =>
    intro i P o hi hP ho hd hz
    have p : i < a.length := by omega
    have hx := Dg_rd ha p
    refine Ev.step (f := fun k => windhoverref00_Times.l1 k (P ++ o) (i : Int) 0 ((0 : Nat) : Int) ab a bb b) (fun k => ?_) ?_
    · rw [windhoverref00_Times.l0, if_pos (by omega)]; rfl
    · refine times_in ab bb a b hal hbl hb i p ha _ b.length 0 P o 0 (by omega) (by omega) (by omega) (by omega) hd hz (by decide) ?_
      rw [List.drop_zero, drop_rd a i p]
      obtain ⟨m1, m2, m3⟩ := mulL_spec o b (rd a i) 0 hd hb (by omega) hz hx (by decide)
      have hlen := mulL_len o b (rd a i) 0
      cases hm : mulL o b (rd a i) 0 with
      | nil => rw [hm] at hlen; simp at hlen; omega
      | cons h t =>
        rw [hm] at hlen m2 m3
        have := ih (i + 1) (P ++ [h]) t (by omega) (by simp; omega) (by simp at hlen; omega) m2.2 (by simpa using m3)
        rw [timesL_step hm]
        simpa using this
theorem AllZ_rep : ∀ n, AllZ (List.replicate n 0)
  | 0 => trivial
  | n + 1 => ⟨rfl, AllZ_rep n⟩
theorem Dg_rep : ∀ n, Dg (List.replicate n 0)
  | 0 => trivial
  | n + 1 => ⟨by decide, Dg_rep n⟩
theorem V_rep : ∀ n, V (List.replicate n 0) = 0
  | 0 => rfl
  | n + 1 => by simp only [List.replicate, V, V_rep n]; rfl
theorem times_ev {L M : Nat} {a b : Bool} {x y : List Int} {m n : Int} (hx : W L a x m) (hy : W M b y n) (hL : L ≤ 400) (hM : M ≤ 400) : ∃ c z, Ev (fun k => windhoverref00_Times.f k a x b y) (c, z) ∧ W (L + M) c z (m * n) := by
  obtain ⟨dx, tx, bx, ex, lx⟩ := hx
  obtain ⟨dy, ty, by', ey, ly⟩ := hy
  by_cases hz : x = [] ∨ y = []
  · refine ⟨false, [], ?_, trivial, trivial, by simp, ?_, by simp⟩
    · have stop : Ev (fun k => windhoverref00_Times.j0 k true a x b y) (false, []) := by
        refine Ev.step (f := fun _ => some (false, [])) (fun k => ?_) (Ev.now _)
        rw [windhoverref00_Times.j0, if_pos rfl]
      refine Ev.congr (fun k => ?_) stop
      rcases hz with rfl | rfl
      · rw [windhoverref00_Times.f, if_pos (by simp)]
      · rw [windhoverref00_Times.f]
        by_cases h : (x.length : Int) = 0
        · rw [if_pos h]
        · rw [if_neg h]; rfl
    · rcases hz with rfl | rfl
      · simp [V] at ex; subst ex; simp [V]
      · simp [V] at ey; subst ey; simp [V]
  · have hx0 : x ≠ [] := fun e => hz (.inl e)
    have hy0 : y ≠ [] := fun e => hz (.inr e)
    have lx0 := List.length_pos_iff.mpr hx0
    have ly0 := List.length_pos_iff.mpr hy0
    have vx := V_pos x dx tx hx0
    have vy := V_pos y dy ty hy0
    have hdrop : AllZ ((List.replicate (x.length + y.length) (0 : Int)).drop y.length) := by rw [List.drop_replicate]; exact AllZ_rep _
    obtain ⟨s1, s2, s3⟩ := timesL_spec x y (List.replicate (x.length + y.length) 0) dx dy (Dg_rep _) (by simp) hdrop
    rw [V_rep] at s1
    have hev := times_out a b x y (by omega) (by omega) dx dy x.length 0 [] (List.replicate (x.length + y.length) 0) (by omega) rfl (by simp) (Dg_rep _) hdrop
    rw [List.drop_zero, List.nil_append, List.nil_append] at hev
    have hpos := Int.mul_pos vx vy
    refine ⟨a != b, trimL (timesL (List.replicate (x.length + y.length) 0) x y), Ev.congr (f := fun k => windhoverref00_Times.j0 k false a x b y) (fun k => ?_) (Ev.step (fun k => ?_) hev), Dg_trimL _ s2, Trm_trimL _, fun h => ?_, ?_, ?_⟩
    · rw [windhoverref00_Times.f, if_neg (by omega), show ((y.length : Int) == 0) = false from by simp; omega]
    · rw [windhoverref00_Times.j0, if_neg (by decide), wadd x.length y.length (by omega), if_pos (by omega), Int.toNat_natCast, if_pos (by omega)]
      rfl
    · intro e
      have := V_trimL (timesL (List.replicate (x.length + y.length) 0) x y)
      rw [e, s1] at this
      simp only [V] at this
      omega
    · rw [V_trimL, s1]
      cases a <;> cases b <;> simp at ex ey ⊢ <;> rw [ex, ey] <;> simp [Int.neg_mul, Int.mul_neg]
    · have := trimL_len (timesL (List.replicate (x.length + y.length) 0) x y)
      simp at s3
      omega
theorem I64_of {a : Int} (h : (Lit.int .i64 a).wf = true) : I64 a := by
  simp [Lit.wf, IntKind.min, IntKind.max, IntKind.signed, IntKind.bits] at h
  unfold I64; omega

/-! ### Add, Sub, Mul: kept within an int -/
theorem uw {a : Int} (h1 : 0 ≤ a) (h2 : a < 18446744073709551616) : IntKind.u64.wrap a = a := by rw [IntKind.wrap_u64]; omega
theorem and32 {a : Int} (h1 : 0 ≤ a) (h2 : a < 18446744073709551616) : Go.bits .and .u64 a 4294967295 = a % 4294967296 := by
  have := bits_mask .u64 64 (by decide) (fun n h0 h1 => by rw [IntKind.wrap_u64]; omega) 32 (by decide) a h1 (by omega)
  simpa using this
theorem prod32 {x y : Int} (hx : 0 ≤ x ∧ x ≤ 4294967295) (hy : 0 ≤ y ∧ y ≤ 4294967295) : 0 ≤ x * y ∧ x * y ≤ 18446744065119617025 := by
  refine ⟨Int.mul_nonneg hx.1 hy.1, ?_⟩
  have := Int.mul_le_mul hx.2 hy.2 hy.1 (by decide)
  omega
/-- The 128 bits of a product. -/
theorem mul64_f {a b : Int} (ha : 0 ≤ a ∧ a < 18446744073709551616) (hb : 0 ≤ b ∧ b < 18446744073709551616) : bits_Mul64.f a b = some (a * b / 18446744073709551616, a * b % 18446744073709551616) := by
  obtain ⟨p, q, rfl, hp, hq⟩ : ∃ p q : Int, a = p * 4294967296 + q ∧ (0 ≤ p ∧ p ≤ 4294967295) ∧ (0 ≤ q ∧ q ≤ 4294967295) := ⟨a / 4294967296, a % 4294967296, by omega, by omega, by omega⟩
  obtain ⟨r, s, rfl, hr, hs⟩ : ∃ r s : Int, b = r * 4294967296 + s ∧ (0 ≤ r ∧ r ≤ 4294967295) ∧ (0 ≤ s ∧ s ≤ 4294967295) := ⟨b / 4294967296, b % 4294967296, by omega, by omega, by omega⟩
  have e1 : (p * 4294967296 + q) / 4294967296 = p := by omega
  have e2 : (r * 4294967296 + s) / 4294967296 = r := by omega
  have e3 : Go.bits .and .u64 (p * 4294967296 + q) 4294967295 = q := by rw [and32 ha.1 ha.2]; omega
  have e4 : Go.bits .and .u64 (r * 4294967296 + s) 4294967295 = s := by rw [and32 hb.1 hb.2]; omega
  have hpr := prod32 hp hr
  have hps := prod32 hp hs
  have hqr := prod32 hq hr
  have hqs := prod32 hq hs
  have hx : (p * 4294967296 + q) * (r * 4294967296 + s) = p * r * 18446744073709551616 + (p * s + q * r) * 4294967296 + q * s := by
    rw [Int.add_mul, Int.mul_add, Int.mul_add]
    have a1 : p * 4294967296 * (r * 4294967296) = p * r * 18446744073709551616 := by rw [Int.mul_assoc, Int.mul_comm r, ← Int.mul_assoc 4294967296, Int.mul_comm _ r, ← Int.mul_assoc]; omega
    have a2 : p * 4294967296 * s = p * s * 4294967296 := by rw [Int.mul_assoc, Int.mul_comm 4294967296 s, ← Int.mul_assoc]
    have a3 : q * (r * 4294967296) = q * r * 4294967296 := by rw [Int.mul_assoc]
    rw [a1, a2, a3]; omega
  unfold bits_Mul64.f
  rw [e1, e2, e3, e4, hx]
  generalize p * r = A at *
  generalize p * s = B at *
  generalize q * r = C at *
  generalize q * s = D at *
  clear e1 e2 e3 e4 hx ha hb
  rw [uw (a := D) (by omega) (by omega), uw (a := B) (by omega) (by omega), uw (a := A) (by omega) (by omega), uw (a := C) (by omega) (by omega), uw (a := B + D / 4294967296) (by omega) (by omega), and32 (a := B + D / 4294967296) (by omega) (by omega), uw (a := A + _) (by omega) (by omega), uw (a := (B + D / 4294967296) % 4294967296 + C) (by omega) (by omega), uw (by omega) (by omega), IntKind.wrap_u64]
  congr 2
  omega

theorem u64_eq (a : Int) : IntKind.u64.wrap a = a % 18446744073709551616 := by rw [IntKind.wrap_u64]

theorem or_add {a b : Int} (n : Nat) (ha : 0 ≤ a) (hb : 0 ≤ b ∧ b < 2 ^ n) (h : a * 2 ^ n + b < 18446744073709551616) : Go.bits .or .u64 (a * 2 ^ n) b = a * 2 ^ n + b := by
  obtain ⟨A, rfl⟩ := Int.eq_ofNat_of_zero_le ha
  obtain ⟨B, rfl⟩ := Int.eq_ofNat_of_zero_le hb.1
  have e : (A : Int) * 2 ^ n = ((A * 2 ^ n : Nat) : Int) := by simp
  have hb2 : B < 2 ^ n := by
    have := hb.2
    rw [show (2 : Int) ^ n = ((2 ^ n : Nat) : Int) from by simp] at this
    omega
  rw [e] at h ⊢
  have o := Nat.shiftLeft_add_eq_or_of_lt hb2 A
  rw [Nat.shiftLeft_eq] at o
  generalize A * 2 ^ n = C at *
  show IntKind.u64.wrap ((BitVec.ofInt 64 (C : Int) ||| BitVec.ofInt 64 (B : Int)).toNat : Int) = _
  rw [BitVec.toNat_or, BitVec.toNat_ofInt, BitVec.toNat_ofInt]
  rw [show ((C : Int) % ((2 ^ 64 : Nat) : Int)).toNat = C from by omega, show ((B : Int) % ((2 ^ 64 : Nat) : Int)).toNat = B from by omega, ← o, u64_eq]
  omega
def Wy (v b : Int) : Int := v / b * (v % b) + b * (v / b * (v / b - 1) / 2)
def stp (v b : Int) : Int := if v < 1 ∨ b < 1 then 0 else if Wy v b > 9223372036854775807 then 9223372036854775807 else Wy v b
theorem or_comm64 (a b : Int) : Go.bits .or .u64 a b = Go.bits .or .u64 b a := by
  show Go.IntKind.u64.wrap ((BitVec.ofInt 64 a ||| BitVec.ofInt 64 b).toNat : Int) = Go.IntKind.u64.wrap ((BitVec.ofInt 64 b ||| BitVec.ofInt 64 a).toNat : Int)
  rw [BitVec.or_comm]
theorem half_or {hi lo : Int} (h : 0 ≤ hi ∧ hi ≤ 1) (l : 0 ≤ lo ∧ lo < 18446744073709551616) : Go.bits .or .u64 (lo / 2) (IntKind.u64.wrap (hi * 9223372036854775808)) = (hi * 18446744073709551616 + lo) / 2 := by
  have e : (2 : Int) ^ 63 = 9223372036854775808 := by decide
  have := or_add (a := hi) (b := lo / 2) 63 h.1 ⟨by omega, by rw [e]; omega⟩ (by rw [e]; omega)
  rw [e] at this
  rw [uw (a := hi * 9223372036854775808) (by omega) (by omega), or_comm64, this]
  omega
theorem even_q (n : Int) : ∃ T, n * (n - 1) = 2 * T := by
  rcases Int.emod_two_eq n with h | h
  · refine ⟨n / 2 * (n - 1), ?_⟩
    rw [← Int.mul_assoc, show 2 * (n / 2) = n by omega]
  · refine ⟨n * ((n - 1) / 2), ?_⟩
    rw [← Int.mul_assoc, Int.mul_comm 2 n, Int.mul_assoc, show 2 * ((n - 1) / 2) = n - 1 by omega]
theorem stop_j2 {b n r T : Int} (hn : 0 ≤ n ∧ n < 9223372036854775808) (hr : 0 ≤ r ∧ r < 9223372036854775808) (hb : 1 ≤ b ∧ b < 9223372036854775808) (hT : 0 ≤ T ∧ T < 18446744073709551616) :
    Ev (fun k => guard_Stop.j2 k b n r T) (if n * r + b * T > 9223372036854775807 then 9223372036854775807 else n * r + b * T) := by
  have m1 := mul64_f (a := n) (b := r) ⟨hn.1, by omega⟩ ⟨hr.1, by omega⟩
  have m2 := mul64_f (a := b) (b := T) ⟨by omega, by omega⟩ hT
  have p1 : 0 ≤ n * r := Int.mul_nonneg hn.1 hr.1
  have p2 : 0 ≤ b * T := Int.mul_nonneg (by omega) hT.1
  have u := uw (a := b) (by omega) (by omega)
  generalize n * r = A at *
  generalize b * T = B at *
  refine Ev.step (f := fun _ => some (if A + B > 9223372036854775807 then 9223372036854775807 else A + B)) (fun k => ?_) (Ev.now _)
  rw [guard_Stop.j2, u, m1, m2]
  show (if A / 18446744073709551616 > 0 then some 9223372036854775807 else if B / 18446744073709551616 > 0 then some 9223372036854775807 else if (max (A % 18446744073709551616) 0 + max (B % 18446744073709551616) 0) / 18446744073709551616 > 0 then some 9223372036854775807 else if (max (A % 18446744073709551616) 0 + max (B % 18446744073709551616) 0) % 18446744073709551616 > 9223372036854775807 then some 9223372036854775807 else some (wrap64 ((max (A % 18446744073709551616) 0 + max (B % 18446744073709551616) 0) % 18446744073709551616))) = _
  by_cases g : A + B > 9223372036854775807
  · rw [if_pos g]
    (repeat' split) <;> first | rfl | (exfalso; omega)
  · rw [if_neg g, if_neg (by omega), if_neg (by omega), if_neg (by omega), if_neg (by omega)]
    congr 1
    unfold wrap64
    omega
theorem stop_ev {v b : Int} (hv : v ≤ 9223372036854775807) (hb : b ≤ 9223372036854775807) : Ev (fun k => guard_Stop.f k v b) (stp v b) := by
  by_cases c1 : v < 1
  · refine Ev.congr (fun k => by rw [guard_Stop.f, if_pos c1]) ?_
    exact Ev.step (fun k => by rw [guard_Stop.j0, if_pos rfl]) (ev_eq (by unfold stp; rw [if_pos (.inl c1)]) (Ev.now 0))
  by_cases c2 : b < 1
  · refine Ev.congr (fun k => by rw [guard_Stop.f, if_neg c1, decide_eq_true c2]) ?_
    exact Ev.step (fun k => by rw [guard_Stop.j0, if_pos rfl]) (ev_eq (by unfold stp; rw [if_pos (.inr c2)]) (Ev.now 0))
  have u1 : IntKind.u64.wrap v = v := uw (by omega) (by omega)
  have u2 : IntKind.u64.wrap b = b := uw (by omega) (by omega)
  have t1 : Int.tdiv v b = v / b := Int.tdiv_eq_ediv_of_nonneg (by omega)
  have t2 : Int.tmod v b = v % b := Int.tmod_eq_emod_of_nonneg (by omega)
  have n0 : 0 ≤ v / b := Int.ediv_nonneg (by omega) (by omega)
  have n1 : v / b ≤ v := Int.ediv_le_self _ (by omega)
  have r0 : 0 ≤ v % b := Int.emod_nonneg _ (by omega)
  have r1 : v % b < b := Int.emod_lt_of_pos _ (by omega)
  have un : IntKind.u64.wrap (v / b) = v / b := uw n0 (by omega)
  refine Ev.congr (fun k => by rw [guard_Stop.f, if_neg c1, decide_eq_false c2]) ?_
  unfold stp Wy
  rw [if_neg (by omega)]
  refine Ev.step (f := fun k => if v / b = 0 then some 0 else (bits_Mul64.f (v / b) (IntKind.u64.wrap (v / b - 1))).bind fun bt => if bt.1 > 0 then guard_Stop.j1 k b (v / b) (v % b) (IntKind.u64.wrap (Int.tdiv (IntKind.u64.wrap (v / b * IntKind.u64.wrap (v / b - 1))) 2)) bt.1 bt.2 true else guard_Stop.j1 k b (v / b) (v % b) (IntKind.u64.wrap (Int.tdiv (IntKind.u64.wrap (v / b * IntKind.u64.wrap (v / b - 1))) 2)) bt.1 bt.2 (decide (bt.2 > 9223372036854775807))) (fun k => by rw [guard_Stop.j0, if_neg (by decide), u1, u2, if_neg (by omega), t1, t2, un]) ?_
  clear t1 t2 u1 u2
  generalize v / b = n at *
  generalize v % b = r at *
  by_cases z : n = 0
  · subst z
    refine Ev.congr (fun k => by rw [if_pos rfl]) (ev_eq ?_ (Ev.now 0))
    simp
  have w1 : IntKind.u64.wrap (n - 1) = n - 1 := uw (by omega) (by omega)
  have m := mul64_f (a := n) (b := n - 1) ⟨n0, by omega⟩ ⟨by omega, by omega⟩
  obtain ⟨T, hT⟩ := even_q n
  have q0 : 0 ≤ n * (n - 1) := Int.mul_nonneg n0 (by omega)
  have T0 : n * (n - 1) / 2 = T := by omega
  refine Ev.congr (fun k => by rw [if_neg z, w1, m]) ?_
  rw [T0]
  rw [hT] at m q0
  have fin : T < 18446744073709551616 → Ev (fun k => guard_Stop.j2 k b n r T) (if n * r + b * T > 9223372036854775807 then 9223372036854775807 else n * r + b * T) := fun h => stop_j2 ⟨n0, by omega⟩ ⟨r0, by omega⟩ ⟨by omega, by omega⟩ ⟨by omega, h⟩
  have big : 2 * T / 18446744073709551616 > 1 → (if n * r + b * T > 9223372036854775807 then (9223372036854775807 : Int) else n * r + b * T) = 9223372036854775807 := by
    intro h
    have p1 : 0 ≤ n * r := Int.mul_nonneg n0 r0
    have p2 : 1 * T ≤ b * T := Int.mul_le_mul_of_nonneg_right (by omega) (by omega)
    rw [if_pos (by omega)]
  have yes : ∀ P, Ev (fun k => guard_Stop.j1 k b n r P (2 * T / 18446744073709551616) (2 * T % 18446744073709551616) true) (if n * r + b * T > 9223372036854775807 then 9223372036854775807 else n * r + b * T) := by
    intro P
    by_cases h : 2 * T / 18446744073709551616 > 1
    · rw [big h]
      exact Ev.step (fun k => by rw [guard_Stop.j1, if_pos rfl, if_pos h]) (Ev.now _)
    · refine Ev.step (fun k => by rw [guard_Stop.j1, if_pos rfl, if_neg h, half_or ⟨by omega, by omega⟩ ⟨by omega, by omega⟩, show (2 * T / 18446744073709551616 * 18446744073709551616 + 2 * T % 18446744073709551616) / 2 = T by omega]) (fin (by omega))
  rw [hT]
  refine Ev.bind (f := fun k (bt : Int × Int) => if bt.1 > 0 then guard_Stop.j1 k b n r (IntKind.u64.wrap (Int.tdiv (IntKind.u64.wrap (2 * T)) 2)) bt.1 bt.2 true else guard_Stop.j1 k b n r (IntKind.u64.wrap (Int.tdiv (IntKind.u64.wrap (2 * T)) 2)) bt.1 bt.2 (decide (bt.2 > 9223372036854775807))) (Ev.now (2 * T / 18446744073709551616, 2 * T % 18446744073709551616)) ?_
  dsimp only
  by_cases h : 2 * T / 18446744073709551616 > 0
  · exact Ev.congr (fun k => by rw [if_pos h]) (yes _)
  · by_cases g : 2 * T % 18446744073709551616 > 9223372036854775807
    · exact Ev.congr (fun k => by rw [if_neg h, decide_eq_true g]) (yes _)
    · refine Ev.congr (fun k => by rw [if_neg h, decide_eq_false g]) ?_
      have e : IntKind.u64.wrap (Int.tdiv (IntKind.u64.wrap (2 * T)) 2) = T := by
        rw [uw (a := 2 * T) (by omega) (by omega), Int.tdiv_eq_ediv_of_nonneg (by omega), uw (by omega) (by omega)]
        omega
      exact Ev.step (fun k => by rw [guard_Stop.j1, if_neg (by decide), e]) (fin (by omega))

theorem awake_ev : Ev (fun k => windhoverlaw18_awake.f k) true := by
  have h : windhoverlaw18_awake.f 60 = some true := by decide +kernel
  exact Ev.of (fun k => windhoverlaw18_awake.mono k) h
theorem mid_eq {lo hi : Int} (h0 : 0 ≤ lo) (hl : lo < hi) (h1 : hi ≤ 9223372036854775807) : wrap64 (lo + (wrap64 (Int.tdiv (wrap64 (hi - lo)) 2))) = lo + (hi - lo) / 2 := by
  have e1 : wrap64 (hi - lo) = hi - lo := by unfold wrap64; omega
  have e2 : Int.tdiv (hi - lo) 2 = (hi - lo) / 2 := Int.tdiv_eq_ediv_of_nonneg (by omega)
  have e3 : wrap64 ((hi - lo) / 2) = (hi - lo) / 2 := by unfold wrap64; omega
  rw [e1, e2, e3]
  unfold wrap64
  omega
theorem bis_ev {s : Bool} {d : List Int} {m : Int} (ht : W 200 s d (2 * m)) : ∀ (n : Nat) (lo hi : Int), 0 ≤ lo → lo ≤ m → m ≤ hi → hi ≤ 9223372036854775807 → (hi - lo).toNat ≤ n → Ev (fun k => windhoverref18_Stop.l0 k lo hi s d) m
  | 0, lo, hi, h0, h1, h2, h3, hn => by
    have e : lo = m := by omega
    refine Ev.step (fun k => by rw [windhoverref18_Stop.l0, if_neg (by omega)]) ?_
    rw [e]
    exact Ev.now _
  | n + 1, lo, hi, h0, h1, h2, h3, hn => by
    by_cases c : lo < hi
    · obtain ⟨b1, d1, o1, w1⟩ := of_ev (lo + (hi - lo) / 2) (by omega) (by omega)
      obtain ⟨b2, d2, o2, w2⟩ := plus_ev w1 w1 (by decide)
      obtain ⟨q, o3, sg⟩ := cmp_ev (W.mono w2 (show 3 + 1 ≤ 200 by decide)) ht (by decide)
      refine Ev.step (fun k => by rw [windhoverref18_Stop.l0, if_pos c, mid_eq h0 c h3]) ?_
      refine Ev.bind o1 ?_
      refine Ev.bind o2 ?_
      refine Ev.bind o3 ?_
      have e4 : wrap64 (lo + (hi - lo) / 2 + 1) = lo + (hi - lo) / 2 + 1 := by unfold wrap64; omega
      by_cases g : q ≥ 0
      · have ge : m ≤ lo + (hi - lo) / 2 := by rcases sg with h | h | h <;> omega
        exact Ev.congr (fun k => by rw [if_pos g]) (bis_ev ht n lo (lo + (hi - lo) / 2) h0 h1 ge (by omega) (by omega))
      · have lt : lo + (hi - lo) / 2 < m := by rcases sg with h | h | h <;> omega
        exact Ev.congr (fun k => by rw [if_neg g, e4]) (bis_ev ht n (lo + (hi - lo) / 2 + 1) hi (by omega) (by omega) h2 h3 (by omega))
    · have e : lo = m := by omega
      refine Ev.step (fun k => by rw [windhoverref18_Stop.l0, if_neg c]) ?_
      rw [e]
      exact Ev.now _
theorem wy_top {v b : Int} (hb : 1 ≤ b) : v / b * v + v / b * v - b * (v / b * (v / b + 1)) = 2 * Wy v b := by
  have e := Int.emod_add_mul_ediv v b
  obtain ⟨T, hT⟩ := even_q (v / b)
  unfold Wy
  rw [hT, show 2 * T / 2 = T by omega]
  have k : v / b * v = v / b * (v % b) + b * (v / b * (v / b)) := by
    have : v / b * v = v / b * (v % b + b * (v / b)) := by rw [e]
    rw [this, Int.mul_add]
    congr 1
    rw [Int.mul_left_comm]
  have k2 : b * (v / b * (v / b + 1)) = b * (v / b * (v / b)) + b * (v / b) := by rw [Int.mul_add, Int.mul_one, Int.mul_add]
  have k3 : b * (v / b * (v / b)) - b * (v / b) = 2 * (b * T) := by
    rw [← Int.mul_sub, Int.mul_left_comm]
    congr 1
    rw [← hT, Int.mul_sub, Int.mul_one]
  rw [k, k2]
  generalize v / b * (v % b) = P at *
  generalize b * (v / b * (v / b)) = Q at *
  generalize b * (v / b) = R at *
  generalize b * T = S at *
  clear e hT k k2
  omega
theorem rstop_ev {v b : Int} (hv : v ≤ 9223372036854775807) (hb : b ≤ 9223372036854775807) : Ev (fun k => windhoverref18_Stop.f k v b) (stp v b) := by
  by_cases c1 : v < 1
  · refine Ev.congr (fun k => by rw [windhoverref18_Stop.f, if_pos c1]) ?_
    exact Ev.step (fun k => by rw [windhoverref18_Stop.j0, if_pos rfl]) (ev_eq (by unfold stp; rw [if_pos (.inl c1)]) (Ev.now 0))
  by_cases c2 : b < 1
  · refine Ev.congr (fun k => by rw [windhoverref18_Stop.f, if_neg c1, decide_eq_true c2]) ?_
    exact Ev.step (fun k => by rw [windhoverref18_Stop.j0, if_pos rfl]) (ev_eq (by unfold stp; rw [if_pos (.inr c2)]) (Ev.now 0))
  refine Ev.congr (fun k => by rw [windhoverref18_Stop.f, if_neg c1, decide_eq_false c2]) ?_
  have t1 : Int.tdiv v b = v / b := Int.tdiv_eq_ediv_of_nonneg (by omega)
  have n0 : 0 ≤ v / b := Int.ediv_nonneg (by omega) (by omega)
  have n1 : v / b ≤ v := Int.ediv_le_self _ (by omega)
  have t2 : wrap64 (v / b) = v / b := by unfold wrap64; omega
  have top := wy_top (v := v) (b := b) (by omega)
  have r0 : 0 ≤ v % b := Int.emod_nonneg _ (by omega)
  have wy0 : 0 ≤ Wy v b := by
    obtain ⟨T, hT⟩ := even_q (v / b)
    unfold Wy
    rw [hT, show 2 * T / 2 = T by omega]
    have hT0 : 0 ≤ T := by
      have : 0 ≤ v / b * (v / b - 1) := by
        by_cases z : v / b = 0
        · rw [z]; decide
        · exact Int.mul_nonneg n0 (by omega)
      omega
    exact Int.add_nonneg (Int.mul_nonneg n0 r0) (Int.mul_nonneg (by omega) hT0)
  refine Ev.step (fun k => by rw [windhoverref18_Stop.j0, if_neg (by decide), if_neg (show ¬ b = 0 by omega), t1, t2]) ?_
  obtain ⟨b0, d0, o0, w0⟩ := of_ev (v / b) (by omega) (by omega)
  obtain ⟨b1, d1, o1, w1⟩ := of_ev v (by omega) (by omega)
  obtain ⟨b2, d2, o2, w2⟩ := times_ev w0 w1 (by decide) (by decide)
  obtain ⟨b5, d5, o5, w5⟩ := of_ev 1 (by decide) (by decide)
  obtain ⟨b6, d6, o6, w6⟩ := plus_ev w0 w5 (by decide)
  obtain ⟨b7, d7, o7, w7⟩ := times_ev w0 w6 (by decide) (by decide)
  obtain ⟨b8, d8, o8, w8⟩ := of_ev b (by omega) hb
  obtain ⟨b9, d9, o9, w9⟩ := times_ev w8 w7 (by decide) (by decide)
  obtain ⟨b10, d10, o10, w10⟩ := plus_ev w2 w2 (by decide)
  obtain ⟨b11, d11, o11, w11⟩ := minus_ev (W.mono w10 (show _ ≤ 100 by decide)) (W.mono w9 (show _ ≤ 100 by decide)) (by decide)
  obtain ⟨b12, d12, o12, w12⟩ := of_ev 9223372036854775807 (by decide) (by decide)
  obtain ⟨b14, d14, o14, w14⟩ := plus_ev w12 w12 (by decide)
  rw [top] at w11
  have w11' := W.mono w11 (show 100 + 1 ≤ 200 by decide)
  obtain ⟨q, oc, sg⟩ := cmp_ev w11' (W.mono w14 (show 3 + 1 ≤ 200 by decide)) (by decide)
  refine Ev.bind o0 ?_
  refine Ev.bind o1 ?_
  refine Ev.bind o2 ?_
  refine Ev.bind o0 ?_
  refine Ev.bind o0 ?_
  refine Ev.bind o5 ?_
  refine Ev.bind o6 ?_
  refine Ev.bind o7 ?_
  refine Ev.bind o8 ?_
  refine Ev.bind o9 ?_
  refine Ev.bind o10 ?_
  refine Ev.bind o11 ?_
  refine Ev.bind o12 ?_
  refine Ev.bind o12 ?_
  refine Ev.bind o14 ?_
  refine Ev.bind oc ?_
  unfold stp
  rw [if_neg (by omega)]
  clear top t1 t2 n0 n1 r0
  by_cases g : q ≥ 0
  · refine Ev.congr (fun k => by rw [if_pos g]) (ev_eq ?_ (Ev.now 9223372036854775807))
    have : 9223372036854775807 ≤ Wy v b := by rcases sg with h | h | h <;> omega
    by_cases z : Wy v b > 9223372036854775807
    · rw [if_pos z]
    · rw [if_neg z]; omega
  · have : Wy v b < 9223372036854775807 := by rcases sg with h | h | h <;> omega
    refine Ev.congr (fun k => by rw [if_neg g]) ?_
    rw [if_neg (by omega)]
    exact bis_ev w11' _ 0 9223372036854775807 (by decide) wy0 (by omega) (by decide) (Nat.le_refl _)
theorem GuardStops : windhoverlaw18_GuardStops.Pure := by
  intro v b hv hb
  have V := I64_of hv
  have B := I64_of hb
  unfold I64 at V B
  apply Ev.rounds
  refine Ev.congr (fun k => by rw [windhoverlaw18_GuardStops.f]) ?_
  refine Ev.bind (stop_ev V.2 B.2) ?_
  refine Ev.bind (rstop_ev V.2 B.2) ?_
  exact Ev.congr (fun k => by rw [if_pos rfl]) (Ev.bind awake_ev (Ev.now true))

end Go.Proofs.Ytfpggoiopjlkiaa.Pure
