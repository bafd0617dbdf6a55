/- The law FixShares: a product shared out is the document's quotient, rounded down and kept within an int, for every three ints. -/
import Derived.Test.YtmjhhcalcpodjaaPFixSharesx11
namespace Go.Proofs.Ytmjhhcalcpodjaa.Pure
open Go.RowKit Go.Proofs.Ytmjhhcalcpodjaa.PFixShares Go.Proofs.YtmjhhcalcpodjaaW.PrintWords Go.Proofs.YtmjhhcalcpodjaaW.PrintLast

set_option linter.unusedVariables false
set_option linter.unusedSimpArgs false
theorem Ev.now {α : Type} (r : α) : Ev (fun _ => some r) r := ⟨0, fun _ _ => rfl⟩

/-! ### Whole numbers of any length, by digits of 2^30: the plain lists -/
def V : List Int → Int
  | [] => 0
  | d :: ds => d + 1073741824 * V ds
def Dg : List Int → Prop
  | [] => True
  | d :: ds => (0 ≤ d ∧ d < 1073741824) ∧ Dg ds
def Trm : List Int → Prop
  | [] => True
  | d :: ds => (ds = [] → d ≠ 0) ∧ Trm ds
theorem V_nonneg : ∀ l, Dg l → 0 ≤ V l
  | [], _ => Int.le_refl _
  | d :: ds, h => by have := V_nonneg ds h.2; have := h.1; simp only [V]; omega
theorem V_pos : ∀ l, Dg l → Trm l → l ≠ [] → 0 < V l
  | [], _, _, h => absurd rfl h
  | d :: ds, h, t, _ => by
    have hn := V_nonneg ds h.2
    have := h.1
    simp only [V]
    by_cases e : ds = []
    · have := t.1 e; omega
    · have := V_pos ds h.2 t.2 e; omega
theorem V_lt_len : ∀ a b, Dg a → Dg b → Trm b → a.length < b.length → V a < V b
  | [], b, _, hb, tb, h => V_pos b hb tb (by intro e; simp [e] at h)
  | x :: xs, [], _, _, _, h => by simp at h
  | x :: xs, y :: ys, ha, hb, tb, h => by
    have := V_lt_len xs ys ha.2 hb.2 tb.2 (by simpa using h)
    have := ha.1; have := hb.1
    simp only [V]; omega
def Sg (x y r : Int) : Prop := (r = -1 ∧ x < y) ∨ (r = 0 ∧ x = y) ∨ (r = 1 ∧ x > y)
def cmpL : List Int → List Int → Int
  | x :: xs, y :: ys => if cmpL xs ys ≠ 0 then cmpL xs ys else if x < y then -1 else if x > y then 1 else 0
  | _, _ => 0
theorem cmpL_spec : ∀ a b, Dg a → Dg b → a.length = b.length → Sg (V a) (V b) (cmpL a b)
  | [], [], _, _, _ => by simp [cmpL, Sg]
  | [], y :: ys, _, _, h => by simp at h
  | x :: xs, [], _, _, h => by simp at h
  | x :: xs, y :: ys, ha, hb, h => by
    have ih := cmpL_spec xs ys ha.2 hb.2 (by simpa using h)
    have := ha.1; have := hb.1
    unfold Sg at *
    simp only [V, cmpL]
    by_cases e : cmpL xs ys ≠ 0
    · rw [if_pos e]; omega
    · rw [if_neg e]
      by_cases l : x < y
      · rw [if_pos l]; omega
      · rw [if_neg l]
        by_cases g : x > y
        · rw [if_pos g]; omega
        · rw [if_neg g]; omega
theorem cmpL_drop : ∀ (n : Nat) (a b : List Int), cmpL (a.drop n) (b.drop n) ≠ 0 → cmpL a b = cmpL (a.drop n) (b.drop n)
  | 0, _, _, _ => rfl
  | n + 1, [], b, h => by simp [cmpL] at h
  | n + 1, x :: xs, [], h => by simp [cmpL] at h
  | n + 1, x :: xs, y :: ys, h => by
    have ih := cmpL_drop n xs ys h
    simp only [List.drop_succ_cons] at *
    rw [← ih] at h ⊢
    simp only [cmpL, if_pos h]
def trimL : List Int → List Int
  | [] => []
  | d :: ds => if trimL ds = [] then (if d = 0 then [] else [d]) else d :: trimL ds
theorem V_trimL : ∀ l, V (trimL l) = V l
  | [] => rfl
  | d :: ds => by
    have ih := V_trimL ds
    unfold trimL
    by_cases e : trimL ds = []
    · rw [if_pos e]
      rw [e] at ih
      simp only [V] at ih
      by_cases z : d = 0
      · rw [if_pos z]; simp only [V]; omega
      · rw [if_neg z]; simp only [V]; omega
    · rw [if_neg e]; simp only [V]; omega
theorem Dg_trimL : ∀ l, Dg l → Dg (trimL l)
  | [], _ => trivial
  | d :: ds, h => by
    have ih := Dg_trimL ds h.2
    unfold trimL
    split
    · split
      · exact trivial
      · exact ⟨h.1, trivial⟩
    · exact ⟨h.1, ih⟩
theorem Trm_trimL : ∀ l, Trm (trimL l)
  | [] => trivial
  | d :: ds => by
    have ih := Trm_trimL ds
    unfold trimL
    split
    · split
      · exact trivial
      · next z => exact ⟨fun _ => z, trivial⟩
    · next e => exact ⟨fun q => absurd q e, ih⟩
theorem trimL_len : ∀ l, (trimL l).length ≤ l.length
  | [] => Nat.le_refl _
  | d :: ds => by
    have ih := trimL_len ds
    unfold trimL
    split
    · split <;> simp
    · simpa using ih
theorem trimL_snoc : ∀ (xs : List Int) (x : Int), trimL (xs ++ [x]) = if x = 0 then trimL xs else xs ++ [x]
  | [], x => by simp [trimL]
  | d :: ds, x => by
    have ih := trimL_snoc ds x
    simp only [List.cons_append, trimL, ih]
    by_cases z : x = 0
    · simp only [if_pos z]
    · simp only [if_neg z]; simp
def addL : List Int → List Int → Int → List Int
  | [], [], c => if c > 0 then [c] else []
  | x :: xs, [], c => ((c + x) % 1073741824) :: addL xs [] ((c + x) / 1073741824)
  | [], y :: ys, c => ((c + y) % 1073741824) :: addL [] ys ((c + y) / 1073741824)
  | x :: xs, y :: ys, c => ((c + x + y) % 1073741824) :: addL xs ys ((c + x + y) / 1073741824)
theorem addL_spec : ∀ a b c, Dg a → Dg b → 0 ≤ c → c ≤ 1 → V (addL a b c) = V a + V b + c ∧ Dg (addL a b c) ∧ (addL a b c).length ≤ max a.length b.length + 1
  | [], [], c, _, _, h0, h1 => by
    unfold addL
    by_cases h : c > 0
    · rw [if_pos h]; refine ⟨by simp [V], ⟨by omega, trivial⟩, by simp⟩
    · rw [if_neg h]; refine ⟨by simp [V]; omega, trivial, by simp⟩
  | x :: xs, [], c, ha, _, h0, h1 => by
    have := ha.1
    obtain ⟨i1, i2, i3⟩ := addL_spec xs [] ((c + x) / 1073741824) ha.2 trivial (by omega) (by omega)
    unfold addL
    refine ⟨by simp only [V] at *; omega, ⟨by omega, i2⟩, by simp at i3 ⊢; omega⟩
  | [], y :: ys, c, _, hb, h0, h1 => by
    have := hb.1
    obtain ⟨i1, i2, i3⟩ := addL_spec [] ys ((c + y) / 1073741824) trivial hb.2 (by omega) (by omega)
    unfold addL
    refine ⟨by simp only [V] at *; omega, ⟨by omega, i2⟩, by simp at i3 ⊢; omega⟩
  | x :: xs, y :: ys, c, ha, hb, h0, h1 => by
    have := ha.1; have := hb.1
    obtain ⟨i1, i2, i3⟩ := addL_spec xs ys ((c + x + y) / 1073741824) ha.2 hb.2 (by omega) (by omega)
    unfold addL
    refine ⟨by simp only [V] at *; omega, ⟨by omega, i2⟩, by simp at i3 ⊢; omega⟩
def lessL : List Int → List Int → Int → List Int
  | [], _, _ => []
  | x :: xs, [], r => if x - r < 0 then (x - r + 1073741824) :: lessL xs [] 1 else (x - r) :: lessL xs [] 0
  | x :: xs, y :: ys, r => if x - r - y < 0 then (x - r - y + 1073741824) :: lessL xs ys 1 else (x - r - y) :: lessL xs ys 0
theorem lessL_spec : ∀ a b r, Dg a → Dg b → b.length ≤ a.length → 0 ≤ r → r ≤ 1 → V b + r ≤ V a → V (lessL a b r) = V a - V b - r ∧ Dg (lessL a b r) ∧ (lessL a b r).length = a.length
  | [], [], r, _, _, _, h0, h1, h => by simp only [V] at *; unfold lessL; exact ⟨by simp only [V]; omega, trivial, rfl⟩
  | [], y :: ys, r, _, _, hl, _, _, _ => by simp at hl
  | x :: xs, [], r, ha, _, _, h0, h1, h => by
    have := ha.1
    have hn := V_nonneg xs ha.2
    simp only [V] at h
    unfold lessL
    by_cases s : x - r < 0
    · obtain ⟨i1, i2, i3⟩ := lessL_spec xs [] 1 ha.2 trivial (Nat.zero_le _) (by omega) (by omega) (by simp only [V]; omega)
      rw [if_pos s]; refine ⟨by simp only [V] at *; omega, ⟨by omega, i2⟩, by simp [i3]⟩
    · obtain ⟨i1, i2, i3⟩ := lessL_spec xs [] 0 ha.2 trivial (Nat.zero_le _) (by omega) (by omega) (by simp only [V]; omega)
      rw [if_neg s]; refine ⟨by simp only [V] at *; omega, ⟨by omega, i2⟩, by simp [i3]⟩
  | x :: xs, y :: ys, r, ha, hb, hl, h0, h1, h => by
    have := ha.1; have := hb.1
    have hl' : ys.length ≤ xs.length := by simpa using hl
    simp only [V] at h
    unfold lessL
    by_cases s : x - r - y < 0
    · obtain ⟨i1, i2, i3⟩ := lessL_spec xs ys 1 ha.2 hb.2 hl' (by omega) (by omega) (by omega)
      rw [if_pos s]; refine ⟨by simp only [V] at *; omega, ⟨by omega, i2⟩, by simp [i3]⟩
    · obtain ⟨i1, i2, i3⟩ := lessL_spec xs ys 0 ha.2 hb.2 hl' (by omega) (by omega) (by omega)
      rw [if_neg s]; refine ⟨by simp only [V] at *; omega, ⟨by omega, i2⟩, by simp [i3]⟩
theorem mul_bd {x y : Int} (hx : 0 ≤ x ∧ x < 1073741824) (hy : 0 ≤ y ∧ y < 1073741824) : 0 ≤ x * y ∧ x * y ≤ 1152921502459363329 := by
  refine ⟨Int.mul_nonneg hx.1 hy.1, ?_⟩
  have := Int.mul_le_mul (show x ≤ 1073741823 by omega) (show y ≤ 1073741823 by omega) hy.1 (by decide)
  omega
def mulL : List Int → List Int → Int → Int → List Int
  | [], _, _, _ => []
  | o :: os, [], _, c => (o + c) :: os
  | o :: os, y :: ys, x, c => ((o + x * y + c) % 1073741824) :: mulL os ys x ((o + x * y + c) / 1073741824)
theorem mulL_len : ∀ o b x c, (mulL o b x c).length = o.length
  | [], _, _, _ => by unfold mulL; rfl
  | o :: os, [], _, _ => by unfold mulL; rfl
  | o :: os, y :: ys, x, c => by unfold mulL; simp [mulL_len os ys]
def AllZ : List Int → Prop
  | [] => True
  | d :: ds => d = 0 ∧ AllZ ds
theorem mulL_spec : ∀ o b x c, Dg o → Dg b → b.length < o.length → AllZ (o.drop b.length) → 0 ≤ x ∧ x < 1073741824 → 0 ≤ c ∧ c < 1073741824 →
    V (mulL o b x c) = V o + x * V b + c ∧ Dg (mulL o b x c) ∧ AllZ ((mulL o b x c).drop (b.length + 1))
  | [], _, _, _, _, _, h, _, _, _ => by simp at h
  | o :: os, [], x, c, ho, _, _, hz, hx, hc => by
    simp only [List.length_nil, List.drop_zero, AllZ] at hz
    unfold mulL
    refine ⟨by simp [V]; omega, ⟨by omega, ho.2⟩, by simpa using hz.2⟩
  | o :: os, y :: ys, x, c, ho, hb, hl, hz, hx, hc => by
    have hm := mul_bd hx hb.1
    have := ho.1
    obtain ⟨i1, i2, i3⟩ := mulL_spec os ys x ((o + x * y + c) / 1073741824) ho.2 hb.2 (by simpa using hl) (by simpa using hz) hx (by omega)
    unfold mulL
    refine ⟨?_, ⟨by omega, i2⟩, by simpa using i3⟩
    simp only [V, i1]
    rw [Int.mul_add x y, Int.mul_left_comm x 1073741824 (V ys)]
    generalize x * V ys = t
    generalize x * y = u at *
    omega
def timesL : List Int → List Int → List Int → List Int
  | o, [], _ => o
  | o, x :: xs, b => match mulL o b x 0 with
    | [] => []
    | h :: t => h :: timesL t xs b
theorem timesL_spec : ∀ a b o, Dg a → Dg b → Dg o → o.length = a.length + b.length → AllZ (o.drop b.length) → V (timesL o a b) = V o + V a * V b ∧ Dg (timesL o a b) ∧ (timesL o a b).length = o.length
  | [], b, o, _, _, ho, _, _ => by unfold timesL; exact ⟨by simp [V], ho, rfl⟩
  | x :: xs, b, o, ha, hb, ho, hl, hz => by
    have hl1 : b.length < o.length := by simp at hl; omega
    obtain ⟨i1, i2, i3⟩ := mulL_spec o b x 0 ho hb hl1 hz ha.1 (by decide)
    have hlen := mulL_len o b x 0
    unfold timesL
    generalize mulL o b x 0 = m at *
    cases m with
    | nil => simp at hlen; omega
    | cons h t =>
      obtain ⟨j1, j2, j3⟩ := timesL_spec xs b t ha.2 hb i2.2 (by simp at hl hlen; omega) (by simpa using i3)
      refine ⟨?_, ⟨i2.1, j2⟩, by simp at hlen ⊢; omega⟩
      simp only [V] at i1 ⊢
      rw [j1, Int.add_mul, Int.mul_assoc 1073741824 (V xs) (V b)]
      generalize V xs * V b = q
      generalize x * V b = u at *
      omega

/-! ### The printed functions on whole numbers do what the plain lists say -/
theorem wsm {a : Int} (h1 : -9223372036854775808 ≤ a) (h2 : a ≤ 9223372036854775807) : wrap64 a = a := by unfold wrap64; omega
theorem rd_nat (l : List Int) (i : Nat) : rd l (i : Int) = l.getD i 0 := by simp [rd]
theorem drop_rd (l : List Int) (i : Nat) (h : i < l.length) : l.drop i = rd l (i : Int) :: l.drop (i + 1) := by
  rw [rd_nat, List.drop_eq_getElem_cons h]
  simp [List.getD_eq_getElem?_getD, h]
theorem Dg_drop : ∀ (l : List Int) (i : Nat), Dg l → Dg (l.drop i)
  | [], _, _ => by simp [Dg]
  | d :: ds, 0, h => h
  | d :: ds, i + 1, h => Dg_drop ds i h.2
theorem Dg_rd {l : List Int} (h : Dg l) {i : Nat} (hi : i < l.length) : 0 ≤ rd l (i : Int) ∧ rd l (i : Int) < 1073741824 := by
  have := Dg_drop l i h
  rw [drop_rd l i hi] at this
  exact this.1
theorem ev_eq {α : Type} {g : Nat → Option α} {r s : α} (h : r = s) (e : Ev g s) : Ev g r := h ▸ e
theorem trim_ev (l : List Int) (hs : l.length ≤ 1000000) : ∀ (n : Nat), n ≤ l.length → Ev (fun k => windhoverref00_trim.l0 k l (n : Int)) (trimL (l.take n)) := by
  intro n
  induction n with
  | zero =>
    intro _
    refine Ev.step (f := fun _ => some (trimL (l.take 0))) (fun k => ?_) (Ev.now _)
    rw [windhoverref00_trim.l0, if_neg (by decide), if_pos (by decide), if_pos (by omega)]
    simp [trimL]
  | succ n ih =>
    intro hn
    have e : wrap64 (((n + 1 : Nat) : Int) - 1) = (n : Int) := by rw [wsm (by omega) (by omega)]; omega
    have ht : l.take (n + 1) = l.take n ++ [rd l (n : Int)] := by
      rw [rd_nat, List.take_succ_eq_append_getElem (by omega)]
      simp [List.getD_eq_getElem?_getD, show n < l.length from by omega]
    by_cases z : rd l (n : Int) = 0
    · refine ev_eq (by rw [ht, trimL_snoc, if_pos z]) (Ev.step (fun k => ?_) (ih (by omega)))
      rw [windhoverref00_trim.l0, if_pos (by omega), e, if_pos (by omega), if_pos (by omega), if_pos z]
    · refine Ev.step (f := fun _ => some (trimL (l.take (n + 1)))) (fun k => ?_) (Ev.now _)
      rw [windhoverref00_trim.l0, if_pos (by omega), e, if_pos (by omega), if_pos (by omega), if_neg z, if_pos (by omega), if_pos (by omega)]
      rw [ht, trimL_snoc, if_neg z, ← ht]
      rfl
theorem trimf_ev (l : List Int) (hs : l.length ≤ 1000000) : Ev (fun k => windhoverref00_trim.f k l) (trimL l) := by
  have := trim_ev l hs l.length (Nat.le_refl _)
  rw [List.take_length] at this
  exact this
theorem add_end (a b out : List Int) (i : Nat) (hi : max a.length b.length ≤ i) (h2 : out.length ≤ 1000000) :
    Ev (fun k => windhoverref00_add.l0 k a b out 0 (i : Int)) (trimL out) := by
  refine Ev.step (f := fun k => windhoverref00_add.j1 k a b out 0 (i : Int) false) (fun k => ?_) ?_
  · rw [windhoverref00_add.l0, if_neg (by omega), if_neg (by omega)]
    rfl
  · refine Ev.step (f := fun k => (windhoverref00_trim.f k out).bind fun t => some t) (fun k => ?_) ?_
    · rw [windhoverref00_add.j1, if_neg (by decide)]
    · exact Ev.bind (trimf_ev out h2) (Ev.now _)
theorem add_ev (a b : List Int) (ha : Dg a) (hb : Dg b) (hal : a.length ≤ 1000) (hbl : b.length ≤ 1000) : ∀ (n i : Nat) (out : List Int) (c : Int), max a.length b.length ≤ i + n → i ≤ 1000 → out.length ≤ 2000 + i → 0 ≤ c → c ≤ 1 →
    Ev (fun k => windhoverref00_add.l0 k a b out c (i : Int)) (trimL (out ++ addL (a.drop i) (b.drop i) c)) := by
  intro n
  induction n with
  | zero =>
    intro i out c hi hi2 hl h0 h1
    have ea : a.drop i = [] := List.drop_of_length_le (by omega)
    have eb : b.drop i = [] := List.drop_of_length_le (by omega)
    rw [ea, eb]
    by_cases hc : c > 0
    · obtain rfl : c = 1 := by omega
      refine ev_eq (s := trimL (out ++ [1])) (by simp [addL]) ?_
      refine Ev.step (f := fun k => windhoverref00_add.j1 k a b out 1 (i : Int) true) (fun k => ?_) ?_
      · rw [windhoverref00_add.l0, if_neg (by omega), if_neg (by omega)]; rfl
      · refine Ev.step (f := fun k => windhoverref00_add.l0 k a b (out ++ [1]) 0 ((i + 1 : Nat) : Int)) (fun k => ?_) ?_
        · rw [windhoverref00_add.j1, if_pos rfl, if_neg (by omega), if_neg (by omega), if_pos (by omega), show Int.tmod 1 1073741824 = 1 from by decide, show wrap64 (Int.tdiv 1 1073741824) = 0 from by decide +kernel, wsm (by omega) (by omega)]
          rfl
        · exact add_end a b (out ++ [1]) (i + 1) (by omega) (by simp; omega)
    · obtain rfl : c = 0 := by omega
      refine ev_eq (s := trimL out) (by simp [addL]) ?_
      exact add_end a b out i (by omega) (by omega)
  | succ n ih =>
    intro i out c hi hi2 hl h0 h1
    by_cases hlt : max a.length b.length ≤ i
    · exact (by
        have ea : a.drop i = [] := List.drop_of_length_le (by omega)
        have eb : b.drop i = [] := List.drop_of_length_le (by omega)
        rw [ea, eb]
        by_cases hc : c > 0
        · obtain rfl : c = 1 := by omega
          refine ev_eq (s := trimL (out ++ [1])) (by simp [addL]) ?_
          refine Ev.step (f := fun k => windhoverref00_add.j1 k a b out 1 (i : Int) true) (fun k => ?_) ?_
          · rw [windhoverref00_add.l0, if_neg (by omega), if_neg (by omega)]; rfl
          · refine Ev.step (f := fun k => windhoverref00_add.l0 k a b (out ++ [1]) 0 ((i + 1 : Nat) : Int)) (fun k => ?_) ?_
            · rw [windhoverref00_add.j1, if_pos rfl, if_neg (by omega), if_neg (by omega), if_pos (by omega), show Int.tmod 1 1073741824 = 1 from by decide, show wrap64 (Int.tdiv 1 1073741824) = 0 from by decide +kernel, wsm (by omega) (by omega)]
              rfl
            · exact add_end a b (out ++ [1]) (i + 1) (by omega) (by simp; omega)
        · obtain rfl : c = 0 := by omega
          refine ev_eq (s := trimL out) (by simp [addL]) ?_
          exact add_end a b out i (by omega) (by omega))
    · have ei : wrap64 ((i : Int) + 1) = ((i + 1 : Nat) : Int) := by rw [wsm (by omega) (by omega)]; omega
      refine Ev.step (f := fun k => windhoverref00_add.j1 k a b out c (i : Int) true) (fun k => ?_) ?_
      · rw [windhoverref00_add.l0]
        by_cases p : (i : Int) < (a.length : Int)
        · rw [if_pos p]
        · rw [if_neg p, if_pos (by omega)]
      · by_cases p : i < a.length
        · have hx := Dg_rd ha p
          by_cases q : i < b.length
          · have hy := Dg_rd hb q
            rw [drop_rd a i p, drop_rd b i q]
            unfold addL
            refine ev_eq (s := trimL ((out ++ [(c + rd a i + rd b i) % 1073741824]) ++ addL (a.drop (i + 1)) (b.drop (i + 1)) ((c + rd a i + rd b i) / 1073741824))) (by simp) (Ev.step (fun k => ?_) (ih (i + 1) _ _ (by omega) (by omega) (by simp; omega) (by omega) (by omega)))
            rw [windhoverref00_add.j1, if_pos rfl, if_pos (by omega), if_pos (by omega), if_pos (by omega), if_pos (by omega), ei, wsm (a := c + _) (by omega) (by omega), wsm (a := c + _ + _) (by omega) (by omega), Int.tmod_eq_emod_of_nonneg (by omega), Int.tdiv_eq_ediv_of_nonneg (by omega), wsm (by omega) (by omega)]
          · rw [drop_rd a i p, List.drop_of_length_le (show b.length ≤ i by omega)]
            unfold addL
            refine ev_eq (s := trimL ((out ++ [(c + rd a i) % 1073741824]) ++ addL (a.drop (i + 1)) (b.drop (i + 1)) ((c + rd a i) / 1073741824))) (by rw [List.drop_of_length_le (show b.length ≤ i + 1 by omega)]; simp) (Ev.step (fun k => ?_) (ih (i + 1) _ _ (by omega) (by omega) (by simp; omega) (by omega) (by omega)))
            rw [windhoverref00_add.j1, if_pos rfl, if_pos (by omega), if_pos (by omega), if_neg (by omega), if_pos (by omega), ei, wsm (a := c + _) (by omega) (by omega), Int.tmod_eq_emod_of_nonneg (by omega), Int.tdiv_eq_ediv_of_nonneg (by omega), wsm (by omega) (by omega)]
        · have q : i < b.length := by omega
          have hy := Dg_rd hb q
          rw [drop_rd b i q, List.drop_of_length_le (show a.length ≤ i by omega)]
          unfold addL
          refine ev_eq (s := trimL ((out ++ [(c + rd b i) % 1073741824]) ++ addL (a.drop (i + 1)) (b.drop (i + 1)) ((c + rd b i) / 1073741824))) (by rw [List.drop_of_length_le (show a.length ≤ i + 1 by omega)]; simp) (Ev.step (fun k => ?_) (ih (i + 1) _ _ (by omega) (by omega) (by simp; omega) (by omega) (by omega)))
          rw [windhoverref00_add.j1, if_pos rfl, if_neg (by omega), if_pos (by omega), if_pos (by omega), if_pos (by omega), ei, wsm (a := c + _) (by omega) (by omega), Int.tmod_eq_emod_of_nonneg (by omega), Int.tdiv_eq_ediv_of_nonneg (by omega), wsm (by omega) (by omega)]
theorem addf_ev (a b : List Int) (ha : Dg a) (hb : Dg b) (hal : a.length ≤ 900) (hbl : b.length ≤ 900) : Ev (fun k => windhoverref00_add.f k a b) (trimL (addL a b 0)) :=
  add_ev a b ha hb (by omega) (by omega) (max a.length b.length) 0 [] 0 (by omega) (by omega) (by simp) (by decide) (by decide)

theorem less_ev (a b : List Int) (ha : Dg a) (hb : Dg b) (hal : a.length ≤ 1000) (hbl : b.length ≤ a.length) : ∀ (n i : Nat) (out : List Int) (r : Int), a.length = i + n → out.length ≤ 2000 + i → 0 ≤ r → r ≤ 1 →
    Ev (fun k => windhoverref00_less.l0 k a b out r (i : Int)) (trimL (out ++ lessL (a.drop i) (b.drop i) r)) := by
  intro n
  induction n with
  | zero =>
    intro i out r hi hl h0 h1
    rw [List.drop_of_length_le (show a.length ≤ i by omega)]
    refine ev_eq (s := trimL out) (by simp [lessL]) ?_
    refine Ev.step (f := fun k => (windhoverref00_trim.f k out).bind fun t => some t) (fun k => ?_) (Ev.bind (trimf_ev out (by omega)) (Ev.now _))
    rw [windhoverref00_less.l0, if_neg (by omega)]
  | succ n ih =>
    intro i out r hi hl h0 h1
    have p : i < a.length := by omega
    have hx := Dg_rd ha p
    have ei : wrap64 ((i : Int) + 1) = ((i + 1 : Nat) : Int) := by rw [wsm (by omega) (by omega)]; omega
    by_cases q : i < b.length
    · have hy := Dg_rd hb q
      rw [drop_rd a i p, drop_rd b i q]
      unfold lessL
      by_cases s : rd a i - r - rd b i < 0
      · rw [if_pos s]
        refine ev_eq (s := trimL ((out ++ [rd a i - r - rd b i + 1073741824]) ++ lessL (a.drop (i + 1)) (b.drop (i + 1)) 1)) (by simp) (Ev.step (fun k => ?_) (ih (i + 1) _ _ (by omega) (by simp; omega) (by omega) (by omega)))
        rw [windhoverref00_less.l0, if_pos (by omega), if_pos (by omega), if_pos (by omega), wsm (a := _ - r) (by omega) (by omega), wsm (a := _ - r - _) (by omega) (by omega), if_pos s, if_pos (by omega), ei, wsm (by omega) (by omega)]
      · rw [if_neg s]
        refine ev_eq (s := trimL ((out ++ [rd a i - r - rd b i]) ++ lessL (a.drop (i + 1)) (b.drop (i + 1)) 0)) (by simp) (Ev.step (fun k => ?_) (ih (i + 1) _ _ (by omega) (by simp; omega) (by omega) (by omega)))
        rw [windhoverref00_less.l0, if_pos (by omega), if_pos (by omega), if_pos (by omega), wsm (a := _ - r) (by omega) (by omega), wsm (a := _ - r - _) (by omega) (by omega), if_neg s, if_pos (by omega), ei]
    · rw [drop_rd a i p, List.drop_of_length_le (show b.length ≤ i by omega)]
      unfold lessL
      by_cases s : rd a i - r < 0
      · rw [if_pos s]
        refine ev_eq (s := trimL ((out ++ [rd a i - r + 1073741824]) ++ lessL (a.drop (i + 1)) (b.drop (i + 1)) 1)) (by rw [List.drop_of_length_le (show b.length ≤ i + 1 by omega)]; simp) (Ev.step (fun k => ?_) (ih (i + 1) _ _ (by omega) (by simp; omega) (by omega) (by omega)))
        rw [windhoverref00_less.l0, if_pos (by omega), if_pos (by omega), if_neg (by omega), wsm (a := _ - r) (by omega) (by omega), if_pos s, if_pos (by omega), ei, wsm (by omega) (by omega)]
      · rw [if_neg s]
        refine ev_eq (s := trimL ((out ++ [rd a i - r]) ++ lessL (a.drop (i + 1)) (b.drop (i + 1)) 0)) (by rw [List.drop_of_length_le (show b.length ≤ i + 1 by omega)]; simp) (Ev.step (fun k => ?_) (ih (i + 1) _ _ (by omega) (by simp; omega) (by omega) (by omega)))
        rw [windhoverref00_less.l0, if_pos (by omega), if_pos (by omega), if_neg (by omega), wsm (a := _ - r) (by omega) (by omega), if_neg s, if_pos (by omega), ei]
theorem lessf_ev (a b : List Int) (ha : Dg a) (hb : Dg b) (hal : a.length ≤ 1000) (hbl : b.length ≤ a.length) : Ev (fun k => windhoverref00_less.f k a b) (trimL (lessL a b 0)) :=
  less_ev a b ha hb hal hbl a.length 0 [] 0 (by omega) (by simp) (by decide) (by decide)
theorem cmpL_at (a b : List Int) (i : Nat) (h1 : i < a.length) (h2 : i < b.length) (hz : cmpL (a.drop (i + 1)) (b.drop (i + 1)) = 0) :
    cmpL (a.drop i) (b.drop i) = if rd a i < rd b i then -1 else if rd a i > rd b i then 1 else 0 := by
  rw [drop_rd a i h1, drop_rd b i h2]
  simp only [cmpL]
  rw [if_neg (by simpa using hz)]
theorem size_ev (a b : List Int) (hl : a.length = b.length) (hs : a.length ≤ 1000) : ∀ (n : Nat), n ≤ a.length → cmpL (a.drop n) (b.drop n) = 0 →
    Ev (fun k => windhoverref00_size.l0 k a b ((n : Int) - 1)) (cmpL a b) := by
  intro n
  induction n with
  | zero =>
    intro _ hz
    rw [List.drop_zero, List.drop_zero] at hz
    rw [hz]
    refine Ev.step (f := fun _ => some 0) (fun k => ?_) (Ev.now _)
    rw [windhoverref00_size.l0, if_neg (by omega)]
  | succ n ih =>
    intro hn hz
    have e1 : (((n + 1 : Nat) : Int) - 1) = (n : Int) := by omega
    have e2 : wrap64 ((n : Int) - 1) = (n : Int) - 1 := wsm (by omega) (by omega)
    have hc := cmpL_at a b n (by omega) (by omega) hz
    rw [e1]
    by_cases h1 : rd a n < rd b n
    · rw [if_pos h1] at hc
      refine ev_eq (s := -1) ?_ (Ev.step (f := fun _ => some (-1)) (fun k => ?_) (Ev.now _))
      · rw [cmpL_drop n a b (by rw [hc]; decide), hc]
      · rw [windhoverref00_size.l0, if_pos (by omega), if_pos (by omega), if_pos (by omega), if_pos (by omega), if_pos h1]
    · rw [if_neg h1] at hc
      by_cases h2 : rd a n > rd b n
      · rw [if_pos h2] at hc
        refine ev_eq (s := 1) ?_ (Ev.step (f := fun _ => some 1) (fun k => ?_) (Ev.now _))
        · rw [cmpL_drop n a b (by rw [hc]; decide), hc]
        · rw [windhoverref00_size.l0, if_pos (by omega), if_pos (by omega), if_pos (by omega), if_pos (by omega), if_neg h1, if_pos h2]
      · rw [if_neg h2] at hc
        refine Ev.step (fun k => ?_) (ih (by omega) hc)
        rw [windhoverref00_size.l0, if_pos (by omega), if_pos (by omega), if_pos (by omega), if_pos (by omega), if_neg h1, if_neg h2, e2]
/-- Magnitudes are compared. -/
theorem sizef_ev (a b : List Int) (ha : Dg a) (hb : Dg b) (ta : Trm a) (tb : Trm b) (hs : a.length ≤ 1000) : ∃ r, Ev (fun k => windhoverref00_size.f k a b) r ∧ Sg (V a) (V b) r := by
  by_cases hl : a.length = b.length
  · refine ⟨cmpL a b, ?_, cmpL_spec a b ha hb hl⟩
    have h := size_ev a b hl hs a.length (Nat.le_refl _) (by rw [List.drop_of_length_le (Nat.le_refl _), List.drop_of_length_le (by omega)]; rfl)
    refine Ev.congr (fun k => ?_) h
    rw [windhoverref00_size.f, if_pos (by omega), wsm (by omega) (by omega)]
  · by_cases hlt : a.length < b.length
    · refine ⟨-1, Ev.congr (fun k => ?_) (Ev.now _), .inl ⟨rfl, V_lt_len a b ha hb tb hlt⟩⟩
      rw [windhoverref00_size.f, if_neg (by omega), if_pos (by omega)]
    · refine ⟨1, Ev.congr (fun k => ?_) (Ev.now _), .inr (.inr ⟨rfl, V_lt_len b a hb ha ta (by omega)⟩)⟩
      rw [windhoverref00_size.f, if_neg (by omega), if_neg (by omega)]
/-- A whole number, as its sign and its digits. -/
def W (L : Nat) (b : Bool) (d : List Int) (n : Int) : Prop := Dg d ∧ Trm d ∧ (b = true → d ≠ []) ∧ n = (if b = true then -V d else V d) ∧ d.length ≤ L
theorem W.mono {L M : Nat} {b : Bool} {d : List Int} {n : Int} (h : W L b d n) (hl : L ≤ M) : W M b d n := ⟨h.1, h.2.1, h.2.2.1, h.2.2.2.1, Nat.le_trans h.2.2.2.2 hl⟩
theorem len_of {d : List Int} (h : Dg d) (t : Trm d) : (V d < 1073741824 → d.length ≤ 1) ∧ (V d < 1152921504606846976 → d.length ≤ 2) ∧ (V d < 1237940039285380274899124224 → d.length ≤ 3) ∧ (V d < 1329227995784915872903807060280344576 → d.length ≤ 4) := by
  match d, h, t with
  | [], _, _ => exact ⟨fun _ => by simp, fun _ => by simp, fun _ => by simp, fun _ => by simp⟩
  | [a], _, _ => exact ⟨fun _ => by simp, fun _ => by simp, fun _ => by simp, fun _ => by simp⟩
  | [a, b], h, t =>
    have := h.1; have := h.2.1; have := t.2.1 rfl
    simp only [V]; exact ⟨fun _ => by omega, fun _ => by simp, fun _ => by simp, fun _ => by simp⟩
  | [a, b, c], h, t =>
    have := h.1; have := h.2.1; have := h.2.2.1; have := t.2.2.1 rfl
    simp only [V]; exact ⟨fun _ => by omega, fun _ => by omega, fun _ => by simp, fun _ => by simp⟩
  | [a, b, c, e], h, t =>
    have := h.1; have := h.2.1; have := h.2.2.1; have := h.2.2.2.1; have := t.2.2.2.1 rfl
    simp only [V]; exact ⟨fun _ => by omega, fun _ => by omega, fun _ => by omega, fun _ => by simp⟩
  | a :: b :: c :: e :: f :: ds, h, t =>
    have := h.1; have := h.2.1; have := h.2.2.1; have := h.2.2.2.1
    have := V_pos (f :: ds) h.2.2.2.2 t.2.2.2.2 (by simp)
    simp only [V] at *
    exact ⟨fun _ => by omega, fun _ => by omega, fun _ => by omega, fun _ => by omega⟩
theorem of_loop (bl : Bool) : ∀ (m : Nat) (n : Int) (out : List Int), n.natAbs ≤ m → -9223372036854775808 ≤ n → n ≤ 9223372036854775807 → (∃ c : Nat, n.natAbs * 2 ^ c ≤ 9223372036854775808 ∧ out.length ≤ c) →
    ∃ ds, Ev (fun k => windhoverref00_Of.l0 k n bl out) (bl, out ++ ds) ∧ Dg ds ∧ Trm ds ∧ V ds = n.natAbs ∧ (n = 0 → ds = []) := by
  intro m
  induction m with
  | zero =>
    intro n out hm _ _ _
    obtain rfl : n = 0 := by omega
    refine ⟨[], Ev.step (f := fun _ => some (bl, out)) (fun k => ?_) (ev_eq (by simp) (Ev.now _)), trivial, trivial, rfl, fun _ => rfl⟩
    rw [windhoverref00_Of.l0, if_pos rfl]
  | succ m ih =>
    intro n out hm h1 h2 hc
    by_cases hz : n = 0
    · subst hz
      refine ⟨[], Ev.step (f := fun _ => some (bl, out)) (fun k => ?_) (ev_eq (by simp) (Ev.now _)), trivial, trivial, rfl, fun _ => rfl⟩
      rw [windhoverref00_Of.l0, if_pos rfl]
    · obtain ⟨c, hc1, hc2⟩ := hc
      have hc63 : c ≤ 63 := by
        rcases Nat.lt_or_ge c 64 with h | h
        · omega
        · have h3 : 2 ^ 64 ≤ 2 ^ c := Nat.pow_le_pow_right (by decide) h
          have h4 : 1 * 2 ^ c ≤ n.natAbs * 2 ^ c := Nat.mul_le_mul_right _ (by omega)
          omega
      have key : ∀ q : Int, q.natAbs * 2 ≤ n.natAbs → ∃ c : Nat, q.natAbs * 2 ^ c ≤ 9223372036854775808 ∧ out.length + 1 ≤ c := by
        intro q hq
        refine ⟨c + 1, ?_, by omega⟩
        have : q.natAbs * 2 ^ (c + 1) ≤ n.natAbs * 2 ^ c := by
          rw [Nat.pow_succ, Nat.mul_comm (2 ^ c) 2, ← Nat.mul_assoc]
          exact Nat.mul_le_mul_right _ hq
        omega
      by_cases hn : 0 ≤ n
      · have e1 : Int.tmod n 1073741824 = n % 1073741824 := Int.tmod_eq_emod_of_nonneg hn
        have e2 : Int.tdiv n 1073741824 = n / 1073741824 := Int.tdiv_eq_ediv_of_nonneg hn
        obtain ⟨ds, hev, hd, ht, hv, hnil⟩ := ih (n / 1073741824) (out ++ [n % 1073741824]) (by omega) (by omega) (by omega) (by simpa using key (n / 1073741824) (by omega))
        refine ⟨n % 1073741824 :: ds, ev_eq (by simp) (Ev.step (fun k => ?_) hev), ⟨by omega, hd⟩, ⟨fun e => ?_, ht⟩, by simp only [V]; omega, fun h => absurd h hz⟩
        · rw [windhoverref00_Of.l0, if_neg hz, e1, e2, if_neg (by omega), if_pos (by omega), wsm (by omega) (by omega)]
        · rw [e] at hv; simp only [V] at hv; omega
      · obtain ⟨p, rfl⟩ : ∃ p, n = -p := ⟨-n, by omega⟩
        have hp : 0 ≤ p := by omega
        have e1 : Int.tmod (-p) 1073741824 = -(p % 1073741824) := by rw [Int.neg_tmod, Int.tmod_eq_emod_of_nonneg hp]
        have e2 : Int.tdiv (-p) 1073741824 = -(p / 1073741824) := by rw [Int.neg_tdiv, Int.tdiv_eq_ediv_of_nonneg hp]
        obtain ⟨ds, hev, hd, ht, hv, hnil⟩ := ih (-(p / 1073741824)) (out ++ [p % 1073741824]) (by omega) (by omega) (by omega) (by simpa using key (-(p / 1073741824)) (by omega))
        refine ⟨p % 1073741824 :: ds, ev_eq (by simp) (Ev.step (fun k => ?_) hev), ⟨by omega, hd⟩, ⟨fun e => ?_, ht⟩, by simp only [V]; omega, fun h => absurd h hz⟩
        · rw [windhoverref00_Of.l0, if_neg hz, e1, e2]
          by_cases z : p % 1073741824 = 0
          · rw [if_neg (by omega), if_pos (by omega), wsm (by omega) (by omega), z]; rfl
          · rw [if_pos (by omega), if_pos (by omega), wsm (a := -(p / 1073741824)) (by omega) (by omega), Int.neg_neg, wsm (by omega) (by omega)]
        · rw [e] at hv; simp only [V] at hv; omega
theorem of_ev (n : Int) (h1 : -9223372036854775808 ≤ n) (h2 : n ≤ 9223372036854775807) : ∃ b d, Ev (fun k => windhoverref00_Of.f k n) (b, d) ∧ W 3 b d n := by
  obtain ⟨ds, hev, hd, ht, hv, hnil⟩ := of_loop (decide (n < 0)) n.natAbs n [] (Nat.le_refl _) h1 h2 ⟨0, by omega, by simp⟩
  refine ⟨decide (n < 0), ds, Ev.congr (fun k => by rw [windhoverref00_Of.f]) (ev_eq (by simp) hev), hd, ht, fun h => ?_, ?_, (len_of hd ht).2.2.1 (by omega)⟩
  · intro e
    rw [e] at hv
    simp only [V] at hv
    simp at h
    omega
  · by_cases h : n < 0
    · rw [if_pos (by simpa using h)]; omega
    · rw [if_neg (by simpa using h)]; omega
theorem W_range {L : Nat} {b : Bool} {d : List Int} {n : Int} (h : W L b d n) : (b = true → n < 0) ∧ (b = false → 0 ≤ n) := by
  obtain ⟨hd, ht, hb, hn, _⟩ := h
  have h0 := V_nonneg d hd
  refine ⟨fun e => ?_, fun e => ?_⟩
  · have := V_pos d hd ht (hb e); rw [if_pos e] at hn; omega
  · rw [e, if_neg (by decide)] at hn; omega
theorem plus_ev {L : Nat} {a b : Bool} {x y : List Int} {m n : Int} (hx : W L a x m) (hy : W L b y n) (hL : L ≤ 900) : ∃ c z, Ev (fun k => windhoverref00_Plus.f k a x b y) (c, z) ∧ W (L + 1) c z (m + n) := by
  obtain ⟨dx, tx, bx, ex, lx⟩ := hx
  obtain ⟨dy, ty, by', ey, ly⟩ := hy
  have vx := V_nonneg x dx
  have vy := V_nonneg y dy
  by_cases hab : a = b
  · subst hab
    obtain ⟨s1, s2, s3⟩ := addL_spec x y 0 dx dy (by decide) (by decide)
    refine ⟨a, trimL (addL x y 0), Ev.congr (fun k => ?_) (Ev.bind (f := fun _ t => some (a, t)) (addf_ev x y dx dy (by omega) (by omega)) (Ev.now _)), Dg_trimL _ s2, Trm_trimL _, fun h => ?_, ?_, ?_⟩
    · rw [windhoverref00_Plus.f, if_pos (by simp)]
    · intro e
      have := V_trimL (addL x y 0)
      rw [e, s1] at this
      simp only [V] at this
      have := V_pos x dx tx (bx h)
      omega
    · rw [V_trimL, s1]
      cases a <;> simp at ex ey ⊢ <;> omega
    · have := trimL_len (addL x y 0); omega
  · have hne : ¬ ((a == b) = true) := by simpa using hab
    obtain ⟨r, hr, hs⟩ := sizef_ev x y dx dy tx ty (by omega)
    rcases hs with ⟨rfl, hlt⟩ | ⟨rfl, heq⟩ | ⟨rfl, hgt⟩
    · have hlen : x.length ≤ y.length := by
        rcases Nat.lt_or_ge y.length x.length with h | h
        · have := V_lt_len y x dy dx tx h; omega
        · exact h
      obtain ⟨s1, s2, s3⟩ := lessL_spec y x 0 dy dx hlen (by decide) (by decide) (by omega)
      refine ⟨b, trimL (lessL y x 0), Ev.congr (fun k => ?_) (Ev.bind (f := fun k t => if t = 0 then some (false, []) else if t > 0 then (windhoverref00_less.f k x y).bind fun z => some (a, z) else (windhoverref00_less.f k y x).bind fun z => some (b, z)) hr ?_), Dg_trimL _ s2, Trm_trimL _, fun h => ?_, ?_, ?_⟩
      · rw [windhoverref00_Plus.f, if_neg hne]
      · exact Ev.congr (fun k => by rw [if_neg (by decide), if_neg (by decide)]) (Ev.bind (f := fun _ z => some (b, z)) (lessf_ev y x dy dx (by omega) hlen) (Ev.now _))
      · intro e
        have := V_trimL (lessL y x 0)
        rw [e, s1] at this
        simp only [V] at this
        omega
      · rw [V_trimL, s1]
        cases a <;> cases b <;> simp at ex ey hab ⊢ <;> omega
      · have := trimL_len (lessL y x 0); omega
    · refine ⟨false, [], Ev.congr (fun k => ?_) (Ev.bind (f := fun k t => if t = 0 then some (false, []) else if t > 0 then (windhoverref00_less.f k x y).bind fun z => some (a, z) else (windhoverref00_less.f k y x).bind fun z => some (b, z)) hr ?_), trivial, trivial, by simp, ?_, by simp⟩
      · rw [windhoverref00_Plus.f, if_neg hne]
      · exact Ev.congr (fun k => by rw [if_pos rfl]) (Ev.now _)
      · cases a <;> cases b <;> simp [V] at ex ey hab ⊢ <;> omega
    · have hlen : y.length ≤ x.length := by
        rcases Nat.lt_or_ge x.length y.length with h | h
        · have := V_lt_len x y dx dy ty h; omega
        · exact h
      obtain ⟨s1, s2, s3⟩ := lessL_spec x y 0 dx dy hlen (by decide) (by decide) (by omega)
      refine ⟨a, trimL (lessL x y 0), Ev.congr (fun k => ?_) (Ev.bind (f := fun k t => if t = 0 then some (false, []) else if t > 0 then (windhoverref00_less.f k x y).bind fun z => some (a, z) else (windhoverref00_less.f k y x).bind fun z => some (b, z)) hr ?_), Dg_trimL _ s2, Trm_trimL _, fun h => ?_, ?_, ?_⟩
      · rw [windhoverref00_Plus.f, if_neg hne]
      · exact Ev.congr (fun k => by rw [if_neg (by decide), if_pos (by decide)]) (Ev.bind (f := fun _ z => some (a, z)) (lessf_ev x y dx dy (by omega) hlen) (Ev.now _))
      · intro e
        have := V_trimL (lessL x y 0)
        rw [e, s1] at this
        simp only [V] at this
        omega
      · rw [V_trimL, s1]
        cases a <;> cases b <;> simp at ex ey hab ⊢ <;> omega
      · have := trimL_len (lessL x y 0); omega

theorem neg_f {L : Nat} {b : Bool} {d : List Int} {n : Int} (h : W L b d n) : ∃ c, windhoverref00_Negative.f b d = some (c, d) ∧ W L c d (-n) := by
  obtain ⟨hd, ht, hb, hn, hl⟩ := h
  by_cases e : d = []
  · subst e
    refine ⟨false, ?_, hd, ht, by simp, ?_, hl⟩
    · rw [windhoverref00_Negative.f, if_neg (by simp)]; split <;> rfl
    · simp only [V] at hn ⊢
      cases b <;> simp at hn ⊢ <;> omega
  · have hp : (d.length : Int) > 0 := by
      have := List.length_pos_iff.mpr e
      omega
    cases b
    · exact ⟨true, by rw [windhoverref00_Negative.f, if_pos hp]; rfl, hd, ht, fun _ => e, by simp at hn ⊢; omega, hl⟩
    · exact ⟨false, by rw [windhoverref00_Negative.f, if_pos hp]; rfl, hd, ht, by simp, by simp at hn ⊢; omega, hl⟩
theorem minus_ev {L : Nat} {a b : Bool} {x y : List Int} {m n : Int} (hx : W L a x m) (hy : W L b y n) (hL : L ≤ 900) : ∃ c z, Ev (fun k => windhoverref00_Minus.f k a x b y) (c, z) ∧ W (L + 1) c z (m - n) := by
  obtain ⟨c, h1, h2⟩ := neg_f hy
  obtain ⟨c2, z, h3, h4⟩ := plus_ev hx h2 hL
  refine ⟨c2, z, Ev.congr (fun k => ?_) (Ev.bind (f := fun _ t => some (t.1, t.2)) h3 (Ev.now _)), by rw [Int.sub_eq_add_neg]; exact h4⟩
  rw [windhoverref00_Minus.f, h1, Option.bind_some]
theorem cmp_ev {L : Nat} {a b : Bool} {x y : List Int} {m n : Int} (hx : W L a x m) (hy : W L b y n) (hL : L ≤ 1000) : ∃ r, Ev (fun k => windhoverref00_Cmp.f k a x b y) r ∧ Sg m n r := by
  have rx := W_range hx
  have ry := W_range hy
  obtain ⟨dx, tx, bx, ex, lx⟩ := hx
  obtain ⟨dy, ty, by', ey, ly⟩ := hy
  by_cases hab : a = b
  · subst hab
    obtain ⟨r, hr, hs⟩ := sizef_ev x y dx dy tx ty (by omega)
    cases a
    · refine ⟨r, Ev.congr (fun k => ?_) (Ev.bind (f := fun _ t => some t) hr (Ev.now _)), ?_⟩
      · rw [windhoverref00_Cmp.f, if_neg (by decide)]; rfl
      · simp at ex ey; rw [ex, ey]; exact hs
    · refine ⟨-r, Ev.congr (fun k => ?_) (Ev.bind (f := fun _ t => some (wrap64 (-t))) hr (ev_eq ?_ (Ev.now _))), ?_⟩
      · rw [windhoverref00_Cmp.f, if_neg (by decide)]; rfl
      · rcases hs with ⟨rfl, _⟩ | ⟨rfl, _⟩ | ⟨rfl, _⟩ <;> exact (wsm (by decide) (by decide)).symm
      · simp at ex ey; unfold Sg at *; omega
  · cases a <;> cases b
    · exact absurd rfl hab
    · refine ⟨1, Ev.congr (fun k => ?_) (Ev.now _), .inr (.inr ⟨rfl, by have := rx.2 rfl; have := ry.1 rfl; omega⟩)⟩
      rw [windhoverref00_Cmp.f, if_pos (by decide), if_neg (by decide)]
    · refine ⟨-1, Ev.congr (fun k => ?_) (Ev.now _), .inl ⟨rfl, by have := rx.1 rfl; have := ry.2 rfl; omega⟩⟩
      rw [windhoverref00_Cmp.f, if_pos (by decide), if_pos rfl]
    · exact absurd rfl hab
theorem V_drop_le : ∀ (l : List Int) (i : Nat), Dg l → V (l.drop i) ≤ V l
  | [], _, _ => by simp
  | d :: ds, 0, _ => by simp
  | d :: ds, i + 1, h => by
    have := V_drop_le ds i h.2
    have := V_nonneg ds h.2
    have := h.1
    simp only [List.drop_succ_cons, V]; omega
theorem int_loop (d : List Int) (hd : Dg d) (hl : d.length ≤ 1000) (b : Bool) (hv : V d ≤ 9223372036854775807 + (if b = true then 1 else 0)) : ∀ (i : Nat), i ≤ d.length →
    Ev (fun k => windhoverref00_Int.l0 k (if b = true then -V (d.drop i) else V (d.drop i)) ((i : Int) - 1) b d) (if b = true then -V d else V d, true) := by
  intro i
  induction i with
  | zero =>
    intro _
    rw [List.drop_zero]
    refine Ev.step (f := fun _ => some (if b = true then -V d else V d, true)) (fun k => ?_) (Ev.now _)
    rw [windhoverref00_Int.l0, if_neg (by omega)]
  | succ i ih =>
    intro hi
    have p : i < d.length := by omega
    have hx := Dg_rd hd p
    have e1 : (((i + 1 : Nat) : Int) - 1) = (i : Int) := by omega
    have e2 : wrap64 ((i : Int) - 1) = (i : Int) - 1 := wsm (by omega) (by omega)
    have hle := V_drop_le d i hd
    have hn := V_nonneg _ (Dg_drop d (i + 1) hd)
    have hdr : V (d.drop i) = rd d i + 1073741824 * V (d.drop (i + 1)) := by rw [drop_rd d i p]; rfl
    rw [e1]
    refine Ev.step (fun k => ?_) (ih (by omega))
    cases b
    · simp only [Bool.false_eq_true, if_false] at hv ⊢
      rw [windhoverref00_Int.l0, if_pos (by omega), if_neg (by decide), if_pos (by omega), if_pos (by omega), e2, wsm (a := V _ * 1073741824) (by omega) (by omega), wsm (by omega) (by omega), hdr]
      congr 1; omega
    · simp only [if_true] at hv ⊢
      rw [windhoverref00_Int.l0, if_pos (by omega), if_pos rfl, if_pos (by omega), if_pos (by omega), e2, wsm (a := -V _ * 1073741824) (by omega) (by omega), wsm (by omega) (by omega), hdr]
      congr 1; omega
theorem int_ev {L : Nat} {b : Bool} {d : List Int} {n : Int} (h : W L b d n) (hL : L ≤ 900) : Ev (fun k => windhoverref00_Int.f k b d) (if -9223372036854775808 ≤ n ∧ n ≤ 9223372036854775807 then (n, true) else (0, false)) := by
  obtain ⟨b1, d1, o1, w1⟩ := of_ev (-9223372036854775808) (by decide) (by decide)
  obtain ⟨b2, d2, o2, w2⟩ := of_ev 9223372036854775807 (by decide) (by decide)
  obtain ⟨r1, c1, s1⟩ := cmp_ev (h.mono (show L ≤ L + 3 by omega)) (w1.mono (show 3 ≤ L + 3 by omega)) (by omega)
  obtain ⟨r2, c2, s2⟩ := cmp_ev (h.mono (show L ≤ L + 3 by omega)) (w2.mono (show 3 ≤ L + 3 by omega)) (by omega)
  obtain ⟨hd, ht, hb, hn, hl⟩ := h
  have stop : Ev (fun k => windhoverref00_Int.j0 k true b d) (0, false) := by
    refine Ev.step (f := fun _ => some (0, false)) (fun k => ?_) (Ev.now _)
    rw [windhoverref00_Int.j0, if_pos rfl]
  refine Ev.congr (fun k => by rw [windhoverref00_Int.f]) (Ev.bind o1 (Ev.bind c1 ?_))
  by_cases hlow : n < -9223372036854775808
  · obtain rfl : r1 = -1 := by unfold Sg at s1; omega
    rw [if_neg (by omega)]
    exact Ev.congr (fun k => by rw [if_pos (by decide)]) stop
  · have hr1 : ¬ r1 < 0 := by unfold Sg at s1; omega
    refine Ev.congr (fun k => by rw [if_neg hr1]) (Ev.bind o2 (Ev.bind c2 ?_))
    by_cases hhigh : n > 9223372036854775807
    · obtain rfl : r2 = 1 := by unfold Sg at s2; omega
      rw [if_neg (by omega)]
      exact Ev.congr (fun k => by rw [show decide ((1 : Int) > 0) = true from by decide]) stop
    · have hr2 : decide (r2 > 0) = false := by unfold Sg at s2; simp; omega
      rw [if_pos ⟨by omega, by omega⟩]
      have hv : V d ≤ 9223372036854775807 + (if b = true then 1 else 0) := by cases b <;> simp at hn ⊢ <;> omega
      have hi := int_loop d hd (by omega) b hv d.length (Nat.le_refl _)
      rw [List.drop_of_length_le (Nat.le_refl _), ← hn] at hi
      simp only [V, Int.neg_zero, ite_self] at hi
      refine Ev.congr (fun k => by rw [hr2]) (Ev.step (fun k => ?_) hi)
      rw [windhoverref00_Int.j0, if_neg (by decide), wsm (by omega) (by omega)]
/-- A whole number, kept within an int. -/
def sat (n : Int) : Int := if n > 9223372036854775807 then 9223372036854775807 else if n < -9223372036854775808 then -9223372036854775808 else n
def I64 (n : Int) : Prop := -9223372036854775808 ≤ n ∧ n ≤ 9223372036854775807
theorem mulL_cons {o y : Int} {os ys : List Int} {x c : Int} : mulL (o :: os) (y :: ys) x c = ((o + x * y + c) % 1073741824) :: mulL os ys x ((o + x * y + c) / 1073741824) := by
  conv => lhs; unfold mulL
theorem set_mid (P : List Int) (o v : Int) (os : List Int) (n : Nat) (h : P.length = n) : (P ++ o :: os).set n v = P ++ v :: os := by
  subst h
  simp [List.set_append_right]
theorem rd_mid (P : List Int) (o : Int) (os : List Int) (n : Nat) (h : P.length = n) : rd (P ++ o :: os) (n : Int) = o := by
  subst h
  rw [rd_nat]
  simp [List.getD_eq_getElem?_getD]
theorem wadd (i j : Nat) (h : i + j ≤ 1000000) : wrap64 ((i : Int) + (j : Int)) = ((i + j : Nat) : Int) := by rw [wsm (by omega) (by omega)]; omega
theorem wadd1 (i : Nat) (h : i ≤ 1000000) : wrap64 ((i : Int) + 1) = ((i + 1 : Nat) : Int) := by rw [wsm (by omega) (by omega)]; omega
theorem times_in (ab bb : Bool) (a b : List Int) (hal : a.length ≤ 400) (hbl : b.length ≤ 400) (hb : Dg b) (i : Nat) (hi : i < a.length) (ha : Dg a) (r : Bool × List Int) :
    ∀ (n j : Nat) (P o : List Int) (c : Int), b.length = j + n → P.length = i + j → n < o.length → P.length + o.length ≤ 900 → Dg o → AllZ (o.drop n) → (0 ≤ c ∧ c < 1073741824) →
    Ev (fun k => windhoverref00_Times.l0 k (P ++ mulL o (b.drop j) (rd a i) c) ((i + 1 : Nat) : Int) ab a bb b) r →
    Ev (fun k => windhoverref00_Times.l1 k (P ++ o) (i : Int) c (j : Int) ab a bb b) r := by
  intro n
  have hx := Dg_rd ha hi
  induction n with
  | zero =>
    intro j P o c hj hP ho htot hd hz hc hev
    cases o with
    | nil => simp at ho
    | cons o os =>
      have em : mulL (o :: os) [] (rd a i) c = (o + c) :: os := by unfold mulL; rfl
      rw [List.drop_of_length_le (show b.length ≤ j by omega), em] at hev
      simp only [List.drop_zero, AllZ] at hz
      have hlen : ((P ++ o :: os).length : Int) = i + j + os.length + 1 := by simp; omega
      simp only [List.length_cons] at htot
      have ho0 : o = 0 := hz.1
      clear hz hx
      have q1 : ¬ (j : Int) < (b.length : Int) := by omega
      have q2 : 0 ≤ ((i + b.length : Nat) : Int) := by omega
      have q3 : ((i + b.length : Nat) : Int) < ((P ++ o :: os).length : Int) := by omega
      have q4 : P.length = i + b.length := by omega
      have q5 : i + b.length ≤ 1000000 := by omega
      have q6 : i ≤ 1000000 := by omega
      have e3 : -9223372036854775808 ≤ o + c ∧ o + c ≤ 9223372036854775807 := by omega
      refine Ev.step (fun k => ?_) hev
      rw [windhoverref00_Times.l1, if_neg q1, wadd i b.length q5, if_pos q2, if_pos q3, wadd1 i q6, rd_mid P o os _ q4, wsm e3.1 e3.2, Int.toNat_natCast, set_mid P o (o + c) os _ q4]
  | succ n ih =>
    intro j P o c hj hP ho htot hd hz hc hev
    cases o with
    | nil => simp at ho
    | cons o os =>
      have q : j < b.length := by omega
      have hy := Dg_rd hb q
      have hm := mul_bd hx hy
      have hod := hd.1
      rw [drop_rd b j q, mulL_cons] at hev
      have hlen : ((P ++ o :: os).length : Int) = i + j + os.length + 1 := by simp; omega
      simp only [List.length_cons] at htot ho
      have q1 : (j : Int) < (b.length : Int) := by omega
      have q2 : 0 ≤ ((i + j : Nat) : Int) := by omega
      have q3 : ((i + j : Nat) : Int) < ((P ++ o :: os).length : Int) := by omega
      have q4 : P.length = i + j := by omega
      have q5 : i + j ≤ 1000000 := by omega
      have q6 : j ≤ 1000000 := by omega
      have q7 : 0 ≤ (i : Int) := by omega
      have q8 : (i : Int) < (a.length : Int) := by omega
      have q9 : 0 ≤ (j : Int) := by omega
      have r1 : b.length = j + 1 + n := by omega
      have r2 : n < os.length := by omega
      have key : ∀ t : Int, 0 ≤ t → t ≤ 1152921502459363329 → wrap64 t = t ∧ wrap64 (o + t) = o + t ∧ wrap64 (o + t + c) = o + t + c ∧ Int.tmod (o + t + c) 1073741824 = (o + t + c) % 1073741824 ∧ wrap64 (Int.tdiv (o + t + c) 1073741824) = (o + t + c) / 1073741824 ∧ (0 ≤ (o + t + c) / 1073741824 ∧ (o + t + c) / 1073741824 < 1073741824) := by
        intro t h0 h1
        refine ⟨wsm (by omega) (by omega), wsm (by omega) (by omega), wsm (by omega) (by omega), Int.tmod_eq_emod_of_nonneg (by omega), ?_, ⟨by omega, by omega⟩⟩
        rw [Int.tdiv_eq_ediv_of_nonneg (by omega), wsm (by omega) (by omega)]
      have hl2 : (P ++ [(o + rd a i * rd b j + c) % 1073741824]).length = i + (j + 1) := by simp; omega
      have hl3 : (P ++ [(o + rd a i * rd b j + c) % 1073741824]).length + os.length ≤ 900 := by simp; omega
      obtain ⟨k1, k2, k3, k4, k5, k6⟩ := key _ hm.1 hm.2
      clear key hlen htot
      have hev' := ih (j + 1) (P ++ [(o + rd a i * rd b j + c) % 1073741824]) os _ r1 hl2 r2 hl3 hd.2 hz k6 (by rw [List.append_assoc]; exact hev)
      refine Ev.step (fun k => ?_) hev'
      rw [windhoverref00_Times.l1, if_pos q1, wadd i j q5, if_pos q2, if_pos q3, if_pos q7, if_pos q8, if_pos q9, rd_mid P o os _ q4, k1, k2, k3, k4, k5, wadd1 j q6, Int.toNat_natCast, set_mid P o _ os _ q4, List.append_assoc]
      rfl
theorem timesL_step {o : List Int} {x : Int} {xs b : List Int} {h : Int} {t : List Int} (e : mulL o b x 0 = h :: t) : timesL o (x :: xs) b = h :: timesL t xs b := by
  conv => lhs; unfold timesL
  rw [e]
theorem times_out (ab bb : Bool) (a b : List Int) (hal : a.length ≤ 400) (hbl : b.length ≤ 400) (ha : Dg a) (hb : Dg b) : ∀ (n i : Nat) (P o : List Int), a.length = i + n → P.length = i → o.length = n + b.length → Dg o → AllZ (o.drop b.length) →
    Ev (fun k => windhoverref00_Times.l0 k (P ++ o) (i : Int) ab a bb b) (ab != bb, trimL (P ++ timesL o (a.drop i) b)) := by
  intro n
  induction n with
  | zero =>
    intro i P o hi hP ho hd hz
    rw [List.drop_of_length_le (show a.length ≤ i by omega)]
    have e : timesL o [] b = o := by unfold timesL; rfl
    rw [e]
    refine Ev.step (f := fun k => (windhoverref00_trim.f k (P ++ o)).bind fun t => some (ab != bb, t)) (fun k => ?_) (Ev.bind (trimf_ev _ (by simp; omega)) (Ev.now _))
    rw [windhoverref00_Times.l0, if_neg (by omega)]
  | succ n ih =>
    intro i P o hi hP ho hd hz
    have p : i < a.length := by omega
    have hx := Dg_rd ha p
    refine Ev.step (f := fun k => windhoverref00_Times.l1 k (P ++ o) (i : Int) 0 ((0 : Nat) : Int) ab a bb b) (fun k => ?_) ?_
    · rw [windhoverref00_Times.l0, if_pos (by omega)]; rfl
    · refine times_in ab bb a b hal hbl hb i p ha _ b.length 0 P o 0 (by omega) (by omega) (by omega) (by omega) hd hz (by decide) ?_
      rw [List.drop_zero, drop_rd a i p]
      obtain ⟨m1, m2, m3⟩ := mulL_spec o b (rd a i) 0 hd hb (by omega) hz hx (by decide)
      have hlen := mulL_len o b (rd a i) 0
      cases hm : mulL o b (rd a i) 0 with
      | nil => rw [hm] at hlen; simp at hlen; omega
      | cons h t =>
        rw [hm] at hlen m2 m3
        have := ih (i + 1) (P ++ [h]) t (by omega) (by simp; omega) (by simp at hlen; omega) m2.2 (by simpa using m3)
        rw [timesL_step hm]
        simpa using this
theorem AllZ_rep : ∀ n, AllZ (List.replicate n 0)
  | 0 => trivial
  | n + 1 => ⟨rfl, AllZ_rep n⟩
theorem Dg_rep : ∀ n, Dg (List.replicate n 0)
  | 0 => trivial
  | n + 1 => ⟨by decide, Dg_rep n⟩
theorem V_rep : ∀ n, V (List.replicate n 0) = 0
  | 0 => rfl
  | n + 1 => by simp only [List.replicate, V, V_rep n]; rfl
theorem times_ev {L M : Nat} {a b : Bool} {x y : List Int} {m n : Int} (hx : W L a x m) (hy : W M b y n) (hL : L ≤ 400) (hM : M ≤ 400) : ∃ c z, Ev (fun k => windhoverref00_Times.f k a x b y) (c, z) ∧ W (L + M) c z (m * n) := by
  obtain ⟨dx, tx, bx, ex, lx⟩ := hx
  obtain ⟨dy, ty, by', ey, ly⟩ := hy
  by_cases hz : x = [] ∨ y = []
  · refine ⟨false, [], ?_, trivial, trivial, by simp, ?_, by simp⟩
    · have stop : Ev (fun k => windhoverref00_Times.j0 k true a x b y) (false, []) := by
        refine Ev.step (f := fun _ => some (false, [])) (fun k => ?_) (Ev.now _)
        rw [windhoverref00_Times.j0, if_pos rfl]
      refine Ev.congr (fun k => ?_) stop
      rcases hz with rfl | rfl
      · rw [windhoverref00_Times.f, if_pos (by simp)]
      · rw [windhoverref00_Times.f]
        by_cases h : (x.length : Int) = 0
        · rw [if_pos h]
        · rw [if_neg h]; rfl
    · rcases hz with rfl | rfl
      · simp [V] at ex; subst ex; simp [V]
      · simp [V] at ey; subst ey; simp [V]
  · have hx0 : x ≠ [] := fun e => hz (.inl e)
    have hy0 : y ≠ [] := fun e => hz (.inr e)
    have lx0 := List.length_pos_iff.mpr hx0
    have ly0 := List.length_pos_iff.mpr hy0
    have vx := V_pos x dx tx hx0
    have vy := V_pos y dy ty hy0
    have hdrop : AllZ ((List.replicate (x.length + y.length) (0 : Int)).drop y.length) := by rw [List.drop_replicate]; exact AllZ_rep _
    obtain ⟨s1, s2, s3⟩ := timesL_spec x y (List.replicate (x.length + y.length) 0) dx dy (Dg_rep _) (by simp) hdrop
    rw [V_rep] at s1
    have hev := times_out a b x y (by omega) (by omega) dx dy x.length 0 [] (List.replicate (x.length + y.length) 0) (by omega) rfl (by simp) (Dg_rep _) hdrop
    rw [List.drop_zero, List.nil_append, List.nil_append] at hev
    have hpos := Int.mul_pos vx vy
    refine ⟨a != b, trimL (timesL (List.replicate (x.length + y.length) 0) x y), Ev.congr (f := fun k => windhoverref00_Times.j0 k false a x b y) (fun k => ?_) (Ev.step (fun k => ?_) hev), Dg_trimL _ s2, Trm_trimL _, fun h => ?_, ?_, ?_⟩
    · rw [windhoverref00_Times.f, if_neg (by omega), show ((y.length : Int) == 0) = false from by simp; omega]
    · rw [windhoverref00_Times.j0, if_neg (by decide), wadd x.length y.length (by omega), if_pos (by omega), Int.toNat_natCast, if_pos (by omega)]
      rfl
    · intro e
      have := V_trimL (timesL (List.replicate (x.length + y.length) 0) x y)
      rw [e, s1] at this
      simp only [V] at this
      omega
    · rw [V_trimL, s1]
      cases a <;> cases b <;> simp at ex ey ⊢ <;> rw [ex, ey] <;> simp [Int.neg_mul, Int.mul_neg]
    · have := trimL_len (timesL (List.replicate (x.length + y.length) 0) x y)
      simp at s3
      omega
theorem I64_of {a : Int} (h : (Lit.int .i64 a).wf = true) : I64 a := by
  simp [Lit.wf, IntKind.min, IntKind.max, IntKind.signed, IntKind.bits] at h
  unfold I64; omega
theorem awake_ev : Ev (fun k => windhoverlaw01_awake.f k) true := by
  have h : windhoverlaw01_awake.f 40 = some true := by decide +kernel
  exact Ev.of (fun k => windhoverlaw01_awake.mono k) h

theorem uw {a : Int} (h1 : 0 ≤ a) (h2 : a < 18446744073709551616) : IntKind.u64.wrap a = a := by rw [IntKind.wrap_u64]; omega
theorem and32 {a : Int} (h1 : 0 ≤ a) (h2 : a < 18446744073709551616) : Go.bits .and .u64 a 4294967295 = a % 4294967296 := by
  have := bits_mask .u64 64 (by decide) (fun n h0 h1 => by rw [IntKind.wrap_u64]; omega) 32 (by decide) a h1 (by omega)
  simpa using this
theorem prod32 {x y : Int} (hx : 0 ≤ x ∧ x ≤ 4294967295) (hy : 0 ≤ y ∧ y ≤ 4294967295) : 0 ≤ x * y ∧ x * y ≤ 18446744065119617025 := by
  refine ⟨Int.mul_nonneg hx.1 hy.1, ?_⟩
  have := Int.mul_le_mul hx.2 hy.2 hy.1 (by decide)
  omega
/-- The 128 bits of a product. -/
theorem mul64_f {a b : Int} (ha : 0 ≤ a ∧ a < 18446744073709551616) (hb : 0 ≤ b ∧ b < 18446744073709551616) : bits_Mul64.f a b = some (a * b / 18446744073709551616, a * b % 18446744073709551616) := by
  obtain ⟨p, q, rfl, hp, hq⟩ : ∃ p q : Int, a = p * 4294967296 + q ∧ (0 ≤ p ∧ p ≤ 4294967295) ∧ (0 ≤ q ∧ q ≤ 4294967295) := ⟨a / 4294967296, a % 4294967296, by omega, by omega, by omega⟩
  obtain ⟨r, s, rfl, hr, hs⟩ : ∃ r s : Int, b = r * 4294967296 + s ∧ (0 ≤ r ∧ r ≤ 4294967295) ∧ (0 ≤ s ∧ s ≤ 4294967295) := ⟨b / 4294967296, b % 4294967296, by omega, by omega, by omega⟩
  have e1 : (p * 4294967296 + q) / 4294967296 = p := by omega
  have e2 : (r * 4294967296 + s) / 4294967296 = r := by omega
  have e3 : Go.bits .and .u64 (p * 4294967296 + q) 4294967295 = q := by rw [and32 ha.1 ha.2]; omega
  have e4 : Go.bits .and .u64 (r * 4294967296 + s) 4294967295 = s := by rw [and32 hb.1 hb.2]; omega
  have hpr := prod32 hp hr
  have hps := prod32 hp hs
  have hqr := prod32 hq hr
  have hqs := prod32 hq hs
  have hx : (p * 4294967296 + q) * (r * 4294967296 + s) = p * r * 18446744073709551616 + (p * s + q * r) * 4294967296 + q * s := by
    rw [Int.add_mul, Int.mul_add, Int.mul_add]
    have a1 : p * 4294967296 * (r * 4294967296) = p * r * 18446744073709551616 := by rw [Int.mul_assoc, Int.mul_comm r, ← Int.mul_assoc 4294967296, Int.mul_comm _ r, ← Int.mul_assoc]; omega
    have a2 : p * 4294967296 * s = p * s * 4294967296 := by rw [Int.mul_assoc, Int.mul_comm 4294967296 s, ← Int.mul_assoc]
    have a3 : q * (r * 4294967296) = q * r * 4294967296 := by rw [Int.mul_assoc]
    rw [a1, a2, a3]; omega
  unfold bits_Mul64.f
  rw [e1, e2, e3, e4, hx]
  generalize p * r = A at *
  generalize p * s = B at *
  generalize q * r = C at *
  generalize q * s = D at *
  clear e1 e2 e3 e4 hx ha hb
  rw [uw (a := D) (by omega) (by omega), uw (a := B) (by omega) (by omega), uw (a := A) (by omega) (by omega), uw (a := C) (by omega) (by omega), uw (a := B + D / 4294967296) (by omega) (by omega), and32 (a := B + D / 4294967296) (by omega) (by omega), uw (a := A + _) (by omega) (by omega), uw (a := (B + D / 4294967296) % 4294967296 + C) (by omega) (by omega), uw (by omega) (by omega), IntKind.wrap_u64]
  congr 2
  omega
theorem size_f {a : Int} (ha : I64 a) : fix_size.f a = some (if a < 0 then -a else a) := by
  unfold I64 at ha
  unfold fix_size.f
  by_cases h : a < 0
  · rw [if_pos h, if_pos h, IntKind.wrap_u64, IntKind.wrap_u64]; congr 1; omega
  · rw [if_neg h, if_neg h, IntKind.wrap_u64]; congr 1; omega
/-- A number of that size, below 0 or not. -/
theorem signed_ev {n : Int} (hn : 0 ≤ n ∧ n < 18446744073709551616) (b : Bool) : Ev (fun k => fix_signed.f k n b) (sat (if b = true then -n else n)) := by
  have w : ∀ m : Int, (-9223372036854775808 ≤ m ∧ m ≤ 9223372036854775807 → wrap64 m = m) := fun m h => by unfold wrap64; omega
  cases b
  · refine Ev.congr (fun k => by rw [fix_signed.f, if_neg (by decide)]) (Ev.step (f := fun _ => some (sat n)) (fun k => ?_) (Ev.now _))
    rw [fix_signed.j0, if_neg (by decide), if_neg (by decide)]
    unfold sat
    by_cases h : n ≥ 9223372036854775808
    · rw [if_pos h, if_pos (by omega)]
    · rw [if_neg h, if_neg (by omega), if_neg (by omega), w n (by omega)]
  · refine Ev.congr (fun k => by rw [fix_signed.f, if_pos rfl]) (Ev.step (f := fun _ => some (sat (-n))) (fun k => ?_) (Ev.now _))
    rw [fix_signed.j0]
    unfold sat
    by_cases h : n ≥ 9223372036854775808
    · rw [if_pos (by simpa using h), if_neg (by omega)]
      by_cases h2 : n = 9223372036854775808
      · subst h2; rfl
      · rw [if_pos (by omega)]
    · rw [if_neg (by simpa using h), if_pos rfl, if_neg (by omega), if_neg (by omega), w n (by omega), w (-n) (by omega)]
theorem tab_fin2 : ∀ i : Fin 256, 0 ≤ bt (⟨#[0, 1, 2, 2, 3, 3, 3, 3, 4, 4, 4, 4, 4, 4, 4, 4, 5, 5, 5, 5, 5, 5, 5, 5, 5, 5, 5, 5, 5, 5, 5, 5, 6, 6, 6, 6, 6, 6, 6, 6, 6, 6, 6, 6, 6, 6, 6, 6, 6, 6, 6, 6, 6, 6, 6, 6, 6, 6, 6, 6, 6, 6, 6, 6, 7, 7, 7, 7, 7, 7, 7, 7, 7, 7, 7, 7, 7, 7, 7, 7, 7, 7, 7, 7, 7, 7, 7, 7, 7, 7, 7, 7, 7, 7, 7, 7, 7, 7, 7, 7, 7, 7, 7, 7, 7, 7, 7, 7, 7, 7, 7, 7, 7, 7, 7, 7, 7, 7, 7, 7, 7, 7, 7, 7, 7, 7, 7, 7, 8, 8, 8, 8, 8, 8, 8, 8, 8, 8, 8, 8, 8, 8, 8, 8, 8, 8, 8, 8, 8, 8, 8, 8, 8, 8, 8, 8, 8, 8, 8, 8, 8, 8, 8, 8, 8, 8, 8, 8, 8, 8, 8, 8, 8, 8, 8, 8, 8, 8, 8, 8, 8, 8, 8, 8, 8, 8, 8, 8, 8, 8, 8, 8, 8, 8, 8, 8, 8, 8, 8, 8, 8, 8, 8, 8, 8, 8, 8, 8, 8, 8, 8, 8, 8, 8, 8, 8, 8, 8, 8, 8, 8, 8, 8, 8, 8, 8, 8, 8, 8, 8, 8, 8, 8, 8, 8, 8, 8, 8, 8, 8, 8, 8, 8, 8, 8, 8, 8, 8, 8, 8, 8, 8, 8, 8, 8, 8]⟩ : ByteArray) (i.val : Int) ∧ bt (⟨#[0, 1, 2, 2, 3, 3, 3, 3, 4, 4, 4, 4, 4, 4, 4, 4, 5, 5, 5, 5, 5, 5, 5, 5, 5, 5, 5, 5, 5, 5, 5, 5, 6, 6, 6, 6, 6, 6, 6, 6, 6, 6, 6, 6, 6, 6, 6, 6, 6, 6, 6, 6, 6, 6, 6, 6, 6, 6, 6, 6, 6, 6, 6, 6, 7, 7, 7, 7, 7, 7, 7, 7, 7, 7, 7, 7, 7, 7, 7, 7, 7, 7, 7, 7, 7, 7, 7, 7, 7, 7, 7, 7, 7, 7, 7, 7, 7, 7, 7, 7, 7, 7, 7, 7, 7, 7, 7, 7, 7, 7, 7, 7, 7, 7, 7, 7, 7, 7, 7, 7, 7, 7, 7, 7, 7, 7, 7, 7, 8, 8, 8, 8, 8, 8, 8, 8, 8, 8, 8, 8, 8, 8, 8, 8, 8, 8, 8, 8, 8, 8, 8, 8, 8, 8, 8, 8, 8, 8, 8, 8, 8, 8, 8, 8, 8, 8, 8, 8, 8, 8, 8, 8, 8, 8, 8, 8, 8, 8, 8, 8, 8, 8, 8, 8, 8, 8, 8, 8, 8, 8, 8, 8, 8, 8, 8, 8, 8, 8, 8, 8, 8, 8, 8, 8, 8, 8, 8, 8, 8, 8, 8, 8, 8, 8, 8, 8, 8, 8, 8, 8, 8, 8, 8, 8, 8, 8, 8, 8, 8, 8, 8, 8, 8, 8, 8, 8, 8, 8, 8, 8, 8, 8, 8, 8, 8, 8, 8, 8, 8, 8, 8, 8, 8, 8, 8, 8]⟩ : ByteArray) (i.val : Int) ≤ 8 ∧ (i.val : Int) < 2 ^ (bt (⟨#[0, 1, 2, 2, 3, 3, 3, 3, 4, 4, 4, 4, 4, 4, 4, 4, 5, 5, 5, 5, 5, 5, 5, 5, 5, 5, 5, 5, 5, 5, 5, 5, 6, 6, 6, 6, 6, 6, 6, 6, 6, 6, 6, 6, 6, 6, 6, 6, 6, 6, 6, 6, 6, 6, 6, 6, 6, 6, 6, 6, 6, 6, 6, 6, 7, 7, 7, 7, 7, 7, 7, 7, 7, 7, 7, 7, 7, 7, 7, 7, 7, 7, 7, 7, 7, 7, 7, 7, 7, 7, 7, 7, 7, 7, 7, 7, 7, 7, 7, 7, 7, 7, 7, 7, 7, 7, 7, 7, 7, 7, 7, 7, 7, 7, 7, 7, 7, 7, 7, 7, 7, 7, 7, 7, 7, 7, 7, 7, 8, 8, 8, 8, 8, 8, 8, 8, 8, 8, 8, 8, 8, 8, 8, 8, 8, 8, 8, 8, 8, 8, 8, 8, 8, 8, 8, 8, 8, 8, 8, 8, 8, 8, 8, 8, 8, 8, 8, 8, 8, 8, 8, 8, 8, 8, 8, 8, 8, 8, 8, 8, 8, 8, 8, 8, 8, 8, 8, 8, 8, 8, 8, 8, 8, 8, 8, 8, 8, 8, 8, 8, 8, 8, 8, 8, 8, 8, 8, 8, 8, 8, 8, 8, 8, 8, 8, 8, 8, 8, 8, 8, 8, 8, 8, 8, 8, 8, 8, 8, 8, 8, 8, 8, 8, 8, 8, 8, 8, 8, 8, 8, 8, 8, 8, 8, 8, 8, 8, 8, 8, 8, 8, 8, 8, 8, 8, 8]⟩ : ByteArray) (i.val : Int)).toNat ∧ (1 ≤ (i.val : Int) → 2 ^ (bt (⟨#[0, 1, 2, 2, 3, 3, 3, 3, 4, 4, 4, 4, 4, 4, 4, 4, 5, 5, 5, 5, 5, 5, 5, 5, 5, 5, 5, 5, 5, 5, 5, 5, 6, 6, 6, 6, 6, 6, 6, 6, 6, 6, 6, 6, 6, 6, 6, 6, 6, 6, 6, 6, 6, 6, 6, 6, 6, 6, 6, 6, 6, 6, 6, 6, 7, 7, 7, 7, 7, 7, 7, 7, 7, 7, 7, 7, 7, 7, 7, 7, 7, 7, 7, 7, 7, 7, 7, 7, 7, 7, 7, 7, 7, 7, 7, 7, 7, 7, 7, 7, 7, 7, 7, 7, 7, 7, 7, 7, 7, 7, 7, 7, 7, 7, 7, 7, 7, 7, 7, 7, 7, 7, 7, 7, 7, 7, 7, 7, 8, 8, 8, 8, 8, 8, 8, 8, 8, 8, 8, 8, 8, 8, 8, 8, 8, 8, 8, 8, 8, 8, 8, 8, 8, 8, 8, 8, 8, 8, 8, 8, 8, 8, 8, 8, 8, 8, 8, 8, 8, 8, 8, 8, 8, 8, 8, 8, 8, 8, 8, 8, 8, 8, 8, 8, 8, 8, 8, 8, 8, 8, 8, 8, 8, 8, 8, 8, 8, 8, 8, 8, 8, 8, 8, 8, 8, 8, 8, 8, 8, 8, 8, 8, 8, 8, 8, 8, 8, 8, 8, 8, 8, 8, 8, 8, 8, 8, 8, 8, 8, 8, 8, 8, 8, 8, 8, 8, 8, 8, 8, 8, 8, 8, 8, 8, 8, 8, 8, 8, 8, 8, 8, 8, 8, 8, 8, 8]⟩ : ByteArray) (i.val : Int)).toNat ≤ 2 * (i.val : Int)) := by decide +kernel
theorem tab_ok2 (i : Int) (h0 : 0 ≤ i) (h1 : i < 256) : ∃ m : Nat, m ≤ 8 ∧ bt (⟨#[0, 1, 2, 2, 3, 3, 3, 3, 4, 4, 4, 4, 4, 4, 4, 4, 5, 5, 5, 5, 5, 5, 5, 5, 5, 5, 5, 5, 5, 5, 5, 5, 6, 6, 6, 6, 6, 6, 6, 6, 6, 6, 6, 6, 6, 6, 6, 6, 6, 6, 6, 6, 6, 6, 6, 6, 6, 6, 6, 6, 6, 6, 6, 6, 7, 7, 7, 7, 7, 7, 7, 7, 7, 7, 7, 7, 7, 7, 7, 7, 7, 7, 7, 7, 7, 7, 7, 7, 7, 7, 7, 7, 7, 7, 7, 7, 7, 7, 7, 7, 7, 7, 7, 7, 7, 7, 7, 7, 7, 7, 7, 7, 7, 7, 7, 7, 7, 7, 7, 7, 7, 7, 7, 7, 7, 7, 7, 7, 8, 8, 8, 8, 8, 8, 8, 8, 8, 8, 8, 8, 8, 8, 8, 8, 8, 8, 8, 8, 8, 8, 8, 8, 8, 8, 8, 8, 8, 8, 8, 8, 8, 8, 8, 8, 8, 8, 8, 8, 8, 8, 8, 8, 8, 8, 8, 8, 8, 8, 8, 8, 8, 8, 8, 8, 8, 8, 8, 8, 8, 8, 8, 8, 8, 8, 8, 8, 8, 8, 8, 8, 8, 8, 8, 8, 8, 8, 8, 8, 8, 8, 8, 8, 8, 8, 8, 8, 8, 8, 8, 8, 8, 8, 8, 8, 8, 8, 8, 8, 8, 8, 8, 8, 8, 8, 8, 8, 8, 8, 8, 8, 8, 8, 8, 8, 8, 8, 8, 8, 8, 8, 8, 8, 8, 8, 8, 8]⟩ : ByteArray) i = (m : Int) ∧ i < 2 ^ m ∧ (1 ≤ i → 2 ^ m ≤ 2 * i) := by
  have h := tab_fin2 ⟨i.toNat, by omega⟩
  rw [show ((i.toNat : Nat) : Int) = i from by omega] at h
  exact ⟨(bt (⟨#[0, 1, 2, 2, 3, 3, 3, 3, 4, 4, 4, 4, 4, 4, 4, 4, 5, 5, 5, 5, 5, 5, 5, 5, 5, 5, 5, 5, 5, 5, 5, 5, 6, 6, 6, 6, 6, 6, 6, 6, 6, 6, 6, 6, 6, 6, 6, 6, 6, 6, 6, 6, 6, 6, 6, 6, 6, 6, 6, 6, 6, 6, 6, 6, 7, 7, 7, 7, 7, 7, 7, 7, 7, 7, 7, 7, 7, 7, 7, 7, 7, 7, 7, 7, 7, 7, 7, 7, 7, 7, 7, 7, 7, 7, 7, 7, 7, 7, 7, 7, 7, 7, 7, 7, 7, 7, 7, 7, 7, 7, 7, 7, 7, 7, 7, 7, 7, 7, 7, 7, 7, 7, 7, 7, 7, 7, 7, 7, 8, 8, 8, 8, 8, 8, 8, 8, 8, 8, 8, 8, 8, 8, 8, 8, 8, 8, 8, 8, 8, 8, 8, 8, 8, 8, 8, 8, 8, 8, 8, 8, 8, 8, 8, 8, 8, 8, 8, 8, 8, 8, 8, 8, 8, 8, 8, 8, 8, 8, 8, 8, 8, 8, 8, 8, 8, 8, 8, 8, 8, 8, 8, 8, 8, 8, 8, 8, 8, 8, 8, 8, 8, 8, 8, 8, 8, 8, 8, 8, 8, 8, 8, 8, 8, 8, 8, 8, 8, 8, 8, 8, 8, 8, 8, 8, 8, 8, 8, 8, 8, 8, 8, 8, 8, 8, 8, 8, 8, 8, 8, 8, 8, 8, 8, 8, 8, 8, 8, 8, 8, 8, 8, 8, 8, 8, 8, 8]⟩ : ByteArray) i).toNat, by omega, by omega, h.2.2⟩
theorem len_j2 {x y : Int} (hx : 0 ≤ x ∧ x < 4294967296) (hy : 0 ≤ y ∧ y ≤ 32) : ∃ m : Nat, m ≤ 32 ∧ x < 2 ^ m ∧ (1 ≤ x → 2 ^ m ≤ 2 * x) ∧ Ev (fun k => bits_Len64.j0 k x y) (y + m) := by
  have st : ∀ r : Int, (∀ k, bits_Len64.j0 (k + 1) x y = some r) → Ev (fun k => bits_Len64.j0 k x y) r := fun r h => Ev.step (f := fun _ => some r) h (Ev.now _)
  by_cases h1 : x ≥ 65536
  · by_cases h2 : x / 65536 ≥ 256
    · obtain ⟨m, m8, e, l, l'⟩ := tab_ok2 ((x / 65536 / 256) % 256) (by omega) (by omega)
      refine ⟨m + 24, by omega, ?_, ?_, st _ fun k => ?_⟩
      · rw [Int.pow_add, show (2 : Int) ^ 24 = 16777216 from by decide]; omega
      · rw [Int.pow_add, show (2 : Int) ^ 24 = 16777216 from by decide]; omega
      · rw [bits_Len64.j0, if_pos h1, if_pos h2, if_pos (by omega), if_pos (by omega), e, wsm (a := y + 16) (by omega) (by omega), wsm (a := y + 16 + 8) (by omega) (by omega), wsm (a := (m : Int)) (by omega) (by omega), wsm (by omega) (by omega)]
        exact congrArg some (by clear e; omega)
    · obtain ⟨m, m8, e, l, l'⟩ := tab_ok2 ((x / 65536) % 256) (by omega) (by omega)
      refine ⟨m + 16, by omega, ?_, ?_, st _ fun k => ?_⟩
      · rw [Int.pow_add, show (2 : Int) ^ 16 = 65536 from by decide]; omega
      · rw [Int.pow_add, show (2 : Int) ^ 16 = 65536 from by decide]; omega
      · rw [bits_Len64.j0, if_pos h1, if_neg h2, if_pos (by omega), if_pos (by omega), e, wsm (a := y + 16) (by omega) (by omega), wsm (a := (m : Int)) (by omega) (by omega), wsm (by omega) (by omega)]
        exact congrArg some (by clear e; omega)
  · by_cases h2 : x ≥ 256
    · obtain ⟨m, m8, e, l, l'⟩ := tab_ok2 ((x / 256) % 256) (by omega) (by omega)
      refine ⟨m + 8, by omega, ?_, ?_, st _ fun k => ?_⟩
      · rw [Int.pow_add, show (2 : Int) ^ 8 = 256 from by decide]; omega
      · rw [Int.pow_add, show (2 : Int) ^ 8 = 256 from by decide]; omega
      · rw [bits_Len64.j0, if_neg h1, if_pos h2, if_pos (by omega), if_pos (by omega), e, wsm (a := y + 8) (by omega) (by omega), wsm (a := (m : Int)) (by omega) (by omega), wsm (by omega) (by omega)]
        exact congrArg some (by clear e; omega)
    · obtain ⟨m, m8, e, l, l'⟩ := tab_ok2 (x % 256) (by omega) (by omega)
      refine ⟨m, by omega, by omega, by omega, st _ fun k => ?_⟩
      rw [bits_Len64.j0, if_neg h1, if_neg h2, if_pos (by omega), if_pos (by omega), e, wsm (a := (m : Int)) (by omega) (by omega), wsm (by omega) (by omega)]
theorem len_ev2 {x : Int} (hx : 0 ≤ x ∧ x < 18446744073709551616) : ∃ m : Nat, m ≤ 64 ∧ x < 2 ^ m ∧ (1 ≤ x → 2 ^ m ≤ 2 * x) ∧ Ev (fun k => bits_Len64.f k x) (m : Int) := by
  by_cases h : x ≥ 4294967296
  · obtain ⟨m, m1, l, l', e⟩ := len_j2 (x := x / 4294967296) (y := 32) (by omega) (by omega)
    refine ⟨m + 32, by omega, ?_, ?_, Ev.congr (fun k => by rw [bits_Len64.f, if_pos h]) (ev_eq (by omega) e)⟩
    · rw [Int.pow_add, show (2 : Int) ^ 32 = 4294967296 from by decide]; omega
    · rw [Int.pow_add, show (2 : Int) ^ 32 = 4294967296 from by decide]; omega
  · obtain ⟨m, m1, l, l', e⟩ := len_j2 (x := x) (y := 0) (by omega) (by omega)
    exact ⟨m, by omega, l, l', Ev.congr (fun k => by rw [bits_Len64.f, if_neg h]) (ev_eq (by omega) e)⟩

theorem kn_gt {q Q D N : Int} (hD : 0 < D) (h1 : Q * D ≤ N) (h : N < q * D) : Q < q := by
  apply Int.not_le.mp; intro g
  have := Int.mul_le_mul_of_nonneg_right g (show 0 ≤ D by omega); omega
theorem kn_le {q Q D N : Int} (hD : 0 < D) (h2 : N < (Q + 1) * D) (h : q * D ≤ N) : q ≤ Q := by
  apply Int.not_lt.mp; intro g
  have := Int.mul_le_mul_of_nonneg_right (show Q + 1 ≤ q by omega) (show 0 ≤ D by omega); omega
theorem div_l0 {y s y1 y0 U c Q : Int} {e : Int} {res : Int × Int} (hy1 : 2147483648 ≤ y1 ∧ y1 < 4294967296) (hy0 : 0 ≤ y0 ∧ y0 < 4294967296) (hy : y = y1 * 4294967296 + y0) (hc : 0 ≤ c ∧ c < 4294967296) (hQ : 0 ≤ Q ∧ Q < 4294967296)
    (h1 : Q * y ≤ U * 4294967296 + c) (h2 : U * 4294967296 + c < (Q + 1) * y) (hk : Ev (fun k => bits_Div64.j2 k y s y1 y0 U c e Q) res) :
    ∀ (n : Nat) (q r : Int), (4294967296 - r).toNat ≤ n → 0 ≤ r → r < 4294967296 → r = U - q * y1 → Q ≤ q → q ≤ 4294967297 → Ev (fun k => bits_Div64.l0 k y s y1 y0 U c e q r) res := by
  intro n
  induction n with
  | zero => intro q r h0 h3 h4; omega
  | succ n ih =>
    intro q r h0 h3 h4 h5 h6 h7
    have a : q * y = q * y1 * 4294967296 + q * y0 := by rw [hy, Int.mul_add, Int.mul_assoc]
    have a' : (q - 1) * y = q * y - y := by rw [Int.sub_mul, Int.one_mul]
    have b : (q - 1) * y1 = q * y1 - y1 := by rw [Int.sub_mul, Int.one_mul]
    have b0 : (q - 1) * y0 = q * y0 - y0 := by rw [Int.sub_mul, Int.one_mul]
    have p0 : 0 ≤ q * y0 := Int.mul_nonneg (by omega) hy0.1
    have yp : 0 < y := by omega
    have back : Q < q → Ev (fun k => bits_Div64.j1 k y s y1 y0 U c e q r true) res := by
      intro g
      have w1 : IntKind.u64.wrap (r + y1) = r + y1 := uw (by omega) (by omega)
      have w2 : IntKind.u64.wrap (q - 1) = q - 1 := uw (by omega) (by omega)
      by_cases t : r + y1 ≥ 4294967296
      · have m : (q - 1) * y0 ≤ 4294967296 * 4294967295 := Int.le_trans (Int.mul_le_mul_of_nonneg_right (show q - 1 ≤ 4294967296 by omega) hy0.1) (Int.mul_le_mul_of_nonneg_left (show y0 ≤ 4294967295 by omega) (by decide))
        have e : q - 1 = Q := by
          have := kn_le (q := q - 1) yp h2 (by rw [a', a]; omega)
          omega
        exact Ev.step (fun k => by rw [bits_Div64.j1, if_pos rfl, w1, if_pos t, w2, e]) hk
      · refine Ev.step (fun k => by rw [bits_Div64.j1, if_pos rfl, w1, if_neg t, w2]) (ih (q - 1) (r + y1) (by omega) (by omega) (by omega) (by omega) (by omega) (by omega))
    by_cases g1 : q ≥ 4294967296
    · exact Ev.step (fun k => by rw [bits_Div64.l0, if_pos g1]) (back (by omega))
    · have p1 : q * y0 ≤ 4294967295 * 4294967295 := Int.le_trans (Int.mul_le_mul_of_nonneg_right (show q ≤ 4294967295 by omega) hy0.1) (Int.mul_le_mul_of_nonneg_left (show y0 ≤ 4294967295 by omega) (by decide))
      have w3 : IntKind.u64.wrap (q * y0) = q * y0 := uw p0 (by omega)
      have w4 : IntKind.u64.wrap (4294967296 * r) = 4294967296 * r := uw (by omega) (by omega)
      have w5 : IntKind.u64.wrap (4294967296 * r + c) = 4294967296 * r + c := uw (by omega) (by omega)
      by_cases g2 : q * y0 > 4294967296 * r + c
      · exact Ev.step (fun k => by rw [bits_Div64.l0, if_neg g1, w3, w4, w5, decide_eq_true g2]) (back (kn_gt yp h1 (by rw [a]; omega)))
      · have e : q = Q := by
          have := kn_le (q := q) yp h2 (by rw [a]; omega)
          omega
        refine Ev.step (fun k => by rw [bits_Div64.l0, if_neg g1, w3, w4, w5, decide_eq_false g2]) ?_
        exact Ev.step (fun k => by rw [bits_Div64.j1, if_neg (by decide), e]) hk
theorem div_l1 {y s y1 y0 U c Q : Int} {Z : Int} {res : Int × Int} (hy1 : 2147483648 ≤ y1 ∧ y1 < 4294967296) (hy0 : 0 ≤ y0 ∧ y0 < 4294967296) (hy : y = y1 * 4294967296 + y0) (hc : 0 ≤ c ∧ c < 4294967296) (hQ : 0 ≤ Q ∧ Q < 4294967296)
    (h1 : Q * y ≤ U * 4294967296 + c) (h2 : U * 4294967296 + c < (Q + 1) * y) (hs : 0 ≤ s) (hk : res = (IntKind.u64.wrap ((IntKind.u64.wrap (Z * 4294967296)) + Q), shr .u64 (IntKind.u64.wrap ((IntKind.u64.wrap ((IntKind.u64.wrap (U * 4294967296)) + c)) - (IntKind.u64.wrap (Q * y)))) s)) :
    ∀ (n : Nat) (q r : Int), (4294967296 - r).toNat ≤ n → 0 ≤ r → r < 4294967296 → r = U - q * y1 → Q ≤ q → q ≤ 4294967297 → Ev (fun k => bits_Div64.l1 k y s y1 y0 c Z r U q) res := by
  intro n
  induction n with
  | zero => intro q r h0 h3 h4; omega
  | succ n ih =>
    intro q r h0 h3 h4 h5 h6 h7
    have a : q * y = q * y1 * 4294967296 + q * y0 := by rw [hy, Int.mul_add, Int.mul_assoc]
    have a' : (q - 1) * y = q * y - y := by rw [Int.sub_mul, Int.one_mul]
    have b : (q - 1) * y1 = q * y1 - y1 := by rw [Int.sub_mul, Int.one_mul]
    have b0 : (q - 1) * y0 = q * y0 - y0 := by rw [Int.sub_mul, Int.one_mul]
    have p0 : 0 ≤ q * y0 := Int.mul_nonneg (by omega) hy0.1
    have yp : 0 < y := by omega
    have back : Q < q → Ev (fun k => bits_Div64.j4 k y s y1 y0 c Z r U q true) res := by
      intro g
      have w1 : IntKind.u64.wrap (r + y1) = r + y1 := uw (by omega) (by omega)
      have w2 : IntKind.u64.wrap (q - 1) = q - 1 := uw (by omega) (by omega)
      by_cases t : r + y1 ≥ 4294967296
      · have m : (q - 1) * y0 ≤ 4294967296 * 4294967295 := Int.le_trans (Int.mul_le_mul_of_nonneg_right (show q - 1 ≤ 4294967296 by omega) hy0.1) (Int.mul_le_mul_of_nonneg_left (show y0 ≤ 4294967295 by omega) (by decide))
        have e : q - 1 = Q := by
          have := kn_le (q := q - 1) yp h2 (by rw [a', a]; omega)
          omega
        exact Ev.step (fun k => by rw [bits_Div64.j4, if_pos rfl, w1, if_pos t, if_pos hs, w2, e, ← hk]) (Ev.now res)
      · refine Ev.step (fun k => by rw [bits_Div64.j4, if_pos rfl, w1, if_neg t, w2]) (ih (q - 1) (r + y1) (by omega) (by omega) (by omega) (by omega) (by omega) (by omega))
    by_cases g1 : q ≥ 4294967296
    · exact Ev.step (fun k => by rw [bits_Div64.l1, if_pos g1]) (back (by omega))
    · have p1 : q * y0 ≤ 4294967295 * 4294967295 := Int.le_trans (Int.mul_le_mul_of_nonneg_right (show q ≤ 4294967295 by omega) hy0.1) (Int.mul_le_mul_of_nonneg_left (show y0 ≤ 4294967295 by omega) (by decide))
      have w3 : IntKind.u64.wrap (q * y0) = q * y0 := uw p0 (by omega)
      have w4 : IntKind.u64.wrap (4294967296 * r) = 4294967296 * r := uw (by omega) (by omega)
      have w5 : IntKind.u64.wrap (4294967296 * r + c) = 4294967296 * r + c := uw (by omega) (by omega)
      by_cases g2 : q * y0 > 4294967296 * r + c
      · exact Ev.step (fun k => by rw [bits_Div64.l1, if_neg g1, w3, w4, w5, decide_eq_true g2]) (back (kn_gt yp h1 (by rw [a]; omega)))
      · have e : q = Q := by
          have := kn_le (q := q) yp h2 (by rw [a]; omega)
          omega
        refine Ev.step (fun k => by rw [bits_Div64.l1, if_neg g1, w3, w4, w5, decide_eq_false g2]) ?_
        exact Ev.step (fun k => by rw [bits_Div64.j4, if_neg (by decide), if_pos hs, e, ← hk]) (Ev.now res)
theorem u64_eq (a : Int) : IntKind.u64.wrap a = a % 18446744073709551616 := by rw [IntKind.wrap_u64]
theorem step_facts {D N c U : Int} (hD : 0 < D) (hU : 0 ≤ U ∧ U < D) (hc : 0 ≤ c ∧ c < 4294967296) (hN : N = U * 4294967296 + c) : 0 ≤ N / D ∧ N / D < 4294967296 ∧ N / D * D ≤ N ∧ N < (N / D + 1) * D ∧ 0 ≤ N % D ∧ N % D < D ∧ N = N / D * D + N % D := by
  have e := Int.mul_ediv_add_emod N D
  have r0 := Int.emod_nonneg N (show D ≠ 0 by omega)
  have r1 := Int.emod_lt_of_pos N hD
  rw [Int.mul_comm] at e
  have f : (N / D + 1) * D = N / D * D + D := by rw [Int.add_mul, Int.one_mul]
  refine ⟨Int.ediv_nonneg (by omega) (by omega), Int.ediv_lt_of_lt_mul hD ?_, by omega, by omega, r0, r1, by omega⟩
  rw [Int.mul_comm]
  have : D * 4294967296 ≥ (U + 1) * 4294967296 := Int.mul_le_mul_of_nonneg_right (by omega) (by decide)
  omega
theorem first_q {y1 y0 Y U : Int} (hy1 : 2147483648 ≤ y1 ∧ y1 < 4294967296) (hy0 : 0 ≤ y0 ∧ y0 < 4294967296) (hy : Y = y1 * 4294967296 + y0) (hU : 0 ≤ U ∧ U < Y) :
    IntKind.u64.wrap (Int.tdiv U y1) = U / y1 ∧ IntKind.u64.wrap (U - IntKind.u64.wrap (U / y1 * y1)) = U % y1 ∧ U % y1 = U - U / y1 * y1 ∧ 0 ≤ U % y1 ∧ U % y1 < y1 ∧ 0 ≤ U / y1 ∧ U / y1 ≤ 4294967297 := by
  have e := Int.mul_ediv_add_emod U y1
  have r0 := Int.emod_nonneg U (show y1 ≠ 0 by omega)
  have r1 := Int.emod_lt_of_pos U (show 0 < y1 by omega)
  have q0 : 0 ≤ U / y1 := Int.ediv_nonneg (by omega) (by omega)
  have q1 : U / y1 ≤ 4294967297 := by
    apply Int.lt_add_one_iff.mp
    exact Int.ediv_lt_of_lt_mul (by omega) (by omega)
  rw [Int.mul_comm] at e
  refine ⟨?_, ?_, by omega, r0, r1, q0, q1⟩
  · rw [Int.tdiv_eq_ediv_of_nonneg hU.1, uw q0 (by omega)]
  · rw [uw (a := U / y1 * y1) (Int.mul_nonneg q0 (by omega)) (by omega), uw (by omega) (by omega)]; omega
theorem div_core {Y s y1 y0 U c e : Int} (hs : 0 ≤ s) (hy1 : 2147483648 ≤ y1 ∧ y1 < 4294967296) (hy0 : 0 ≤ y0 ∧ y0 < 4294967296) (hy : Y = y1 * 4294967296 + y0) (hU : 0 ≤ U ∧ U < Y) (hc : 0 ≤ c ∧ c < 4294967296) (he : 0 ≤ e ∧ e < 4294967296) :
    ∃ q r, Ev (fun k => bits_Div64.l0 k Y s y1 y0 U c e (IntKind.u64.wrap (Int.tdiv U y1)) (IntKind.u64.wrap (U - IntKind.u64.wrap (IntKind.u64.wrap (Int.tdiv U y1) * y1)))) (q, shr .u64 r s) ∧ U * 18446744073709551616 + (c * 4294967296 + e) = q * Y + r ∧ 0 ≤ r ∧ r < Y ∧ 0 ≤ q ∧ q < 18446744073709551616 := by
  obtain ⟨a1, a2, a3, a4, a5, a6, a7⟩ := first_q hy1 hy0 hy hU
  obtain ⟨b1, b2, b3, b4, b5, b6, b7⟩ := step_facts (show 0 < Y by omega) hU hc rfl
  rw [a1, a2]
  generalize hQ : (U * 4294967296 + c) / Y = Q at *
  generalize hR : (U * 4294967296 + c) % Y = R at *
  obtain ⟨c1, c2, c3, c4, c5, c6, c7⟩ := first_q hy1 hy0 hy ⟨b5, b6⟩
  obtain ⟨d1, d2, d3, d4, d5, d6, d7⟩ := step_facts (show 0 < Y by omega) ⟨b5, b6⟩ he rfl
  generalize hQ2 : (R * 4294967296 + e) / Y = Q2 at *
  generalize hR2 : (R * 4294967296 + e) % Y = R2 at *
  refine ⟨Q * 4294967296 + Q2, R2, ?_, ?_, d5, d6, by omega, by omega⟩
  · refine div_l0 hy1 hy0 hy hc ⟨b1, b2⟩ b3 b4 ?_ (4294967296 : Int).toNat _ _ (by omega) a4 (by omega) a3 ?_ a7
    · have w : IntKind.u64.wrap ((IntKind.u64.wrap ((IntKind.u64.wrap (U * 4294967296)) + c)) - (IntKind.u64.wrap (Q * Y))) = R := by
        rw [u64_eq, u64_eq, u64_eq, u64_eq]
        generalize Q * Y = p at *
        clear a1 a2 a3 c1 c2 c3
        omega
      have w2 : IntKind.u64.wrap ((IntKind.u64.wrap ((IntKind.u64.wrap (R * 4294967296)) + e)) - (IntKind.u64.wrap (Q2 * Y))) = R2 := by
        rw [u64_eq, u64_eq, u64_eq, u64_eq]
        generalize Q2 * Y = p at *
        generalize Q * Y = p' at *
        clear a1 a2 a3 c1 c2 c3
        omega
      refine Ev.step (fun k => by rw [bits_Div64.j2, if_neg (by omega), w, c1, c2]) ?_
      refine div_l1 hy1 hy0 hy he ⟨d1, d2⟩ d3 d4 hs ?_ (4294967296 : Int).toNat _ _ (by omega) c4 (by omega) c3 ?_ c7
      · rw [w2, uw (a := Q * 4294967296) (by omega) (by omega), uw (by omega) (by omega)]
      · have x : (R / y1 + 1) * y1 = R / y1 * y1 + y1 := by rw [Int.add_mul, Int.one_mul]
        have x2 : (R / y1 + 1) * Y = (R / y1 + 1) * y1 * 4294967296 + (R / y1 + 1) * y0 := by rw [hy, Int.mul_add, Int.mul_assoc]
        have x3 : 0 ≤ (R / y1 + 1) * y0 := Int.mul_nonneg (by omega) hy0.1
        have := kn_gt (q := R / y1 + 1) (show 0 < Y by omega) d3 (by rw [x2, x]; omega)
        omega
    · have x : (U / y1 + 1) * y1 = U / y1 * y1 + y1 := by rw [Int.add_mul, Int.one_mul]
      have x2 : (U / y1 + 1) * Y = (U / y1 + 1) * y1 * 4294967296 + (U / y1 + 1) * y0 := by rw [hy, Int.mul_add, Int.mul_assoc]
      have x3 : 0 ≤ (U / y1 + 1) * y0 := Int.mul_nonneg (by omega) hy0.1
      have := kn_gt (q := U / y1 + 1) (show 0 < Y by omega) b3 (by rw [x2, x]; omega)
      omega
  · have z : (Q * 4294967296 + Q2) * Y = Q * Y * 4294967296 + Q2 * Y := by rw [Int.add_mul, Int.mul_assoc, Int.mul_comm 4294967296 Y, ← Int.mul_assoc]
    rw [z]
    generalize Q2 * Y = p at *
    generalize Q * Y = p' at *
    clear a1 a2 a3 c1 c2 c3
    omega

theorem pw64 (m : Nat) (h : m ≤ 64) : (2 : Int) ^ m * 2 ^ (64 - m) = 18446744073709551616 ∧ 1 ≤ (2 : Int) ^ m ∧ 1 ≤ (2 : Int) ^ (64 - m) := by
  have : ∀ m : Fin 65, (2 : Int) ^ m.val * 2 ^ (64 - m.val) = 18446744073709551616 ∧ 1 ≤ (2 : Int) ^ m.val ∧ 1 ≤ (2 : Int) ^ (64 - m.val) := by decide +kernel
  exact this ⟨m, by omega⟩
theorem shl_u (x : Int) (n : Nat) (h : n ≤ 64) : shl .u64 x (n : Int) = (x * 2 ^ n) % 18446744073709551616 := by
  unfold shl
  rw [Int.toNat_natCast, show IntKind.u64.bits = 64 from rfl, Nat.min_eq_left h, u64_eq]
theorem shr_u (x : Int) (n : Nat) (h : n ≤ 64) : shr .u64 x (n : Int) = x / 2 ^ n := by
  unfold shr
  rw [Int.toNat_natCast, show IntKind.u64.bits = 64 from rfl, Nat.min_eq_left h]
theorem or_add {a b : Int} (n : Nat) (ha : 0 ≤ a) (hb : 0 ≤ b ∧ b < 2 ^ n) (h : a * 2 ^ n + b < 18446744073709551616) : Go.bits .or .u64 (a * 2 ^ n) b = a * 2 ^ n + b := by
  obtain ⟨A, rfl⟩ := Int.eq_ofNat_of_zero_le ha
  obtain ⟨B, rfl⟩ := Int.eq_ofNat_of_zero_le hb.1
  have e : (A : Int) * 2 ^ n = ((A * 2 ^ n : Nat) : Int) := by simp
  have hb2 : B < 2 ^ n := by
    have := hb.2
    rw [show (2 : Int) ^ n = ((2 ^ n : Nat) : Int) from by simp] at this
    omega
  rw [e] at h ⊢
  have o := Nat.shiftLeft_add_eq_or_of_lt hb2 A
  rw [Nat.shiftLeft_eq] at o
  generalize A * 2 ^ n = C at *
  show IntKind.u64.wrap ((BitVec.ofInt 64 (C : Int) ||| BitVec.ofInt 64 (B : Int)).toNat : Int) = _
  rw [BitVec.toNat_or, BitVec.toNat_ofInt, BitVec.toNat_ofInt]
  rw [show ((C : Int) % ((2 ^ 64 : Nat) : Int)).toNat = C from by omega, show ((B : Int) % ((2 ^ 64 : Nat) : Int)).toNat = B from by omega, ← o, u64_eq]
  omega
theorem div64_ev {hi lo y : Int} (hlo : 0 ≤ lo ∧ lo < 18446744073709551616) (hhi : 0 ≤ hi ∧ hi < y) (hy : y < 18446744073709551616) :
    Ev (fun k => bits_Div64.f k hi lo y) ((hi * 18446744073709551616 + lo) / y, (hi * 18446744073709551616 + lo) % y) := by
  by_cases h0 : hi = 0
  · subst h0
    have q0 : 0 ≤ lo / y := Int.ediv_nonneg hlo.1 (by omega)
    have q1 : lo / y ≤ lo := Int.ediv_le_self _ hlo.1
    rw [show (0 : Int) * 18446744073709551616 + lo = lo from by omega]
    exact Ev.congr (fun k => by rw [bits_Div64.f, if_neg (by omega), if_neg (by omega), if_pos rfl, Int.tdiv_eq_ediv_of_nonneg hlo.1, Int.tmod_eq_emod_of_nonneg hlo.1, uw q0 (by omega)]) (Ev.now _)
  obtain ⟨m, m1, l, l', ev⟩ := len_ev2 (x := y) (by omega)
  have l' := l' (by omega)
  obtain ⟨n, hn⟩ : ∃ n : Nat, n = 64 - m := ⟨_, rfl⟩
  have pw := pw64 m m1
  rw [← hn] at pw
  obtain ⟨pw1, pw2, pw3⟩ := pw
  -- the shifted divisor
  have Y0 : y * 2 ^ n < 18446744073709551616 := by
    rw [← pw1]
    have := Int.mul_le_mul_of_nonneg_right (show y + 1 ≤ 2 ^ m by omega) (show 0 ≤ (2 : Int) ^ n by omega)
    rw [Int.add_mul, Int.one_mul] at this
    omega
  have Y1 : 9223372036854775808 ≤ y * 2 ^ n := by
    have := Int.mul_le_mul_of_nonneg_right l' (show 0 ≤ (2 : Int) ^ n by omega)
    rw [pw1, Int.mul_assoc] at this
    omega
  have sY : shl .u64 y (n : Int) = y * 2 ^ n := by rw [shl_u _ _ (by omega)]; exact Int.emod_eq_of_lt (by omega) Y0
  -- the shifted number
  have H0 : hi * 2 ^ n + 2 ^ n ≤ y * 2 ^ n := by
    have := Int.mul_le_mul_of_nonneg_right (show hi + 1 ≤ y by omega) (show 0 ≤ (2 : Int) ^ n by omega)
    rw [Int.add_mul, Int.one_mul] at this
    exact this
  have H1 : 0 ≤ hi * 2 ^ n := Int.mul_nonneg hhi.1 (by omega)
  have T0 : 0 ≤ lo / 2 ^ m := Int.ediv_nonneg hlo.1 (by omega)
  have T1 : lo / 2 ^ m < 2 ^ n := Int.ediv_lt_of_lt_mul (by omega) (by rw [Int.mul_comm, pw1]; omega)
  have sH : shl .u64 hi (n : Int) = hi * 2 ^ n := by rw [shl_u _ _ (by omega)]; exact Int.emod_eq_of_lt H1 (by omega)
  have sU : Go.bits .or .u64 (hi * 2 ^ n) (lo / 2 ^ m) = hi * 2 ^ n + lo / 2 ^ m := or_add n hhi.1 ⟨T0, T1⟩ (by omega)
  have sL : shl .u64 lo (n : Int) = (lo * 2 ^ n) % 18446744073709551616 := shl_u _ _ (by omega)
  have dL : lo * 2 ^ n / 18446744073709551616 = lo / 2 ^ m := by rw [← pw1, Int.mul_ediv_mul_of_pos_left _ _ (by omega)]
  have eL : lo * 2 ^ n = lo / 2 ^ m * 18446744073709551616 + lo * 2 ^ n % 18446744073709551616 := by rw [← dL]; omega
  have N1 : (hi * 18446744073709551616 + lo) * 2 ^ n = (hi * 2 ^ n + lo / 2 ^ m) * 18446744073709551616 + lo * 2 ^ n % 18446744073709551616 := by
    rw [Int.add_mul, Int.mul_assoc, Int.mul_comm 18446744073709551616, ← Int.mul_assoc]; omega
  generalize hL : lo * 2 ^ n % 18446744073709551616 = L at *
  have L0 : 0 ≤ L ∧ L < 18446744073709551616 := by omega
  generalize hU : hi * 2 ^ n + lo / 2 ^ m = U at *
  have U0 : 0 ≤ U ∧ U < y * 2 ^ n := by omega
  have lz : Ev (fun k => bits_LeadingZeros64.f k y) (n : Int) := by
    refine Ev.congr (fun k => by rw [bits_LeadingZeros64.f]) (Ev.bind ev ?_)
    have : wrap64 (64 - (m : Int)) = (n : Int) := by
      clear pw1 pw2 pw3 l l' N1 eL dL
      rw [wsm (by omega) (by omega)]; omega
    rw [this]; exact Ev.now _
  generalize hY : y * 2 ^ n = Y at *
  obtain ⟨q, r, ev2, f1, f2, f3, f4, f5⟩ := div_core (Y := Y) (s := (n : Int)) (y1 := Y / 4294967296) (y0 := Y % 4294967296) (U := U) (c := L / 4294967296) (e := L % 4294967296) (by omega) (by omega) (by omega) (by omega) U0 (by omega) (by omega)
  -- the answer
  have A1 : (hi * 18446744073709551616 + lo - q * y) * 2 ^ n = r := by
    rw [Int.sub_mul, N1, Int.mul_assoc, hY]; omega
  have A2 : r / 2 ^ n = hi * 18446744073709551616 + lo - q * y := by rw [← A1]; exact Int.mul_ediv_cancel _ (by omega)
  have A3 : 0 ≤ r / 2 ^ n := Int.ediv_nonneg f2 (by omega)
  have A4 : r / 2 ^ n < y := Int.ediv_lt_of_lt_mul (by omega) (by rw [hY]; exact f3)
  have D1 : (hi * 18446744073709551616 + lo) / y = q := by
    rw [show hi * 18446744073709551616 + lo = r / 2 ^ n + y * q from by rw [A2, Int.mul_comm y q]; omega, Int.add_mul_ediv_left _ _ (by omega), Int.ediv_eq_zero_of_lt A3 A4]; omega
  have D2 : (hi * 18446744073709551616 + lo) % y = r / 2 ^ n := by
    rw [show hi * 18446744073709551616 + lo = r / 2 ^ n + y * q from by rw [A2, Int.mul_comm y q]; omega, Int.add_mul_emod_self_left, Int.emod_eq_of_lt A3 A4]
  rw [shr_u _ _ (by omega)] at ev2
  rw [D1, D2]
  refine Ev.congr (fun k => by rw [bits_Div64.f, if_neg (by omega), if_neg (by omega), if_neg h0]) (Ev.bind lz ?_)
  have w1 : IntKind.u64.wrap (n : Int) = (n : Int) := uw (by omega) (by clear pw1 pw2 pw3 l l' N1 eL dL; omega)
  have w2 : IntKind.u64.wrap (64 - (n : Int)) = (m : Int) := by
    clear pw1 pw2 pw3 l l' N1 eL dL
    rw [uw (by omega) (by omega)]; omega
  refine Ev.congr (fun k => by rw [w1, w2, if_pos (by omega), if_pos (by omega), sY, sH, sL, shr_u _ _ m1, sU, and32 (by omega) (by omega), and32 L0.1 L0.2, if_neg (by omega)]) ev2

theorem ediv_eq {N D f r : Int} (e : N = D * f + r) (h0 : 0 ≤ r) (h1 : r < D) : N / D = f := by
  rw [e, Int.add_comm, Int.add_mul_ediv_left _ _ (by omega), Int.ediv_eq_zero_of_lt h0 h1]; omega
theorem prod63 {x y : Int} (hx : 0 ≤ x ∧ x ≤ 9223372036854775808) (hy : 0 ≤ y ∧ y ≤ 9223372036854775808) : 0 ≤ x * y ∧ x * y ≤ 9223372036854775808 * 9223372036854775808 :=
  ⟨Int.mul_nonneg hx.1 hy.1, Int.le_trans (Int.mul_le_mul_of_nonneg_right hx.2 hy.1) (Int.mul_le_mul_of_nonneg_left hy.2 (by decide))⟩
theorem sat_lo {n : Int} (h : n ≤ -9223372036854775808) : sat n = -9223372036854775808 := by
  unfold sat; split
  · omega
  · split <;> omega
theorem sat_hi {n : Int} (h : n ≥ 9223372036854775807) : sat n = 9223372036854775807 := by
  unfold sat; split
  · rfl
  · split <;> omega
theorem div_facts {N D : Int} (hN : 0 ≤ N) (hD : 1 ≤ D) : N = D * (N / D) + N % D ∧ 0 ≤ N / D ∧ 0 ≤ N % D ∧ N % D < D :=
  ⟨(Int.mul_ediv_add_emod N D).symm, Int.ediv_nonneg hN (by omega), Int.emod_nonneg N (by omega), Int.emod_lt_of_pos N (by omega)⟩
theorem tail_ev {x y D : Int} (d : Int) (hx : 0 ≤ x ∧ x ≤ 9223372036854775808) (hy : 0 ≤ y ∧ y ≤ 9223372036854775808) (hD : 1 ≤ D ∧ D ≤ 9223372036854775808) (hd : fix_size.f d = some D) :
    Ev (fun k => (bits_Mul64.f x y).bind fun bt => ((fix_size.f d).bind fun t => (if bt.1 ≥ t then ((fix_signed.f k 18446744073709551615 false).bind fun t => (some (t, (0 : Int)))) else ((bits_Div64.f k bt.1 bt.2 t).bind fun bt2 => ((fix_signed.f k bt2.1 false).bind fun t => (some (t, 0))))))) (sat (x * y / D), 0) := by
  have p := prod63 hx hy
  refine Ev.congr (fun k => by rw [mul64_f ⟨hx.1, by omega⟩ ⟨hy.1, by omega⟩, hd]) ?_
  generalize x * y = N at *
  refine Ev.bind (f := fun k t => _) (Ev.now _) (Ev.bind (f := fun k t => _) (Ev.now _) ?_)
  obtain ⟨e, q0, r0, r1⟩ := div_facts p.1 hD.1
  by_cases h : N / 18446744073709551616 ≥ D
  · refine Ev.congr (fun k => by rw [if_pos h]) ?_
    have : N / D ≥ 9223372036854775807 := Int.le_ediv_of_mul_le (by omega) (by omega)
    rw [sat_hi this]
    exact Ev.bind (signed_ev (n := 18446744073709551615) ⟨by decide, by decide⟩ false) (by rw [if_neg (by decide), sat_hi (by decide)]; exact Ev.now _)
  · refine Ev.congr (fun k => by rw [if_neg h]) ?_
    have dv := div64_ev (hi := N / 18446744073709551616) (lo := N % 18446744073709551616) (y := D) ⟨by omega, by omega⟩ ⟨by omega, by omega⟩ (by omega)
    rw [show N / 18446744073709551616 * 18446744073709551616 + N % 18446744073709551616 = N from by omega] at dv
    have q1 : N / D < 18446744073709551616 := Int.ediv_lt_of_lt_mul (by omega) (by omega)
    exact Ev.bind dv (Ev.bind (signed_ev ⟨q0, q1⟩ false) (by rw [if_neg (by decide)]; exact Ev.now _))
theorem tail_neg {x y D : Int} (d : Int) (hx : 0 ≤ x ∧ x ≤ 9223372036854775808) (hy : 0 ≤ y ∧ y ≤ 9223372036854775808) (hD : 1 ≤ D ∧ D ≤ 9223372036854775808) (hd : fix_size.f d = some D) :
    Ev (fun k => (bits_Mul64.f x y).bind fun bt => ((fix_size.f d).bind fun t => (if bt.1 ≥ t then ((fix_signed.f k 18446744073709551615 true).bind fun t => (some (t, (0 : Int)))) else ((bits_Div64.f k bt.1 bt.2 t).bind fun bt2 => (if bt2.2 > 0 then (if bt2.1 < 18446744073709551615 then ((fix_signed.f k (IntKind.u64.wrap (bt2.1 + 1)) true).bind fun t => (some (t, 0))) else ((fix_signed.f k bt2.1 true).bind fun t => (some (t, 0)))) else ((fix_signed.f k bt2.1 true).bind fun t => (some (t, 0)))))))) (sat ((-(x * y)) / D), 0) := by
  have p := prod63 hx hy
  refine Ev.congr (fun k => by rw [mul64_f ⟨hx.1, by omega⟩ ⟨hy.1, by omega⟩, hd]) ?_
  generalize x * y = N at *
  refine Ev.bind (f := fun k t => _) (Ev.now _) (Ev.bind (f := fun k t => _) (Ev.now _) ?_)
  obtain ⟨e, q0, r0, r1⟩ := div_facts p.1 hD.1
  by_cases h : N / 18446744073709551616 ≥ D
  · refine Ev.congr (fun k => by rw [if_pos h]) ?_
    have : (-N) / D ≤ -9223372036854775808 := by
      apply Int.lt_add_one_iff.mp
      exact Int.ediv_lt_of_lt_mul (by omega) (by omega)
    rw [sat_lo this]
    exact Ev.bind (signed_ev (n := 18446744073709551615) ⟨by decide, by decide⟩ true) (by rw [if_pos rfl, sat_lo (by decide)]; exact Ev.now _)
  · refine Ev.congr (fun k => by rw [if_neg h]) ?_
    have dv := div64_ev (hi := N / 18446744073709551616) (lo := N % 18446744073709551616) (y := D) ⟨by omega, by omega⟩ ⟨by omega, by omega⟩ (by omega)
    rw [show N / 18446744073709551616 * 18446744073709551616 + N % 18446744073709551616 = N from by omega] at dv
    have q1 : N / D < 18446744073709551616 := Int.ediv_lt_of_lt_mul (by omega) (by omega)
    refine Ev.bind dv ?_
    by_cases r2 : N % D > 0
    · have v : (-N) / D = -(N / D + 1) := ediv_eq (r := D - N % D) (by rw [Int.mul_neg, Int.mul_add, Int.mul_one]; omega) (by omega) (by omega)
      rw [v]
      by_cases q2 : N / D < 18446744073709551615
      · refine Ev.congr (fun k => by rw [if_pos r2, if_pos q2, uw (a := N / D + 1) (by omega) (by omega)]) ?_
        exact Ev.bind (signed_ev ⟨by omega, by omega⟩ true) (by rw [if_pos rfl]; exact Ev.now _)
      · refine Ev.congr (fun k => by rw [if_pos r2, if_neg q2]) ?_
        rw [sat_lo (by omega)]
        exact Ev.bind (signed_ev ⟨q0, q1⟩ true) (by rw [if_pos rfl, sat_lo (by omega)]; exact Ev.now _)
    · have v : (-N) / D = -(N / D) := ediv_eq (r := 0) (by rw [Int.mul_neg]; omega) (by omega) (by omega)
      rw [v]
      refine Ev.congr (fun k => by rw [if_neg r2]) ?_
      exact Ev.bind (signed_ev ⟨q0, q1⟩ true) (by rw [if_pos rfl]; exact Ev.now _)
def md (a b d : Int) : Int := (if d < 0 then -(a * b) else a * b) / (if d < 0 then -d else d)
theorem muldiv_ev {a b d : Int} (A : I64 a) (B : I64 b) (D : I64 d) (hd : d ≠ 0) : Ev (fun k => fix_MulDiv.f k a b d) (sat (md a b d), 0) := by
  have sa := size_f A
  have sb := size_f B
  have sd := size_f D
  unfold I64 at A B D
  unfold md
  by_cases h1 : a < 0 <;> by_cases h2 : b < 0 <;> by_cases h3 : d < 0 <;> simp only [h1, h2, h3, if_true, if_false] at sa sb sd ⊢
  · rw [show -(a * b) = -(-a * -b) from by rw [Int.neg_mul_neg]]
    exact Ev.congr (fun k => by rw [fix_MulDiv.f, if_pos h1, if_pos h2, if_pos h3, if_neg hd, sa, sb]; rfl) (tail_neg d (by omega) (by omega) (by omega) sd)
  · rw [show a * b = -a * -b from by rw [Int.neg_mul_neg]]
    exact Ev.congr (fun k => by rw [fix_MulDiv.f, if_pos h1, if_pos h2, if_neg h3, if_neg hd, sa, sb]; rfl) (tail_ev d (by omega) (by omega) (by omega) sd)
  · rw [show -(a * b) = -a * b from by rw [Int.neg_mul]]
    exact Ev.congr (fun k => by rw [fix_MulDiv.f, if_pos h1, if_neg h2, if_pos h3, if_neg hd, sa, sb]; rfl) (tail_ev d (by omega) (by omega) (by omega) sd)
  · rw [show a * b = -(-a * b) from by rw [Int.neg_mul, Int.neg_neg]]
    exact Ev.congr (fun k => by rw [fix_MulDiv.f, if_pos h1, if_neg h2, if_neg h3, if_neg hd, sa, sb]; rfl) (tail_neg d (by omega) (by omega) (by omega) sd)
  · rw [show -(a * b) = a * -b from by rw [Int.mul_neg]]
    exact Ev.congr (fun k => by rw [fix_MulDiv.f, if_neg h1, if_pos h2, if_pos h3, if_neg hd, sa, sb]; rfl) (tail_ev d (by omega) (by omega) (by omega) sd)
  · rw [show a * b = -(a * -b) from by rw [Int.mul_neg, Int.neg_neg]]
    exact Ev.congr (fun k => by rw [fix_MulDiv.f, if_neg h1, if_pos h2, if_neg h3, if_neg hd, sa, sb]; rfl) (tail_neg d (by omega) (by omega) (by omega) sd)
  · exact Ev.congr (fun k => by rw [fix_MulDiv.f, if_neg h1, if_neg h2, if_pos h3, if_neg hd, sa, sb]; rfl) (tail_neg d (by omega) (by omega) (by omega) sd)
  · exact Ev.congr (fun k => by rw [fix_MulDiv.f, if_neg h1, if_neg h2, if_neg h3, if_neg hd, sa, sb]; rfl) (tail_ev d (by omega) (by omega) (by omega) sd)

theorem tq_pos2 (a : Int) (ha : 0 ≤ a) : Int.tdiv a 2 = a / 2 ∧ Int.tmod a 2 = a % 2 := ⟨Int.tdiv_eq_ediv_of_nonneg ha, Int.tmod_eq_emod_of_nonneg ha⟩
theorem tq_neg2 (a : Int) (ha : a < 0) : Int.tdiv a 2 = -((-a) / 2) ∧ Int.tmod a 2 = -((-a) % 2) := by
  have h := tq_pos2 (-a) (by omega)
  rw [Int.neg_tdiv, Int.neg_tmod] at h
  omega
theorem floor2_f {a : Int} (ha : I64 a) : windhoverref01_Floor.f a 2 = some (a / 2) := by
  rw [windhoverref01_Floor.f, if_neg (by decide)]
  unfold I64 at ha
  by_cases h : 0 ≤ a
  · obtain ⟨e1, e2⟩ := tq_pos2 a h
    rw [e1, e2, if_neg (by omega), wsm (by omega) (by omega)]
  · obtain ⟨e1, e2⟩ := tq_neg2 a (by omega)
    rw [e1, e2]
    by_cases g : -((-a) % 2) < 0
    · rw [if_pos g, wsm (a := -((-a) / 2)) (by omega) (by omega), wsm (by omega) (by omega)]; congr 1; omega
    · rw [if_neg g, wsm (by omega) (by omega)]; congr 1; omega
theorem rmiddle_ev {a b : Int} (A : I64 a) (B : I64 b) : Ev (fun k => windhoverref01_Middle.f k a b) ((a + b) / 2) := by
  obtain ⟨b1, d1, o1, w1⟩ := of_ev a A.1 A.2
  obtain ⟨b2, d2, o2, w2⟩ := of_ev b B.1 B.2
  obtain ⟨c, z, p, w⟩ := plus_ev w1 w2 (by decide)
  have hi := int_ev w (by decide)
  refine Ev.congr (fun k => by rw [windhoverref01_Middle.f]) (Ev.bind o1 (Ev.bind o2 (Ev.bind p (Ev.bind hi ?_))))
  unfold I64 at A B
  by_cases h : -9223372036854775808 ≤ a + b ∧ a + b ≤ 9223372036854775807
  · rw [if_pos h]
    refine Ev.congr (fun k => by rw [if_pos rfl, floor2_f h]; rfl) (Ev.now _)
  · rw [if_neg h]
    have ta : (0 ≤ a ∧ Int.tdiv a 2 = a / 2 ∧ Int.tmod a 2 = a % 2) ∨ (a < 0 ∧ Int.tdiv a 2 = -((-a) / 2) ∧ Int.tmod a 2 = -((-a) % 2)) := by
      by_cases g : 0 ≤ a
      · exact .inl ⟨g, tq_pos2 a g⟩
      · exact .inr ⟨by omega, tq_neg2 a (by omega)⟩
    have tb : (0 ≤ b ∧ Int.tdiv b 2 = b / 2 ∧ Int.tmod b 2 = b % 2) ∨ (b < 0 ∧ Int.tdiv b 2 = -((-b) / 2) ∧ Int.tmod b 2 = -((-b) % 2)) := by
      by_cases g : 0 ≤ b
      · exact .inl ⟨g, tq_pos2 b g⟩
      · exact .inr ⟨by omega, tq_neg2 b (by omega)⟩
    generalize Int.tdiv a 2 = q1 at *
    generalize Int.tmod a 2 = r1 at *
    generalize Int.tdiv b 2 = q2 at *
    generalize Int.tmod b 2 = r2 at *
    clear hi p o1 o2
    have w0 : wrap64 (r1 + r2) = r1 + r2 := wsm (by omega) (by omega)
    have wa : wrap64 q1 = q1 := wsm (by omega) (by omega)
    have wb : wrap64 q2 = q2 := wsm (by omega) (by omega)
    have wc : wrap64 (q1 + q2) = q1 + q2 := wsm (by omega) (by omega)
    have wd : wrap64 (q1 + q2 + (r1 + r2) / 2) = q1 + q2 + (r1 + r2) / 2 := wsm (by omega) (by omega)
    have fl := floor2_f (a := r1 + r2) (by unfold I64; omega)
    refine Ev.congr (fun k => by rw [if_neg (by decide), w0, fl]) ?_
    refine Ev.bind (f := fun k t => _) (Ev.now _) ?_
    refine Ev.congr (fun k => by rw [wa, wb, wc, wd]) (ev_eq (by omega) (Ev.now _))
theorem over_loop {Ln Ld : Nat} {bn bd : Bool} {xn xd : List Int} {N D : Int} (wn : W Ln bn xn N) (wd : W Ld bd xd D) (hLn : Ln ≤ 20) (hLd : Ld ≤ 20) (hD : 1 ≤ D) :
    ∀ (n : Nat) (lo hi : Int), (hi - lo).toNat ≤ n → I64 lo → I64 hi → lo ≤ N / D → N / D ≤ hi → Ev (fun k => windhoverref01_over.l0 k lo hi bn xn bd xd) (N / D) := by
  intro n
  induction n with
  | zero =>
    intro lo hi h0 A B h1 h2
    exact Ev.step (fun k => by rw [windhoverref01_over.l0, if_neg (by omega)]) (ev_eq (by omega) (Ev.now lo))
  | succ n ih =>
    intro lo hi h0 A B h1 h2
    by_cases g : lo < hi
    · unfold I64 at A B
      have w : wrap64 ((lo + hi) / 2 + 1) = (lo + hi) / 2 + 1 := wsm (by omega) (by omega)
      obtain ⟨b1, d1, o1, w1⟩ := of_ev ((lo + hi) / 2 + 1) (by omega) (by omega)
      obtain ⟨c, z, p, v⟩ := times_ev w1 wd (by decide) (by omega)
      obtain ⟨r, q, sg⟩ := cmp_ev (v.mono (show 3 + Ld ≤ 40 by omega)) (wn.mono (show Ln ≤ 40 by omega)) (by decide)
      refine Ev.step (fun k => by rw [windhoverref01_over.l0, if_pos g]) ?_
      refine Ev.bind (rmiddle_ev A B) ?_
      refine Ev.congr (fun k => by rw [w]) (Ev.bind o1 (Ev.bind p (Ev.bind q ?_)))
      unfold Sg at sg
      by_cases t : r ≤ 0
      · have : (lo + hi) / 2 + 1 ≤ N / D := Int.le_ediv_of_mul_le (by omega) (by omega)
        refine Ev.congr (fun k => by rw [if_pos t]) (ih _ _ (by omega) (by unfold I64; omega) B this h2)
      · have : N / D < (lo + hi) / 2 + 1 := Int.ediv_lt_of_lt_mul (by omega) (by omega)
        refine Ev.congr (fun k => by rw [if_neg t]) (ih _ _ (by omega) A (by unfold I64; omega) h1 (by omega))
    · exact Ev.step (fun k => by rw [windhoverref01_over.l0, if_neg g]) (ev_eq (by omega) (Ev.now lo))
theorem over_ev {Ln Ld : Nat} {bn bd : Bool} {xn xd : List Int} {N D : Int} (wn : W Ln bn xn N) (wd : W Ld bd xd D) (hLn : Ln ≤ 20) (hLd : Ld ≤ 20) (hD : 1 ≤ D) :
    Ev (fun k => windhoverref01_over.f k bn xn bd xd) (sat (N / D)) := by
  obtain ⟨b1, d1, o1, w1⟩ := of_ev 9223372036854775807 (by decide) (by decide)
  obtain ⟨b2, d2, o2, w2⟩ := of_ev (-9223372036854775808) (by decide) (by decide)
  obtain ⟨c1, z1, p1, v1⟩ := times_ev w1 wd (by decide) (by omega)
  obtain ⟨c2, z2, p2, v2⟩ := times_ev w2 wd (by decide) (by omega)
  obtain ⟨r1, q1, s1⟩ := cmp_ev (wn.mono (show Ln ≤ 40 by omega)) (v1.mono (show 3 + Ld ≤ 40 by omega)) (by decide)
  obtain ⟨r2, q2, s2⟩ := cmp_ev (wn.mono (show Ln ≤ 40 by omega)) (v2.mono (show 3 + Ld ≤ 40 by omega)) (by decide)
  unfold Sg at s1 s2
  refine Ev.congr (fun k => by rw [windhoverref01_over.f]) (Ev.bind o1 (Ev.bind p1 (Ev.bind q1 ?_)))
  by_cases t1 : r1 ≥ 0
  · rw [sat_hi (Int.le_ediv_of_mul_le (by omega) (by omega))]
    exact Ev.congr (fun k => by rw [if_pos t1]) (Ev.now _)
  · refine Ev.congr (fun k => by rw [if_neg t1]) (Ev.bind o2 (Ev.bind p2 (Ev.bind q2 ?_)))
    have f1 : N / D < 9223372036854775807 := Int.ediv_lt_of_lt_mul (by omega) (by omega)
    by_cases t2 : r2 < 0
    · have : N / D < -9223372036854775808 := Int.ediv_lt_of_lt_mul (by omega) (by omega)
      rw [sat_lo (by omega)]
      exact Ev.congr (fun k => by rw [if_pos t2]) (Ev.now _)
    · have f2 : -9223372036854775808 ≤ N / D := Int.le_ediv_of_mul_le (by omega) (by omega)
      refine Ev.congr (fun k => by rw [if_neg t2]) (ev_eq ?_ (over_loop wn wd hLn hLd hD _ _ _ (Nat.le_refl _) ⟨by decide, by decide⟩ ⟨by decide, by decide⟩ f2 (by omega)))
      unfold sat; rw [if_neg (by omega), if_neg (by omega)]
theorem rmuldiv_ev {a b d : Int} (A : I64 a) (B : I64 b) (D : I64 d) (hd : d ≠ 0) : Ev (fun k => windhoverref01_MulDiv.f k a b d) (sat (md a b d), 0) := by
  obtain ⟨b1, d1, o1, w1⟩ := of_ev a A.1 A.2
  obtain ⟨b2, d2, o2, w2⟩ := of_ev b B.1 B.2
  obtain ⟨b3, d3, o3, w3⟩ := of_ev d D.1 D.2
  obtain ⟨b4, d4, o4, w4⟩ := of_ev 0 (by decide) (by decide)
  obtain ⟨c1, z1, p1, v1⟩ := times_ev w1 w2 (by decide) (by decide)
  refine Ev.congr (fun k => by rw [windhoverref01_MulDiv.f, if_neg hd]) (Ev.bind o1 (Ev.bind o2 (Ev.bind p1 (Ev.bind o3 ?_))))
  unfold md
  by_cases h : d < 0
  · obtain ⟨c2, z2, p2, v2⟩ := minus_ev (w4.mono (show 3 ≤ 6 by decide)) v1 (by decide)
    obtain ⟨c3, z3, p3, v3⟩ := minus_ev w4 w3 (by decide)
    rw [Int.zero_sub] at v2 v3
    rw [if_pos h, if_pos h]
    exact Ev.congr (fun k => by rw [if_pos h]) (Ev.bind o4 (Ev.bind p2 (Ev.bind o4 (Ev.bind p3 (Ev.bind (f := fun _ t => some (t, (0 : Int))) (over_ev v2 v3 (by decide) (by decide) (by omega)) (Ev.now _))))))
  · rw [if_neg h, if_neg h]
    exact Ev.congr (fun k => by rw [if_neg h]) (Ev.bind (f := fun _ t => some (t, (0 : Int))) (over_ev v1 w3 (by decide) (by decide) (by omega)) (Ev.now _))

theorem shares_tail {Ln Ld : Nat} {bn bd : Bool} {xn xd : List Int} {N D v : Int} (wn : W Ln bn xn N) (wd : W Ld bd xd D) (hLn : Ln ≤ 20) (hLd : Ld ≤ 20) (h1 : v * D ≤ N) (h2 : N < (v + 1) * D) (hv : -9223372036854775808 < v ∧ v < 9223372036854775807) :
    Ev (fun k => windhoverlaw01_FixShares.j2 k v bn xn bd xd) true := by
  have w : wrap64 (v + 1) = v + 1 := wsm (by omega) (by omega)
  obtain ⟨b1, d1, o1, w1⟩ := of_ev v (by omega) (by omega)
  obtain ⟨b2, d2, o2, w2⟩ := of_ev (v + 1) (by omega) (by omega)
  obtain ⟨c1, z1, p1, v1⟩ := times_ev w1 wd (by decide) (by omega)
  obtain ⟨c2, z2, p2, v2⟩ := times_ev w2 wd (by decide) (by omega)
  obtain ⟨r1, q1, s1⟩ := cmp_ev (v1.mono (show 3 + Ld ≤ 40 by omega)) (wn.mono (show Ln ≤ 40 by omega)) (by decide)
  obtain ⟨r2, q2, s2⟩ := cmp_ev (v2.mono (show 3 + Ld ≤ 40 by omega)) (wn.mono (show Ln ≤ 40 by omega)) (by decide)
  unfold Sg at s1 s2
  have t1 : r1 ≤ 0 := by omega
  have t2 : r2 > 0 := by omega
  refine Ev.step (fun k => by rw [windhoverlaw01_FixShares.j2, w]) ?_
  exact Ev.bind o1 (Ev.bind p1 (Ev.bind q1 (Ev.bind o2 (Ev.bind p2 (Ev.bind q2 (Ev.congr (fun k => by rw [if_pos t1, if_pos t2]) (Ev.bind awake_ev (Ev.now _))))))))
theorem FixShares : windhoverlaw01_FixShares.Pure := by
  intro a b d ha hb hd
  have A := I64_of ha
  have B := I64_of hb
  have D := I64_of hd
  apply Ev.rounds
  have yes : ∀ v, Ev (fun k => windhoverlaw01_FixShares.j1 k a b d v true) true := fun v =>
    Ev.step (fun k => by rw [windhoverlaw01_FixShares.j1, if_pos rfl]) (Ev.bind awake_ev (Ev.now _))
  by_cases h0 : d = 0
  · subst h0
    have e1 : Ev (fun k => fix_MulDiv.f k a b 0) (0, 1) := by
      refine Ev.congr (f := fun _ => some (0, 1)) (fun k => ?_) (Ev.now _)
      rw [fix_MulDiv.f]
      by_cases h1 : a < 0 <;> by_cases h2 : b < 0 <;> simp [h1, h2]
    have e2 : Ev (fun k => windhoverref01_MulDiv.f k a b 0) (0, 1) := Ev.congr (fun k => by rw [windhoverref01_MulDiv.f, if_pos rfl]) (Ev.now _)
    refine Ev.congr (fun k => by rw [windhoverlaw01_FixShares.f]) ?_
    refine Ev.bind e1 (Ev.bind e2 ?_)
    refine Ev.congr (fun k => by rw [if_pos rfl, if_pos rfl]) ?_
    exact Ev.step (fun k => by rw [windhoverlaw01_FixShares.j0, if_neg (by decide), if_pos rfl]) (yes _)
  refine Ev.congr (fun k => by rw [windhoverlaw01_FixShares.f]) ?_
  refine Ev.bind (muldiv_ev A B D h0) (Ev.bind (rmuldiv_ev A B D h0) ?_)
  refine Ev.congr (fun k => by rw [if_pos rfl, if_pos rfl]) ?_
  have cb : (((0 : Int) == 1) != (d == 0)) = false := by simp [h0]
  refine Ev.congr (fun k => by rw [cb]) ?_
  by_cases g1 : sat (md a b d) = 9223372036854775807
  · exact Ev.step (fun k => by rw [windhoverlaw01_FixShares.j0, if_neg (by decide), if_neg h0, if_pos g1]) (yes _)
  refine Ev.step (fun k => by rw [windhoverlaw01_FixShares.j0, if_neg (by decide), if_neg h0, if_neg g1]) ?_
  by_cases g2 : sat (md a b d) = -9223372036854775808
  · rw [show (sat (md a b d) == (-9223372036854775808)) = true from by simp [g2]]
    exact yes _
  rw [show (sat (md a b d) == (-9223372036854775808)) = false from by simp [g2]]
  have sv : sat (md a b d) = md a b d ∧ -9223372036854775808 < md a b d ∧ md a b d < 9223372036854775807 := by
    unfold sat at g1 g2 ⊢
    split at g1
    · omega
    · split at g1
      · rename_i u1 u2; rw [if_neg u1, if_pos u2] at g2; omega
      · rename_i u1 u2; rw [if_neg u1, if_neg u2] at g2 ⊢; omega
  obtain ⟨sv, v1, v2⟩ := sv
  rw [sv]
  obtain ⟨b1, d1, o1, w1⟩ := of_ev a A.1 A.2
  obtain ⟨b2, d2, o2, w2⟩ := of_ev b B.1 B.2
  obtain ⟨b3, d3, o3, w3⟩ := of_ev d D.1 D.2
  obtain ⟨b4, d4, o4, w4⟩ := of_ev 0 (by decide) (by decide)
  obtain ⟨c1, z1, p1, x1⟩ := times_ev w1 w2 (by decide) (by decide)
  refine Ev.step (fun k => by rw [windhoverlaw01_FixShares.j1, if_neg (by decide)]) ?_
  refine Ev.bind o1 (Ev.bind o2 (Ev.bind p1 (Ev.bind o3 ?_)))
  have fl : ∀ N E : Int, 1 ≤ E → N / E * E ≤ N ∧ N < (N / E + 1) * E := by
    intro N E hE
    have e := Int.mul_ediv_add_emod N E
    have r0 := Int.emod_nonneg N (show E ≠ 0 by omega)
    have r1 := Int.emod_lt_of_pos N (show 0 < E by omega)
    rw [Int.mul_comm] at e
    rw [Int.add_mul, Int.one_mul]
    omega
  unfold md at v1 v2 ⊢
  by_cases h : d < 0
  · obtain ⟨c2, z2, p2, x2⟩ := minus_ev (w4.mono (show 3 ≤ 6 by decide)) x1 (by decide)
    obtain ⟨c3, z3, p3, x3⟩ := minus_ev w4 w3 (by decide)
    rw [Int.zero_sub] at x2 x3
    rw [if_pos h, if_pos h] at v1 v2 ⊢
    have f := fl (-(a * b)) (-d) (by omega)
    exact Ev.congr (fun k => by rw [if_pos h]) (Ev.bind o4 (Ev.bind p2 (Ev.bind o4 (Ev.bind p3 (shares_tail x2 x3 (by decide) (by decide) f.1 f.2 ⟨v1, v2⟩)))))
  · rw [if_neg h, if_neg h] at v1 v2 ⊢
    have f := fl (a * b) d (by omega)
    exact Ev.congr (fun k => by rw [if_neg h]) (shares_tail x1 w3 (by decide) (by decide) f.1 f.2 ⟨v1, v2⟩)

end Go.Proofs.Ytmjhhcalcpodjaa.Pure
