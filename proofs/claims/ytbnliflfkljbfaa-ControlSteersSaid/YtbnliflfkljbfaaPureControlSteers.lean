/- The plain law of ControlSteers. -/
import Derived.Test.YtbnliflfkljbfaaPControlSteersx14
namespace Go.Proofs.Ytbnliflfkljbfaa.Pure
open Go.RowKit Go.Proofs.Ytbnliflfkljbfaa.PControlSteers Go.Proofs.YtbnliflfkljbfaaW.PrintWords Go.Proofs.YtbnliflfkljbfaaW.PrintLast

set_option linter.unusedVariables false
set_option linter.unusedSimpArgs false
theorem Ev.now {α : Type} (r : α) : Ev (fun _ => some r) r := ⟨0, fun _ _ => rfl⟩

/-! ### Whole numbers of any length, by digits of 2^30: the plain lists -/
def V : List Int → Int
  | [] => 0
  | d :: ds => d + 1073741824 * V ds
def Dg : List Int → Prop
  | [] => True
  | d :: ds => (0 ≤ d ∧ d < 1073741824) ∧ Dg ds
def Trm : List Int → Prop
  | [] => True
  | d :: ds => (ds = [] → d ≠ 0) ∧ Trm ds
theorem V_nonneg : ∀ l, Dg l → 0 ≤ V l
  | [], _ => Int.le_refl _
  | d :: ds, h => by have := V_nonneg ds h.2; have := h.1; simp only [V]; omega
theorem V_pos : ∀ l, Dg l → Trm l → l ≠ [] → 0 < V l
  | [], _, _, h => absurd rfl h
  | d :: ds, h, t, _ => by
    have hn := V_nonneg ds h.2
    have := h.1
    simp only [V]
    by_cases e : ds = []
    · have := t.1 e; omega
    · have := V_pos ds h.2 t.2 e; omega
theorem V_lt_len : ∀ a b, Dg a → Dg b → Trm b → a.length < b.length → V a < V b
  | [], b, _, hb, tb, h => V_pos b hb tb (by intro e; simp [e] at h)
  | x :: xs, [], _, _, _, h => by simp at h
  | x :: xs, y :: ys, ha, hb, tb, h => by
    have := V_lt_len xs ys ha.2 hb.2 tb.2 (by simpa using h)
    have := ha.1; have := hb.1
    simp only [V]; omega
def Sg (x y r : Int) : Prop := (r = -1 ∧ x < y) ∨ (r = 0 ∧ x = y) ∨ (r = 1 ∧ x > y)
def cmpL : List Int → List Int → Int
  | x :: xs, y :: ys => if cmpL xs ys ≠ 0 then cmpL xs ys else if x < y then -1 else if x > y then 1 else 0
  | _, _ => 0
theorem cmpL_spec : ∀ a b, Dg a → Dg b → a.length = b.length → Sg (V a) (V b) (cmpL a b)
  | [], [], _, _, _ => by simp [cmpL, Sg]
  | [], y :: ys, _, _, h => by simp at h
  | x :: xs, [], _, _, h => by simp at h
  | x :: xs, y :: ys, ha, hb, h => by
    have ih := cmpL_spec xs ys ha.2 hb.2 (by simpa using h)
    have := ha.1; have := hb.1
    unfold Sg at *
    simp only [V, cmpL]
    by_cases e : cmpL xs ys ≠ 0
    · rw [if_pos e]; omega
    · rw [if_neg e]
      by_cases l : x < y
      · rw [if_pos l]; omega
      · rw [if_neg l]
        by_cases g : x > y
        · rw [if_pos g]; omega
        · rw [if_neg g]; omega
theorem cmpL_drop : ∀ (n : Nat) (a b : List Int), cmpL (a.drop n) (b.drop n) ≠ 0 → cmpL a b = cmpL (a.drop n) (b.drop n)
  | 0, _, _, _ => rfl
  | n + 1, [], b, h => by simp [cmpL] at h
  | n + 1, x :: xs, [], h => by simp [cmpL] at h
  | n + 1, x :: xs, y :: ys, h => by
    have ih := cmpL_drop n xs ys h
    simp only [List.drop_succ_cons] at *
    rw [← ih] at h ⊢
    simp only [cmpL, if_pos h]
def trimL : List Int → List Int
  | [] => []
  | d :: ds => if trimL ds = [] then (if d = 0 then [] else [d]) else d :: trimL ds
theorem V_trimL : ∀ l, V (trimL l) = V l
  | [] => rfl
  | d :: ds => by
    have ih := V_trimL ds
    unfold trimL
    by_cases e : trimL ds = []
    · rw [if_pos e]
      rw [e] at ih
      simp only [V] at ih
      by_cases z : d = 0
      · rw [if_pos z]; simp only [V]; omega
      · rw [if_neg z]; simp only [V]; omega
    · rw [if_neg e]; simp only [V]; omega
theorem Dg_trimL : ∀ l, Dg l → Dg (trimL l)
  | [], _ => trivial
  | d :: ds, h => by
    have ih := Dg_trimL ds h.2
    unfold trimL
    split
    · split
      · exact trivial
      · exact ⟨h.1, trivial⟩
    · exact ⟨h.1, ih⟩
theorem Trm_trimL : ∀ l, Trm (trimL l)
  | [] => trivial
  | d :: ds => by
    have ih := Trm_trimL ds
    unfold trimL
    split
    · split
      · exact trivial
      · next z => exact ⟨fun _ => z, trivial⟩
    · next e => exact ⟨fun q => absurd q e, ih⟩
theorem trimL_len : ∀ l, (trimL l).length ≤ l.length
  | [] => Nat.le_refl _
  | d :: ds => by
    have ih := trimL_len ds
    unfold trimL
    split
    · split <;> simp
    · simpa using ih
theorem trimL_snoc : ∀ (xs : List Int) (x : Int), trimL (xs ++ [x]) = if x = 0 then trimL xs else xs ++ [x]
  | [], x => by simp [trimL]
  | d :: ds, x => by
    have ih := trimL_snoc ds x
    simp only [List.cons_append, trimL, ih]
    by_cases z : x = 0
    · simp only [if_pos z]
    · simp only [if_neg z]; simp
def addL : List Int → List Int → Int → List Int
  | [], [], c => if c > 0 then [c] else []
  | x :: xs, [], c => ((c + x) % 1073741824) :: addL xs [] ((c + x) / 1073741824)
  | [], y :: ys, c => ((c + y) % 1073741824) :: addL [] ys ((c + y) / 1073741824)
  | x :: xs, y :: ys, c => ((c + x + y) % 1073741824) :: addL xs ys ((c + x + y) / 1073741824)
theorem addL_spec : ∀ a b c, Dg a → Dg b → 0 ≤ c → c ≤ 1 → V (addL a b c) = V a + V b + c ∧ Dg (addL a b c) ∧ (addL a b c).length ≤ max a.length b.length + 1
  | [], [], c, _, _, h0, h1 => by
    unfold addL
    by_cases h : c > 0
    · rw [if_pos h]; refine ⟨by simp [V], ⟨by omega, trivial⟩, by simp⟩
    · rw [if_neg h]; refine ⟨by simp [V]; omega, trivial, by simp⟩
  | x :: xs, [], c, ha, _, h0, h1 => by
    have := ha.1
    obtain ⟨i1, i2, i3⟩ := addL_spec xs [] ((c + x) / 1073741824) ha.2 trivial (by omega) (by omega)
    unfold addL
    refine ⟨by simp only [V] at *; omega, ⟨by omega, i2⟩, by simp at i3 ⊢; omega⟩
  | [], y :: ys, c, _, hb, h0, h1 => by
    have := hb.1
    obtain ⟨i1, i2, i3⟩ := addL_spec [] ys ((c + y) / 1073741824) trivial hb.2 (by omega) (by omega)
    unfold addL
    refine ⟨by simp only [V] at *; omega, ⟨by omega, i2⟩, by simp at i3 ⊢; omega⟩
  | x :: xs, y :: ys, c, ha, hb, h0, h1 => by
    have := ha.1; have := hb.1
    obtain ⟨i1, i2, i3⟩ := addL_spec xs ys ((c + x + y) / 1073741824) ha.2 hb.2 (by omega) (by omega)
    unfold addL
    refine ⟨by simp only [V] at *; omega, ⟨by omega, i2⟩, by simp at i3 ⊢; omega⟩
def lessL : List Int → List Int → Int → List Int
  | [], _, _ => []
  | x :: xs, [], r => if x - r < 0 then (x - r + 1073741824) :: lessL xs [] 1 else (x - r) :: lessL xs [] 0
  | x :: xs, y :: ys, r => if x - r - y < 0 then (x - r - y + 1073741824) :: lessL xs ys 1 else (x - r - y) :: lessL xs ys 0
theorem lessL_spec : ∀ a b r, Dg a → Dg b → b.length ≤ a.length → 0 ≤ r → r ≤ 1 → V b + r ≤ V a → V (lessL a b r) = V a - V b - r ∧ Dg (lessL a b r) ∧ (lessL a b r).length = a.length
  | [], [], r, _, _, _, h0, h1, h => by simp only [V] at *; unfold lessL; exact ⟨by simp only [V]; omega, trivial, rfl⟩
  | [], y :: ys, r, _, _, hl, _, _, _ => by simp at hl
  | x :: xs, [], r, ha, _, _, h0, h1, h => by
    have := ha.1
    have hn := V_nonneg xs ha.2
    simp only [V] at h
    unfold lessL
    by_cases s : x - r < 0
    · obtain ⟨i1, i2, i3⟩ := lessL_spec xs [] 1 ha.2 trivial (Nat.zero_le _) (by omega) (by omega) (by simp only [V]; omega)
      rw [if_pos s]; refine ⟨by simp only [V] at *; omega, ⟨by omega, i2⟩, by simp [i3]⟩
    · obtain ⟨i1, i2, i3⟩ := lessL_spec xs [] 0 ha.2 trivial (Nat.zero_le _) (by omega) (by omega) (by simp only [V]; omega)
      rw [if_neg s]; refine ⟨by simp only [V] at *; omega, ⟨by omega, i2⟩, by simp [i3]⟩
  | x :: xs, y :: ys, r, ha, hb, hl, h0, h1, h => by
    have := ha.1; have := hb.1
    have hl' : ys.length ≤ xs.length := by simpa using hl
    simp only [V] at h
    unfold lessL
    by_cases s : x - r - y < 0
    · obtain ⟨i1, i2, i3⟩ := lessL_spec xs ys 1 ha.2 hb.2 hl' (by omega) (by omega) (by omega)
      rw [if_pos s]; refine ⟨by simp only [V] at *; omega, ⟨by omega, i2⟩, by simp [i3]⟩
    · obtain ⟨i1, i2, i3⟩ := lessL_spec xs ys 0 ha.2 hb.2 hl' (by omega) (by omega) (by omega)
      rw [if_neg s]; refine ⟨by simp only [V] at *; omega, ⟨by omega, i2⟩, by simp [i3]⟩
theorem mul_bd {x y : Int} (hx : 0 ≤ x ∧ x < 1073741824) (hy : 0 ≤ y ∧ y < 1073741824) : 0 ≤ x * y ∧ x * y ≤ 1152921502459363329 := by
  refine ⟨Int.mul_nonneg hx.1 hy.1, ?_⟩
  have := Int.mul_le_mul (show x ≤ 1073741823 by omega) (show y ≤ 1073741823 by omega) hy.1 (by decide)
  omega
def mulL : List Int → List Int → Int → Int → List Int
  | [], _, _, _ => []
  | o :: os, [], _, c => (o + c) :: os
  | o :: os, y :: ys, x, c => ((o + x * y + c) % 1073741824) :: mulL os ys x ((o + x * y + c) / 1073741824)
theorem mulL_len : ∀ o b x c, (mulL o b x c).length = o.length
  | [], _, _, _ => by unfold mulL; rfl
  | o :: os, [], _, _ => by unfold mulL; rfl
  | o :: os, y :: ys, x, c => by unfold mulL; simp [mulL_len os ys]
def AllZ : List Int → Prop
  | [] => True
  | d :: ds => d = 0 ∧ AllZ ds
theorem mulL_spec : ∀ o b x c, Dg o → Dg b → b.length < o.length → AllZ (o.drop b.length) → 0 ≤ x ∧ x < 1073741824 → 0 ≤ c ∧ c < 1073741824 →
    V (mulL o b x c) = V o + x * V b + c ∧ Dg (mulL o b x c) ∧ AllZ ((mulL o b x c).drop (b.length + 1))
  | [], _, _, _, _, _, h, _, _, _ => by simp at h
  | o :: os, [], x, c, ho, _, _, hz, hx, hc => by
    simp only [List.length_nil, List.drop_zero, AllZ] at hz
    unfold mulL
    refine ⟨by simp [V]; omega, ⟨by omega, ho.2⟩, by simpa using hz.2⟩
  | o :: os, y :: ys, x, c, ho, hb, hl, hz, hx, hc => by
    have hm := mul_bd hx hb.1
    have := ho.1
    obtain ⟨i1, i2, i3⟩ := mulL_spec os ys x ((o + x * y + c) / 1073741824) ho.2 hb.2 (by simpa using hl) (by simpa using hz) hx (by omega)
    unfold mulL
    refine ⟨?_, ⟨by omega, i2⟩, by simpa using i3⟩
    simp only [V, i1]
    rw [Int.mul_add x y, Int.mul_left_comm x 1073741824 (V ys)]
    generalize x * V ys = t
    generalize x * y = u at *
    omega
def timesL : List Int → List Int → List Int → List Int
  | o, [], _ => o
  | o, x :: xs, b => match mulL o b x 0 with
    | [] => []
    | h :: t => h :: timesL t xs b
theorem timesL_spec : ∀ a b o, Dg a → Dg b → Dg o → o.length = a.length + b.length → AllZ (o.drop b.length) → V (timesL o a b) = V o + V a * V b ∧ Dg (timesL o a b) ∧ (timesL o a b).length = o.length
  | [], b, o, _, _, ho, _, _ => by unfold timesL; exact ⟨by simp [V], ho, rfl⟩
  | x :: xs, b, o, ha, hb, ho, hl, hz => by
    have hl1 : b.length < o.length := by simp at hl; omega
    obtain ⟨i1, i2, i3⟩ := mulL_spec o b x 0 ho hb hl1 hz ha.1 (by decide)
    have hlen := mulL_len o b x 0
    unfold timesL
    generalize mulL o b x 0 = m at *
    cases m with
    | nil => simp at hlen; omega
    | cons h t =>
      obtain ⟨j1, j2, j3⟩ := timesL_spec xs b t ha.2 hb i2.2 (by simp at hl hlen; omega) (by simpa using i3)
      refine ⟨?_, ⟨i2.1, j2⟩, by simp at hlen ⊢; omega⟩
      simp only [V] at i1 ⊢
      rw [j1, Int.add_mul, Int.mul_assoc 1073741824 (V xs) (V b)]
      generalize V xs * V b = q
      generalize x * V b = u at *
      omega

/-! ### The printed functions on whole numbers do what the plain lists say -/
theorem wsm {a : Int} (h1 : -9223372036854775808 ≤ a) (h2 : a ≤ 9223372036854775807) : wrap64 a = a := by unfold wrap64; omega
theorem rd_nat (l : List Int) (i : Nat) : rd l (i : Int) = l.getD i 0 := by simp [rd]
theorem drop_rd (l : List Int) (i : Nat) (h : i < l.length) : l.drop i = rd l (i : Int) :: l.drop (i + 1) := by
  rw [rd_nat, List.drop_eq_getElem_cons h]
  simp [List.getD_eq_getElem?_getD, h]
theorem Dg_drop : ∀ (l : List Int) (i : Nat), Dg l → Dg (l.drop i)
  | [], _, _ => by simp [Dg]
  | d :: ds, 0, h => h
  | d :: ds, i + 1, h => Dg_drop ds i h.2
theorem Dg_rd {l : List Int} (h : Dg l) {i : Nat} (hi : i < l.length) : 0 ≤ rd l (i : Int) ∧ rd l (i : Int) < 1073741824 := by
  have := Dg_drop l i h
  rw [drop_rd l i hi] at this
  exact this.1
theorem ev_eq {α : Type} {g : Nat → Option α} {r s : α} (h : r = s) (e : Ev g s) : Ev g r := h ▸ e
theorem trim_ev (l : List Int) (hs : l.length ≤ 1000000) : ∀ (n : Nat), n ≤ l.length → Ev (fun k => windhoverref00_trim.l0 k l (n : Int)) (trimL (l.take n)) := by
  intro n
  induction n with
  | zero =>
    intro _
    refine Ev.step (f := fun _ => some (trimL (l.take 0))) (fun k => ?_) (Ev.now _)
    rw [windhoverref00_trim.l0, if_neg (by decide), if_pos (by decide), if_pos (by omega)]
    simp [trimL]
  | succ n ih =>
    intro hn
    have e : wrap64 (((n + 1 : Nat) : Int) - 1) = (n : Int) := by rw [wsm (by omega) (by omega)]; omega
    have ht : l.take (n + 1) = l.take n ++ [rd l (n : Int)] := by
      rw [rd_nat, List.take_succ_eq_append_getElem (by omega)]
      simp [List.getD_eq_getElem?_getD, show n < l.length from by omega]
    by_cases z : rd l (n : Int) = 0
    · refine ev_eq (by rw [ht, trimL_snoc, if_pos z]) (Ev.step (fun k => ?_) (ih (by omega)))
      rw [windhoverref00_trim.l0, if_pos (by omega), e, if_pos (by omega), if_pos (by omega), if_pos z]
    · refine Ev.step (f := fun _ => some (trimL (l.take (n + 1)))) (fun k => ?_) (Ev.now _)
      rw [windhoverref00_trim.l0, if_pos (by omega), e, if_pos (by omega), if_pos (by omega), if_neg z, if_pos (by omega), if_pos (by omega)]
      rw [ht, trimL_snoc, if_neg z, ← ht]
      rfl
theorem trimf_ev (l : List Int) (hs : l.length ≤ 1000000) : Ev (fun k => windhoverref00_trim.f k l) (trimL l) := by
  have := trim_ev l hs l.length (Nat.le_refl _)
  rw [List.take_length] at this
  exact this
theorem add_end (a b out : List Int) (i : Nat) (hi : max a.length b.length ≤ i) (h2 : out.length ≤ 1000000) :
    Ev (fun k => windhoverref00_add.l0 k a b out 0 (i : Int)) (trimL out) := by
  refine Ev.step (f := fun k => windhoverref00_add.j1 k a b out 0 (i : Int) false) (fun k => ?_) ?_
  · rw [windhoverref00_add.l0, if_neg (by omega), if_neg (by omega)]
    rfl
  · refine Ev.step (f := fun k => (windhoverref00_trim.f k out).bind fun t => some t) (fun k => ?_) ?_
    · rw [windhoverref00_add.j1, if_neg (by decide)]
    · exact Ev.bind (trimf_ev out h2) (Ev.now _)
theorem add_ev (a b : List Int) (ha : Dg a) (hb : Dg b) (hal : a.length ≤ 1000) (hbl : b.length ≤ 1000) : ∀ (n i : Nat) (out : List Int) (c : Int), max a.length b.length ≤ i + n → i ≤ 1000 → out.length ≤ 2000 + i → 0 ≤ c → c ≤ 1 →
    Ev (fun k => windhoverref00_add.l0 k a b out c (i : Int)) (trimL (out ++ addL (a.drop i) (b.drop i) c)) := by
  intro n
  induction n with
  | zero =>
    intro i out c hi hi2 hl h0 h1
    have ea : a.drop i = [] := List.drop_of_length_le (by omega)
    have eb : b.drop i = [] := List.drop_of_length_le (by omega)
    rw [ea, eb]
    by_cases hc : c > 0
    · obtain rfl : c = 1 := by omega
      refine ev_eq (s := trimL (out ++ [1])) (by simp [addL]) ?_
      refine Ev.step (f := fun k => windhoverref00_add.j1 k a b out 1 (i : Int) true) (fun k => ?_) ?_
      · rw [windhoverref00_add.l0, if_neg (by omega), if_neg (by omega)]; rfl
      · refine Ev.step (f := fun k => windhoverref00_add.l0 k a b (out ++ [1]) 0 ((i + 1 : Nat) : Int)) (fun k => ?_) ?_
        · rw [windhoverref00_add.j1, if_pos rfl, if_neg (by omega), if_neg (by omega), if_pos (by omega), show Int.tmod 1 1073741824 = 1 from by decide, show wrap64 (Int.tdiv 1 1073741824) = 0 from by decide +kernel, wsm (by omega) (by omega)]
          rfl
        · exact add_end a b (out ++ [1]) (i + 1) (by omega) (by simp; omega)
    · obtain rfl : c = 0 := by omega
      refine ev_eq (s := trimL out) (by simp [addL]) ?_
      exact add_end a b out i (by omega) (by omega)
  | succ n ih =>
    intro i out c hi hi2 hl h0 h1
    by_cases hlt : max a.length b.length ≤ i
    · exact (by
        have ea : a.drop i = [] := List.drop_of_length_le (by omega)
        have eb : b.drop i = [] := List.drop_of_length_le (by omega)
        rw [ea, eb]
        by_cases hc : c > 0
        · obtain rfl : c = 1 := by omega
          refine ev_eq (s := trimL (out ++ [1])) (by simp [addL]) ?_
          refine Ev.step (f := fun k => windhoverref00_add.j1 k a b out 1 (i : Int) true) (fun k => ?_) ?_
          · rw [windhoverref00_add.l0, if_neg (by omega), if_neg (by omega)]; rfl
          · refine Ev.step (f := fun k => windhoverref00_add.l0 k a b (out ++ [1]) 0 ((i + 1 : Nat) : Int)) (fun k => ?_) ?_
            · rw [windhoverref00_add.j1, if_pos rfl, if_neg (by omega), if_neg (by omega), if_pos (by omega), show Int.tmod 1 1073741824 = 1 from by decide, show wrap64 (Int.tdiv 1 1073741824) = 0 from by decide +kernel, wsm (by omega) (by omega)]
              rfl
            · exact add_end a b (out ++ [1]) (i + 1) (by omega) (by simp; omega)
        · obtain rfl : c = 0 := by omega
          refine ev_eq (s := trimL out) (by simp [addL]) ?_
          exact add_end a b out i (by omega) (by omega))
    · have ei : wrap64 ((i : Int) + 1) = ((i + 1 : Nat) : Int) := by rw [wsm (by omega) (by omega)]; omega
      refine Ev.step (f := fun k => windhoverref00_add.j1 k a b out c (i : Int) true) (fun k => ?_) ?_
      · rw [windhoverref00_add.l0]
        by_cases p : (i : Int) < (a.length : Int)
        · rw [if_pos p]
        · rw [if_neg p, if_pos (by omega)]
      · by_cases p : i < a.length
        · have hx := Dg_rd ha p
          by_cases q : i < b.length
          · have hy := Dg_rd hb q
            rw [drop_rd a i p, drop_rd b i q]
            unfold addL
            refine ev_eq (s := trimL ((out ++ [(c + rd a i + rd b i) % 1073741824]) ++ addL (a.drop (i + 1)) (b.drop (i + 1)) ((c + rd a i + rd b i) / 1073741824))) (by simp) (Ev.step (fun k => ?_) (ih (i + 1) _ _ (by omega) (by omega) (by simp; omega) (by omega) (by omega)))
            rw [windhoverref00_add.j1, if_pos rfl, if_pos (by omega), if_pos (by omega), if_pos (by omega), if_pos (by omega), ei, wsm (a := c + _) (by omega) (by omega), wsm (a := c + _ + _) (by omega) (by omega), Int.tmod_eq_emod_of_nonneg (by omega), Int.tdiv_eq_ediv_of_nonneg (by omega), wsm (by omega) (by omega)]
          · rw [drop_rd a i p, List.drop_of_length_le (show b.length ≤ i by omega)]
            unfold addL
            refine ev_eq (s := trimL ((out ++ [(c + rd a i) % 1073741824]) ++ addL (a.drop (i + 1)) (b.drop (i + 1)) ((c + rd a i) / 1073741824))) (by rw [List.drop_of_length_le (show b.length ≤ i + 1 by omega)]; simp) (Ev.step (fun k => ?_) (ih (i + 1) _ _ (by omega) (by omega) (by simp; omega) (by omega) (by omega)))
            rw [windhoverref00_add.j1, if_pos rfl, if_pos (by omega), if_pos (by omega), if_neg (by omega), if_pos (by omega), ei, wsm (a := c + _) (by omega) (by omega), Int.tmod_eq_emod_of_nonneg (by omega), Int.tdiv_eq_ediv_of_nonneg (by omega), wsm (by omega) (by omega)]
        · have q : i < b.length := by omega
          have hy := Dg_rd hb q
          rw [drop_rd b i q, List.drop_of_length_le (show a.length ≤ i by omega)]
          unfold addL
          refine ev_eq (s := trimL ((out ++ [(c + rd b i) % 1073741824]) ++ addL (a.drop (i + 1)) (b.drop (i + 1)) ((c + rd b i) / 1073741824))) (by rw [List.drop_of_length_le (show a.length ≤ i + 1 by omega)]; simp) (Ev.step (fun k => ?_) (ih (i + 1) _ _ (by omega) (by omega) (by simp; omega) (by omega) (by omega)))
          rw [windhoverref00_add.j1, if_pos rfl, if_neg (by omega), if_pos (by omega), if_pos (by omega), if_pos (by omega), ei, wsm (a := c + _) (by omega) (by omega), Int.tmod_eq_emod_of_nonneg (by omega), Int.tdiv_eq_ediv_of_nonneg (by omega), wsm (by omega) (by omega)]
theorem addf_ev (a b : List Int) (ha : Dg a) (hb : Dg b) (hal : a.length ≤ 900) (hbl : b.length ≤ 900) : Ev (fun k => windhoverref00_add.f k a b) (trimL (addL a b 0)) :=
  add_ev a b ha hb (by omega) (by omega) (max a.length b.length) 0 [] 0 (by omega) (by omega) (by simp) (by decide) (by decide)

theorem less_ev (a b : List Int) (ha : Dg a) (hb : Dg b) (hal : a.length ≤ 1000) (hbl : b.length ≤ a.length) : ∀ (n i : Nat) (out : List Int) (r : Int), a.length = i + n → out.length ≤ 2000 + i → 0 ≤ r → r ≤ 1 →
    Ev (fun k => windhoverref00_less.l0 k a b out r (i : Int)) (trimL (out ++ lessL (a.drop i) (b.drop i) r)) := by
  intro n
  induction n with
  | zero =>
    intro i out r hi hl h0 h1
    rw [List.drop_of_length_le (show a.length ≤ i by omega)]
    refine ev_eq (s := trimL out) (by simp [lessL]) ?_
    refine Ev.step (f := fun k => (windhoverref00_trim.f k out).bind fun t => some t) (fun k => ?_) (Ev.bind (trimf_ev out (by omega)) (Ev.now _))
    rw [windhoverref00_less.l0, if_neg (by omega)]
  | succ n ih =>
    intro i out r hi hl h0 h1
    have p : i < a.length := by omega
    have hx := Dg_rd ha p
    have ei : wrap64 ((i : Int) + 1) = ((i + 1 : Nat) : Int) := by rw [wsm (by omega) (by omega)]; omega
    by_cases q : i < b.length
    · have hy := Dg_rd hb q
      rw [drop_rd a i p, drop_rd b i q]
      unfold lessL
      by_cases s : rd a i - r - rd b i < 0
      · rw [if_pos s]
        refine ev_eq (s := trimL ((out ++ [rd a i - r - rd b i + 1073741824]) ++ lessL (a.drop (i + 1)) (b.drop (i + 1)) 1)) (by simp) (Ev.step (fun k => ?_) (ih (i + 1) _ _ (by omega) (by simp; omega) (by omega) (by omega)))
        rw [windhoverref00_less.l0, if_pos (by omega), if_pos (by omega), if_pos (by omega), wsm (a := _ - r) (by omega) (by omega), wsm (a := _ - r - _) (by omega) (by omega), if_pos s, if_pos (by omega), ei, wsm (by omega) (by omega)]
      · rw [if_neg s]
        refine ev_eq (s := trimL ((out ++ [rd a i - r - rd b i]) ++ lessL (a.drop (i + 1)) (b.drop (i + 1)) 0)) (by simp) (Ev.step (fun k => ?_) (ih (i + 1) _ _ (by omega) (by simp; omega) (by omega) (by omega)))
        rw [windhoverref00_less.l0, if_pos (by omega), if_pos (by omega), if_pos (by omega), wsm (a := _ - r) (by omega) (by omega), wsm (a := _ - r - _) (by omega) (by omega), if_neg s, if_pos (by omega), ei]
    · rw [drop_rd a i p, List.drop_of_length_le (show b.length ≤ i by omega)]
      unfold lessL
      by_cases s : rd a i - r < 0
      · rw [if_pos s]
        refine ev_eq (s := trimL ((out ++ [rd a i - r + 1073741824]) ++ lessL (a.drop (i + 1)) (b.drop (i + 1)) 1)) (by rw [List.drop_of_length_le (show b.length ≤ i + 1 by omega)]; simp) (Ev.step (fun k => ?_) (ih (i + 1) _ _ (by omega) (by simp; omega) (by omega) (by omega)))
        rw [windhoverref00_less.l0, if_pos (by omega), if_pos (by omega), if_neg (by omega), wsm (a := _ - r) (by omega) (by omega), if_pos s, if_pos (by omega), ei, wsm (by omega) (by omega)]
      · rw [if_neg s]
        refine ev_eq (s := trimL ((out ++ [rd a i - r]) ++ lessL (a.drop (i + 1)) (b.drop (i + 1)) 0)) (by rw [List.drop_of_length_le (show b.length ≤ i + 1 by omega)]; simp) (Ev.step (fun k => ?_) (ih (i + 1) _ _ (by omega) (by simp; omega) (by omega) (by omega)))
        rw [windhoverref00_less.l0, if_pos (by omega), if_pos (by omega), if_neg (by omega), wsm (a := _ - r) (by omega) (by omega), if_neg s, if_pos (by omega), ei]
theorem lessf_ev (a b : List Int) (ha : Dg a) (hb : Dg b) (hal : a.length ≤ 1000) (hbl : b.length ≤ a.length) : Ev (fun k => windhoverref00_less.f k a b) (trimL (lessL a b 0)) :=
  less_ev a b ha hb hal hbl a.length 0 [] 0 (by omega) (by simp) (by decide) (by decide)
theorem cmpL_at (a b : List Int) (i : Nat) (h1 : i < a.length) (h2 : i < b.length) (hz : cmpL (a.drop (i + 1)) (b.drop (i + 1)) = 0) :
    cmpL (a.drop i) (b.drop i) = if rd a i < rd b i then -1 else if rd a i > rd b i then 1 else 0 := by
  rw [drop_rd a i h1, drop_rd b i h2]
  simp only [cmpL]
  rw [if_neg (by simpa using hz)]
theorem size_ev (a b : List Int) (hl : a.length = b.length) (hs : a.length ≤ 1000) : ∀ (n : Nat), n ≤ a.length → cmpL (a.drop n) (b.drop n) = 0 →
    Ev (fun k => windhoverref00_size.l0 k a b ((n : Int) - 1)) (cmpL a b) := by
  intro n
  induction n with
  | zero =>
    intro _ hz
    rw [List.drop_zero, List.drop_zero] at hz
    rw [hz]
    refine Ev.step (f := fun _ => some 0) (fun k => ?_) (Ev.now _)
    rw [windhoverref00_size.l0, if_neg (by omega)]
  | succ n ih =>
    intro hn hz
    have e1 : (((n + 1 : Nat) : Int) - 1) = (n : Int) := by omega
    have e2 : wrap64 ((n : Int) - 1) = (n : Int) - 1 := wsm (by omega) (by omega)
    have hc := cmpL_at a b n (by omega) (by omega) hz
    rw [e1]
    by_cases h1 : rd a n < rd b n
    · rw [if_pos h1] at hc
      refine ev_eq (s := -1) ?_ (Ev.step (f := fun _ => some (-1)) (fun k => ?_) (Ev.now _))
      · rw [cmpL_drop n a b (by rw [hc]; decide), hc]
      · rw [windhoverref00_size.l0, if_pos (by omega), if_pos (by omega), if_pos (by omega), if_pos (by omega), if_pos h1]
    · rw [if_neg h1] at hc
      by_cases h2 : rd a n > rd b n
      · rw [if_pos h2] at hc
        refine ev_eq (s := 1) ?_ (Ev.step (f := fun _ => some 1) (fun k => ?_) (Ev.now _))
        · rw [cmpL_drop n a b (by rw [hc]; decide), hc]
        · rw [windhoverref00_size.l0, if_pos (by omega), if_pos (by omega), if_pos (by omega), if_pos (by omega), if_neg h1, if_pos h2]
      · rw [if_neg h2] at hc
        refine Ev.step (fun k => ?_) (ih (by omega) hc)
        rw [windhoverref00_size.l0, if_pos (by omega), if_pos (by omega), if_pos (by omega), if_pos (by omega), if_neg h1, if_neg h2, e2]
/-- Magnitudes are compared. -/
theorem sizef_ev (a b : List Int) (ha : Dg a) (hb : Dg b) (ta : Trm a) (tb : Trm b) (hs : a.length ≤ 1000) : ∃ r, Ev (fun k => windhoverref00_size.f k a b) r ∧ Sg (V a) (V b) r := by
  by_cases hl : a.length = b.length
  · refine ⟨cmpL a b, ?_, cmpL_spec a b ha hb hl⟩
    have h := size_ev a b hl hs a.length (Nat.le_refl _) (by rw [List.drop_of_length_le (Nat.le_refl _), List.drop_of_length_le (by omega)]; rfl)
    refine Ev.congr (fun k => ?_) h
    rw [windhoverref00_size.f, if_pos (by omega), wsm (by omega) (by omega)]
  · by_cases hlt : a.length < b.length
    · refine ⟨-1, Ev.congr (fun k => ?_) (Ev.now _), .inl ⟨rfl, V_lt_len a b ha hb tb hlt⟩⟩
      rw [windhoverref00_size.f, if_neg (by omega), if_pos (by omega)]
    · refine ⟨1, Ev.congr (fun k => ?_) (Ev.now _), .inr (.inr ⟨rfl, V_lt_len b a hb ha ta (by omega)⟩)⟩
      rw [windhoverref00_size.f, if_neg (by omega), if_neg (by omega)]
/-- A whole number, as its sign and its digits. -/
def W (L : Nat) (b : Bool) (d : List Int) (n : Int) : Prop := Dg d ∧ Trm d ∧ (b = true → d ≠ []) ∧ n = (if b = true then -V d else V d) ∧ d.length ≤ L
theorem W.mono {L M : Nat} {b : Bool} {d : List Int} {n : Int} (h : W L b d n) (hl : L ≤ M) : W M b d n := ⟨h.1, h.2.1, h.2.2.1, h.2.2.2.1, Nat.le_trans h.2.2.2.2 hl⟩
theorem len_of {d : List Int} (h : Dg d) (t : Trm d) : (V d < 1073741824 → d.length ≤ 1) ∧ (V d < 1152921504606846976 → d.length ≤ 2) ∧ (V d < 1237940039285380274899124224 → d.length ≤ 3) ∧ (V d < 1329227995784915872903807060280344576 → d.length ≤ 4) := by
  match d, h, t with
  | [], _, _ => exact ⟨fun _ => by simp, fun _ => by simp, fun _ => by simp, fun _ => by simp⟩
  | [a], _, _ => exact ⟨fun _ => by simp, fun _ => by simp, fun _ => by simp, fun _ => by simp⟩
  | [a, b], h, t =>
    have := h.1; have := h.2.1; have := t.2.1 rfl
    simp only [V]; exact ⟨fun _ => by omega, fun _ => by simp, fun _ => by simp, fun _ => by simp⟩
  | [a, b, c], h, t =>
    have := h.1; have := h.2.1; have := h.2.2.1; have := t.2.2.1 rfl
    simp only [V]; exact ⟨fun _ => by omega, fun _ => by omega, fun _ => by simp, fun _ => by simp⟩
  | [a, b, c, e], h, t =>
    have := h.1; have := h.2.1; have := h.2.2.1; have := h.2.2.2.1; have := t.2.2.2.1 rfl
    simp only [V]; exact ⟨fun _ => by omega, fun _ => by omega, fun _ => by omega, fun _ => by simp⟩
  | a :: b :: c :: e :: f :: ds, h, t =>
    have := h.1; have := h.2.1; have := h.2.2.1; have := h.2.2.2.1
    have := V_pos (f :: ds) h.2.2.2.2 t.2.2.2.2 (by simp)
    simp only [V] at *
    exact ⟨fun _ => by omega, fun _ => by omega, fun _ => by omega, fun _ => by omega⟩
theorem of_loop (bl : Bool) : ∀ (m : Nat) (n : Int) (out : List Int), n.natAbs ≤ m → -9223372036854775808 ≤ n → n ≤ 9223372036854775807 → (∃ c : Nat, n.natAbs * 2 ^ c ≤ 9223372036854775808 ∧ out.length ≤ c) →
    ∃ ds, Ev (fun k => windhoverref00_Of.l0 k n bl out) (bl, out ++ ds) ∧ Dg ds ∧ Trm ds ∧ V ds = n.natAbs ∧ (n = 0 → ds = []) := by
  intro m
  induction m with
  | zero =>
    intro n out hm _ _ _
    obtain rfl : n = 0 := by omega
    refine ⟨[], Ev.step (f := fun _ => some (bl, out)) (fun k => ?_) (ev_eq (by simp) (Ev.now _)), trivial, trivial, rfl, fun _ => rfl⟩
    rw [windhoverref00_Of.l0, if_pos rfl]
  | succ m ih =>
    intro n out hm h1 h2 hc
    by_cases hz : n = 0
    · subst hz
      refine ⟨[], Ev.step (f := fun _ => some (bl, out)) (fun k => ?_) (ev_eq (by simp) (Ev.now _)), trivial, trivial, rfl, fun _ => rfl⟩
      rw [windhoverref00_Of.l0, if_pos rfl]
    · obtain ⟨c, hc1, hc2⟩ := hc
      have hc63 : c ≤ 63 := by
        rcases Nat.lt_or_ge c 64 with h | h
        · omega
        · have h3 : 2 ^ 64 ≤ 2 ^ c := Nat.pow_le_pow_right (by decide) h
          have h4 : 1 * 2 ^ c ≤ n.natAbs * 2 ^ c := Nat.mul_le_mul_right _ (by omega)
          omega
      have key : ∀ q : Int, q.natAbs * 2 ≤ n.natAbs → ∃ c : Nat, q.natAbs * 2 ^ c ≤ 9223372036854775808 ∧ out.length + 1 ≤ c := by
        intro q hq
        refine ⟨c + 1, ?_, by omega⟩
        have : q.natAbs * 2 ^ (c + 1) ≤ n.natAbs * 2 ^ c := by
          rw [Nat.pow_succ, Nat.mul_comm (2 ^ c) 2, ← Nat.mul_assoc]
          exact Nat.mul_le_mul_right _ hq
        omega
      by_cases hn : 0 ≤ n
      · have e1 : Int.tmod n 1073741824 = n % 1073741824 := Int.tmod_eq_emod_of_nonneg hn
        have e2 : Int.tdiv n 1073741824 = n / 1073741824 := Int.tdiv_eq_ediv_of_nonneg hn
        obtain ⟨ds, hev, hd, ht, hv, hnil⟩ := ih (n / 1073741824) (out ++ [n % 1073741824]) (by omega) (by omega) (by omega) (by simpa using key (n / 1073741824) (by omega))
        refine ⟨n % 1073741824 :: ds, ev_eq (by simp) (Ev.step (fun k => ?_) hev), ⟨by omega, hd⟩, ⟨fun e => ?_, ht⟩, by simp only [V]; omega, fun h => absurd h hz⟩
        · rw [windhoverref00_Of.l0, if_neg hz, e1, e2, if_neg (by omega), if_pos (by omega), wsm (by omega) (by omega)]
        · rw [e] at hv; simp only [V] at hv; omega
      · obtain ⟨p, rfl⟩ : ∃ p, n = -p := ⟨-n, by omega⟩
        have hp : 0 ≤ p := by omega
        have e1 : Int.tmod (-p) 1073741824 = -(p % 1073741824) := by rw [Int.neg_tmod, Int.tmod_eq_emod_of_nonneg hp]
        have e2 : Int.tdiv (-p) 1073741824 = -(p / 1073741824) := by rw [Int.neg_tdiv, Int.tdiv_eq_ediv_of_nonneg hp]
        obtain ⟨ds, hev, hd, ht, hv, hnil⟩ := ih (-(p / 1073741824)) (out ++ [p % 1073741824]) (by omega) (by omega) (by omega) (by simpa using key (-(p / 1073741824)) (by omega))
        refine ⟨p % 1073741824 :: ds, ev_eq (by simp) (Ev.step (fun k => ?_) hev), ⟨by omega, hd⟩, ⟨fun e => ?_, ht⟩, by simp only [V]; omega, fun h => absurd h hz⟩
        · rw [windhoverref00_Of.l0, if_neg hz, e1, e2]
          by_cases z : p % 1073741824 = 0
          · rw [if_neg (by omega), if_pos (by omega), wsm (by omega) (by omega), z]; rfl
          · rw [if_pos (by omega), if_pos (by omega), wsm (a := -(p / 1073741824)) (by omega) (by omega), Int.neg_neg, wsm (by omega) (by omega)]
        · rw [e] at hv; simp only [V] at hv; omega
theorem of_ev (n : Int) (h1 : -9223372036854775808 ≤ n) (h2 : n ≤ 9223372036854775807) : ∃ b d, Ev (fun k => windhoverref00_Of.f k n) (b, d) ∧ W 3 b d n := by
  obtain ⟨ds, hev, hd, ht, hv, hnil⟩ := of_loop (decide (n < 0)) n.natAbs n [] (Nat.le_refl _) h1 h2 ⟨0, by omega, by simp⟩
  refine ⟨decide (n < 0), ds, Ev.congr (fun k => by rw [windhoverref00_Of.f]) (ev_eq (by simp) hev), hd, ht, fun h => ?_, ?_, (len_of hd ht).2.2.1 (by omega)⟩
  · intro e
    rw [e] at hv
    simp only [V] at hv
    simp at h
    omega
  · by_cases h : n < 0
    · rw [if_pos (by simpa using h)]; omega
    · rw [if_neg (by simpa using h)]; omega
theorem W_range {L : Nat} {b : Bool} {d : List Int} {n : Int} (h : W L b d n) : (b = true → n < 0) ∧ (b = false → 0 ≤ n) := by
  obtain ⟨hd, ht, hb, hn, _⟩ := h
  have h0 := V_nonneg d hd
  refine ⟨fun e => ?_, fun e => ?_⟩
  · have := V_pos d hd ht (hb e); rw [if_pos e] at hn; omega
  · rw [e, if_neg (by decide)] at hn; omega
theorem plus_ev {L : Nat} {a b : Bool} {x y : List Int} {m n : Int} (hx : W L a x m) (hy : W L b y n) (hL : L ≤ 900) : ∃ c z, Ev (fun k => windhoverref00_Plus.f k a x b y) (c, z) ∧ W (L + 1) c z (m + n) := by
  obtain ⟨dx, tx, bx, ex, lx⟩ := hx
  obtain ⟨dy, ty, by', ey, ly⟩ := hy
  have vx := V_nonneg x dx
  have vy := V_nonneg y dy
  by_cases hab : a = b
  · subst hab
    obtain ⟨s1, s2, s3⟩ := addL_spec x y 0 dx dy (by decide) (by decide)
    refine ⟨a, trimL (addL x y 0), Ev.congr (fun k => ?_) (Ev.bind (f := fun _ t => some (a, t)) (addf_ev x y dx dy (by omega) (by omega)) (Ev.now _)), Dg_trimL _ s2, Trm_trimL _, fun h => ?_, ?_, ?_⟩
    · rw [windhoverref00_Plus.f, if_pos (by simp)]
    · intro e
      have := V_trimL (addL x y 0)
      rw [e, s1] at this
      simp only [V] at this
      have := V_pos x dx tx (bx h)
      omega
    · rw [V_trimL, s1]
      cases a <;> simp at ex ey ⊢ <;> omega
    · have := trimL_len (addL x y 0); omega
  · have hne : ¬ ((a == b) = true) := by simpa using hab
    obtain ⟨r, hr, hs⟩ := sizef_ev x y dx dy tx ty (by omega)
    rcases hs with ⟨rfl, hlt⟩ | ⟨rfl, heq⟩ | ⟨rfl, hgt⟩
    · have hlen : x.length ≤ y.length := by
        rcases Nat.lt_or_ge y.length x.length with h | h
        · have := V_lt_len y x dy dx tx h; omega
        · exact h
      obtain ⟨s1, s2, s3⟩ := lessL_spec y x 0 dy dx hlen (by decide) (by decide) (by omega)
      refine ⟨b, trimL (lessL y x 0), Ev.congr (fun k => ?_) (Ev.bind (f := fun k t => if t = 0 then some (false, []) else if t > 0 then (windhoverref00_less.f k x y).bind fun z => some (a, z) else (windhoverref00_less.f k y x).bind fun z => some (b, z)) hr ?_), Dg_trimL _ s2, Trm_trimL _, fun h => ?_, ?_, ?_⟩
      · rw [windhoverref00_Plus.f, if_neg hne]
      · exact Ev.congr (fun k => by rw [if_neg (by decide), if_neg (by decide)]) (Ev.bind (f := fun _ z => some (b, z)) (lessf_ev y x dy dx (by omega) hlen) (Ev.now _))
      · intro e
        have := V_trimL (lessL y x 0)
        rw [e, s1] at this
        simp only [V] at this
        omega
      · rw [V_trimL, s1]
        cases a <;> cases b <;> simp at ex ey hab ⊢ <;> omega
      · have := trimL_len (lessL y x 0); omega
    · refine ⟨false, [], Ev.congr (fun k => ?_) (Ev.bind (f := fun k t => if t = 0 then some (false, []) else if t > 0 then (windhoverref00_less.f k x y).bind fun z => some (a, z) else (windhoverref00_less.f k y x).bind fun z => some (b, z)) hr ?_), trivial, trivial, by simp, ?_, by simp⟩
      · rw [windhoverref00_Plus.f, if_neg hne]
      · exact Ev.congr (fun k => by rw [if_pos rfl]) (Ev.now _)
      · cases a <;> cases b <;> simp [V] at ex ey hab ⊢ <;> omega
    · have hlen : y.length ≤ x.length := by
        rcases Nat.lt_or_ge x.length y.length with h | h
        · have := V_lt_len x y dx dy ty h; omega
        · exact h
      obtain ⟨s1, s2, s3⟩ := lessL_spec x y 0 dx dy hlen (by decide) (by decide) (by omega)
      refine ⟨a, trimL (lessL x y 0), Ev.congr (fun k => ?_) (Ev.bind (f := fun k t => if t = 0 then some (false, []) else if t > 0 then (windhoverref00_less.f k x y).bind fun z => some (a, z) else (windhoverref00_less.f k y x).bind fun z => some (b, z)) hr ?_), Dg_trimL _ s2, Trm_trimL _, fun h => ?_, ?_, ?_⟩
      · rw [windhoverref00_Plus.f, if_neg hne]
      · exact Ev.congr (fun k => by rw [if_neg (by decide), if_pos (by decide)]) (Ev.bind (f := fun _ z => some (a, z)) (lessf_ev x y dx dy (by omega) hlen) (Ev.now _))
      · intro e
        have := V_trimL (lessL x y 0)
        rw [e, s1] at this
        simp only [V] at this
        omega
      · rw [V_trimL, s1]
        cases a <;> cases b <;> simp at ex ey hab ⊢ <;> omega
      · have := trimL_len (lessL x y 0); omega

theorem neg_f {L : Nat} {b : Bool} {d : List Int} {n : Int} (h : W L b d n) : ∃ c, windhoverref00_Negative.f b d = some (c, d) ∧ W L c d (-n) := by
  obtain ⟨hd, ht, hb, hn, hl⟩ := h
  by_cases e : d = []
  · subst e
    refine ⟨false, ?_, hd, ht, by simp, ?_, hl⟩
    · rw [windhoverref00_Negative.f, if_neg (by simp)]; split <;> rfl
    · simp only [V] at hn ⊢
      cases b <;> simp at hn ⊢ <;> omega
  · have hp : (d.length : Int) > 0 := by
      have := List.length_pos_iff.mpr e
      omega
    cases b
    · exact ⟨true, by rw [windhoverref00_Negative.f, if_pos hp]; rfl, hd, ht, fun _ => e, by simp at hn ⊢; omega, hl⟩
    · exact ⟨false, by rw [windhoverref00_Negative.f, if_pos hp]; rfl, hd, ht, by simp, by simp at hn ⊢; omega, hl⟩
theorem minus_ev {L : Nat} {a b : Bool} {x y : List Int} {m n : Int} (hx : W L a x m) (hy : W L b y n) (hL : L ≤ 900) : ∃ c z, Ev (fun k => windhoverref00_Minus.f k a x b y) (c, z) ∧ W (L + 1) c z (m - n) := by
  obtain ⟨c, h1, h2⟩ := neg_f hy
  obtain ⟨c2, z, h3, h4⟩ := plus_ev hx h2 hL
  refine ⟨c2, z, Ev.congr (fun k => ?_) (Ev.bind (f := fun _ t => some (t.1, t.2)) h3 (Ev.now _)), by rw [Int.sub_eq_add_neg]; exact h4⟩
  rw [windhoverref00_Minus.f, h1, Option.bind_some]
theorem cmp_ev {L : Nat} {a b : Bool} {x y : List Int} {m n : Int} (hx : W L a x m) (hy : W L b y n) (hL : L ≤ 1000) : ∃ r, Ev (fun k => windhoverref00_Cmp.f k a x b y) r ∧ Sg m n r := by
  have rx := W_range hx
  have ry := W_range hy
  obtain ⟨dx, tx, bx, ex, lx⟩ := hx
  obtain ⟨dy, ty, by', ey, ly⟩ := hy
  by_cases hab : a = b
  · subst hab
    obtain ⟨r, hr, hs⟩ := sizef_ev x y dx dy tx ty (by omega)
    cases a
    · refine ⟨r, Ev.congr (fun k => ?_) (Ev.bind (f := fun _ t => some t) hr (Ev.now _)), ?_⟩
      · rw [windhoverref00_Cmp.f, if_neg (by decide)]; rfl
      · simp at ex ey; rw [ex, ey]; exact hs
    · refine ⟨-r, Ev.congr (fun k => ?_) (Ev.bind (f := fun _ t => some (wrap64 (-t))) hr (ev_eq ?_ (Ev.now _))), ?_⟩
      · rw [windhoverref00_Cmp.f, if_neg (by decide)]; rfl
      · rcases hs with ⟨rfl, _⟩ | ⟨rfl, _⟩ | ⟨rfl, _⟩ <;> exact (wsm (by decide) (by decide)).symm
      · simp at ex ey; unfold Sg at *; omega
  · cases a <;> cases b
    · exact absurd rfl hab
    · refine ⟨1, Ev.congr (fun k => ?_) (Ev.now _), .inr (.inr ⟨rfl, by have := rx.2 rfl; have := ry.1 rfl; omega⟩)⟩
      rw [windhoverref00_Cmp.f, if_pos (by decide), if_neg (by decide)]
    · refine ⟨-1, Ev.congr (fun k => ?_) (Ev.now _), .inl ⟨rfl, by have := rx.1 rfl; have := ry.2 rfl; omega⟩⟩
      rw [windhoverref00_Cmp.f, if_pos (by decide), if_pos rfl]
    · exact absurd rfl hab
theorem V_drop_le : ∀ (l : List Int) (i : Nat), Dg l → V (l.drop i) ≤ V l
  | [], _, _ => by simp
  | d :: ds, 0, _ => by simp
  | d :: ds, i + 1, h => by
    have := V_drop_le ds i h.2
    have := V_nonneg ds h.2
    have := h.1
    simp only [List.drop_succ_cons, V]; omega
theorem int_loop (d : List Int) (hd : Dg d) (hl : d.length ≤ 1000) (b : Bool) (hv : V d ≤ 9223372036854775807 + (if b = true then 1 else 0)) : ∀ (i : Nat), i ≤ d.length →
    Ev (fun k => windhoverref00_Int.l0 k (if b = true then -V (d.drop i) else V (d.drop i)) ((i : Int) - 1) b d) (if b = true then -V d else V d, true) := by
  intro i
  induction i with
  | zero =>
    intro _
    rw [List.drop_zero]
    refine Ev.step (f := fun _ => some (if b = true then -V d else V d, true)) (fun k => ?_) (Ev.now _)
    rw [windhoverref00_Int.l0, if_neg (by omega)]
  | succ i ih =>
    intro hi
    have p : i < d.length := by omega
    have hx := Dg_rd hd p
    have e1 : (((i + 1 : Nat) : Int) - 1) = (i : Int) := by omega
    have e2 : wrap64 ((i : Int) - 1) = (i : Int) - 1 := wsm (by omega) (by omega)
    have hle := V_drop_le d i hd
    have hn := V_nonneg _ (Dg_drop d (i + 1) hd)
    have hdr : V (d.drop i) = rd d i + 1073741824 * V (d.drop (i + 1)) := by rw [drop_rd d i p]; rfl
    rw [e1]
    refine Ev.step (fun k => ?_) (ih (by omega))
    cases b
    · simp only [Bool.false_eq_true, if_false] at hv ⊢
      rw [windhoverref00_Int.l0, if_pos (by omega), if_neg (by decide), if_pos (by omega), if_pos (by omega), e2, wsm (a := V _ * 1073741824) (by omega) (by omega), wsm (by omega) (by omega), hdr]
      congr 1; omega
    · simp only [if_true] at hv ⊢
      rw [windhoverref00_Int.l0, if_pos (by omega), if_pos rfl, if_pos (by omega), if_pos (by omega), e2, wsm (a := -V _ * 1073741824) (by omega) (by omega), wsm (by omega) (by omega), hdr]
      congr 1; omega
theorem int_ev {L : Nat} {b : Bool} {d : List Int} {n : Int} (h : W L b d n) (hL : L ≤ 900) : Ev (fun k => windhoverref00_Int.f k b d) (if -9223372036854775808 ≤ n ∧ n ≤ 9223372036854775807 then (n, true) else (0, false)) := by
  obtain ⟨b1, d1, o1, w1⟩ := of_ev (-9223372036854775808) (by decide) (by decide)
  obtain ⟨b2, d2, o2, w2⟩ := of_ev 9223372036854775807 (by decide) (by decide)
  obtain ⟨r1, c1, s1⟩ := cmp_ev (h.mono (show L ≤ L + 3 by omega)) (w1.mono (show 3 ≤ L + 3 by omega)) (by omega)
  obtain ⟨r2, c2, s2⟩ := cmp_ev (h.mono (show L ≤ L + 3 by omega)) (w2.mono (show 3 ≤ L + 3 by omega)) (by omega)
  obtain ⟨hd, ht, hb, hn, hl⟩ := h
  have stop : Ev (fun k => windhoverref00_Int.j0 k true b d) (0, false) := by
    refine Ev.step (f := fun _ => some (0, false)) (fun k => ?_) (Ev.now _)
    rw [windhoverref00_Int.j0, if_pos rfl]
  refine Ev.congr (fun k => by rw [windhoverref00_Int.f]) (Ev.bind o1 (Ev.bind c1 ?_))
  by_cases hlow : n < -9223372036854775808
  · obtain rfl : r1 = -1 := by unfold Sg at s1; omega
    rw [if_neg (by omega)]
    exact Ev.congr (fun k => by rw [if_pos (by decide)]) stop
  · have hr1 : ¬ r1 < 0 := by unfold Sg at s1; omega
    refine Ev.congr (fun k => by rw [if_neg hr1]) (Ev.bind o2 (Ev.bind c2 ?_))
    by_cases hhigh : n > 9223372036854775807
    · obtain rfl : r2 = 1 := by unfold Sg at s2; omega
      rw [if_neg (by omega)]
      exact Ev.congr (fun k => by rw [show decide ((1 : Int) > 0) = true from by decide]) stop
    · have hr2 : decide (r2 > 0) = false := by unfold Sg at s2; simp; omega
      rw [if_pos ⟨by omega, by omega⟩]
      have hv : V d ≤ 9223372036854775807 + (if b = true then 1 else 0) := by cases b <;> simp at hn ⊢ <;> omega
      have hi := int_loop d hd (by omega) b hv d.length (Nat.le_refl _)
      rw [List.drop_of_length_le (Nat.le_refl _), ← hn] at hi
      simp only [V, Int.neg_zero, ite_self] at hi
      refine Ev.congr (fun k => by rw [hr2]) (Ev.step (fun k => ?_) hi)
      rw [windhoverref00_Int.j0, if_neg (by decide), wsm (by omega) (by omega)]
/-- A whole number, kept within an int. -/
def sat (n : Int) : Int := if n > 9223372036854775807 then 9223372036854775807 else if n < -9223372036854775808 then -9223372036854775808 else n
theorem kept_ev {L : Nat} {b : Bool} {d : List Int} {n : Int} (h : W L b d n) (hL : L ≤ 900) : Ev (fun k => windhoverref01_kept.f k b d) (sat n) := by
  have r := W_range h
  refine Ev.congr (fun k => by rw [windhoverref01_kept.f]) (Ev.bind (int_ev h hL) ?_)
  by_cases h1 : -9223372036854775808 ≤ n ∧ n ≤ 9223372036854775807
  · have e : sat n = n := by unfold sat; rw [if_neg (by omega), if_neg (by omega)]
    rw [e, if_pos h1]
    exact Ev.congr (fun k => by rw [if_pos rfl]) (Ev.now _)
  · rw [if_neg h1]
    cases b
    · have := r.2 rfl
      have e : sat n = 9223372036854775807 := by unfold sat; rw [if_pos (by omega)]
      rw [e]
      exact Ev.congr (fun k => by rw [if_neg (by decide), if_neg (by decide)]) (Ev.now _)
    · have := r.1 rfl
      have e : sat n = -9223372036854775808 := by unfold sat; rw [if_neg (by omega), if_pos (by omega)]
      rw [e]
      exact Ev.congr (fun k => by rw [if_neg (by decide), if_pos rfl]) (Ev.now _)
def I64 (n : Int) : Prop := -9223372036854775808 ≤ n ∧ n ≤ 9223372036854775807
theorem radd_ev {a b : Int} (ha : I64 a) (hb : I64 b) : Ev (fun k => windhoverref01_Add.f k a b) (sat (a + b)) := by
  obtain ⟨b1, d1, o1, w1⟩ := of_ev a ha.1 ha.2
  obtain ⟨b2, d2, o2, w2⟩ := of_ev b hb.1 hb.2
  obtain ⟨c, z, p, w⟩ := plus_ev w1 w2 (by decide)
  exact Ev.congr (fun k => by rw [windhoverref01_Add.f]) (Ev.bind o1 (Ev.bind o2 (Ev.bind p (Ev.bind (f := fun _ t => some t) (kept_ev w (by decide)) (Ev.now _)))))
theorem rsub_ev {a b : Int} (ha : I64 a) (hb : I64 b) : Ev (fun k => windhoverref01_Sub.f k a b) (sat (a - b)) := by
  obtain ⟨b1, d1, o1, w1⟩ := of_ev a ha.1 ha.2
  obtain ⟨b2, d2, o2, w2⟩ := of_ev b hb.1 hb.2
  obtain ⟨c, z, p, w⟩ := minus_ev w1 w2 (by decide)
  exact Ev.congr (fun k => by rw [windhoverref01_Sub.f]) (Ev.bind o1 (Ev.bind o2 (Ev.bind p (Ev.bind (f := fun _ t => some t) (kept_ev w (by decide)) (Ev.now _)))))

theorem mulL_cons {o y : Int} {os ys : List Int} {x c : Int} : mulL (o :: os) (y :: ys) x c = ((o + x * y + c) % 1073741824) :: mulL os ys x ((o + x * y + c) / 1073741824) := by
  conv => lhs; unfold mulL
theorem set_mid (P : List Int) (o v : Int) (os : List Int) (n : Nat) (h : P.length = n) : (P ++ o :: os).set n v = P ++ v :: os := by
  subst h
  simp [List.set_append_right]
theorem rd_mid (P : List Int) (o : Int) (os : List Int) (n : Nat) (h : P.length = n) : rd (P ++ o :: os) (n : Int) = o := by
  subst h
  rw [rd_nat]
  simp [List.getD_eq_getElem?_getD]
theorem wadd (i j : Nat) (h : i + j ≤ 1000000) : wrap64 ((i : Int) + (j : Int)) = ((i + j : Nat) : Int) := by rw [wsm (by omega) (by omega)]; omega
theorem wadd1 (i : Nat) (h : i ≤ 1000000) : wrap64 ((i : Int) + 1) = ((i + 1 : Nat) : Int) := by rw [wsm (by omega) (by omega)]; omega
theorem times_in (ab bb : Bool) (a b : List Int) (hal : a.length ≤ 400) (hbl : b.length ≤ 400) (hb : Dg b) (i : Nat) (hi : i < a.length) (ha : Dg a) (r : Bool × List Int) :
    ∀ (n j : Nat) (P o : List Int) (c : Int), b.length = j + n → P.length = i + j → n < o.length → P.length + o.length ≤ 900 → Dg o → AllZ (o.drop n) → (0 ≤ c ∧ c < 1073741824) →
    Ev (fun k => windhoverref00_Times.l0 k (P ++ mulL o (b.drop j) (rd a i) c) ((i + 1 : Nat) : Int) ab a bb b) r →
    Ev (fun k => windhoverref00_Times.l1 k (P ++ o) (i : Int) c (j : Int) ab a bb b) r := by
  intro n
  have hx := Dg_rd ha hi
  induction n with
  | zero =>
    intro j P o c hj hP ho htot hd hz hc hev
    cases o with
    | nil => simp at ho
    | cons o os =>
      have em : mulL (o :: os) [] (rd a i) c = (o + c) :: os := by unfold mulL; rfl
      rw [List.drop_of_length_le (show b.length ≤ j by omega), em] at hev
      simp only [List.drop_zero, AllZ] at hz
      have hlen : ((P ++ o :: os).length : Int) = i + j + os.length + 1 := by simp; omega
      simp only [List.length_cons] at htot
      have ho0 : o = 0 := hz.1
      clear hz hx
      have q1 : ¬ (j : Int) < (b.length : Int) := by omega
      have q2 : 0 ≤ ((i + b.length : Nat) : Int) := by omega
      have q3 : ((i + b.length : Nat) : Int) < ((P ++ o :: os).length : Int) := by omega
      have q4 : P.length = i + b.length := by omega
      have q5 : i + b.length ≤ 1000000 := by omega
      have q6 : i ≤ 1000000 := by omega
      have e3 : -9223372036854775808 ≤ o + c ∧ o + c ≤ 9223372036854775807 := by omega
      refine Ev.step (fun k => ?_) hev
      rw [windhoverref00_Times.l1, if_neg q1, wadd i b.length q5, if_pos q2, if_pos q3, wadd1 i q6, rd_mid P o os _ q4, wsm e3.1 e3.2, Int.toNat_natCast, set_mid P o (o + c) os _ q4]
  | succ n ih =>
    intro j P o c hj hP ho htot hd hz hc hev
    cases o with
    | nil => simp at ho
    | cons o os =>
      have q : j < b.length := by omega
      have hy := Dg_rd hb q
      have hm := mul_bd hx hy
      have hod := hd.1
      rw [drop_rd b j q, mulL_cons] at hev
      have hlen : ((P ++ o :: os).length : Int) = i + j + os.length + 1 := by simp; omega
      simp only [List.length_cons] at htot ho
      have q1 : (j : Int) < (b.length : Int) := by omega
      have q2 : 0 ≤ ((i + j : Nat) : Int) := by omega
      have q3 : ((i + j : Nat) : Int) < ((P ++ o :: os).length : Int) := by omega
      have q4 : P.length = i + j := by omega
      have q5 : i + j ≤ 1000000 := by omega
      have q6 : j ≤ 1000000 := by omega
      have q7 : 0 ≤ (i : Int) := by omega
      have q8 : (i : Int) < (a.length : Int) := by omega
      have q9 : 0 ≤ (j : Int) := by omega
      have r1 : b.length = j + 1 + n := by omega
      have r2 : n < os.length := by omega
      have key : ∀ t : Int, 0 ≤ t → t ≤ 1152921502459363329 → wrap64 t = t ∧ wrap64 (o + t) = o + t ∧ wrap64 (o + t + c) = o + t + c ∧ Int.tmod (o + t + c) 1073741824 = (o + t + c) % 1073741824 ∧ wrap64 (Int.tdiv (o + t + c) 1073741824) = (o + t + c) / 1073741824 ∧ (0 ≤ (o + t + c) / 1073741824 ∧ (o + t + c) / 1073741824 < 1073741824) := by
        intro t h0 h1
        refine ⟨wsm (by omega) (by omega), wsm (by omega) (by omega), wsm (by omega) (by omega), Int.tmod_eq_emod_of_nonneg (by omega), ?_, ⟨by omega, by omega⟩⟩
        rw [Int.tdiv_eq_ediv_of_nonneg (by omega), wsm (by omega) (by omega)]
      have hl2 : (P ++ [(o + rd a i * rd b j + c) % 1073741824]).length = i + (j + 1) := by simp; omega
      have hl3 : (P ++ [(o + rd a i * rd b j + c) % 1073741824]).length + os.length ≤ 900 := by simp; omega
      obtain ⟨k1, k2, k3, k4, k5, k6⟩ := key _ hm.1 hm.2
      clear key hlen htot
      have hev' := ih (j + 1) (P ++ [(o + rd a i * rd b j + c) % 1073741824]) os _ r1 hl2 r2 hl3 hd.2 hz k6 (by rw [List.append_assoc]; exact hev)
      refine Ev.step (fun k => ?_) hev'
      rw [windhoverref00_Times.l1, if_pos q1, wadd i j q5, if_pos q2, if_pos q3, if_pos q7, if_pos q8, if_pos q9, rd_mid P o os _ q4, k1, k2, k3, k4, k5, wadd1 j q6, Int.toNat_natCast, set_mid P o _ os _ q4, List.append_assoc]
      rfl
theorem timesL_step {o : List Int} {x : Int} {xs b : List Int} {h : Int} {t : List Int} (e : mulL o b x 0 = h :: t) : timesL o (x :: xs) b = h :: timesL t xs b := by
  conv => lhs; unfold timesL
  rw [e]
theorem times_out (ab bb : Bool) (a b : List Int) (hal : a.length ≤ 400) (hbl : b.length ≤ 400) (ha : Dg a) (hb : Dg b) : ∀ (n i : Nat) (P o : List Int), a.length = i + n → P.length = i → o.length = n + b.length → Dg o → AllZ (o.drop b.length) →
    Ev (fun k => windhoverref00_Times.l0 k (P ++ o) (i : Int) ab a bb b) (ab != bb, trimL (P ++ timesL o (a.drop i) b)) := by
  intro n
  induction n with
  | zero =>
    intro i P o hi hP ho hd hz
    rw [List.drop_of_length_le (show a.length ≤ i by omega)]
    have e : timesL o [] b = o := by unfold timesL; rfl
    rw [e]
    refine Ev.step (f := fun k => (windhoverref00_trim.f k (P ++ o)).bind fun t => some (ab != bb, t)) (fun k => ?_) (Ev.bind (trimf_ev _ (by simp; omega)) (Ev.now _))
    rw [windhoverref00_Times.l0, if_neg (by omega)]
  | succ n ih =>
    intro i P o hi hP ho hd hz
    have p : i < a.length := by omega
    have hx := Dg_rd ha p
    refine Ev.step (f := fun k => windhoverref00_Times.l1 k (P ++ o) (i : Int) 0 ((0 : Nat) : Int) ab a bb b) (fun k => ?_) ?_
    · rw [windhoverref00_Times.l0, if_pos (by omega)]; rfl
    · refine times_in ab bb a b hal hbl hb i p ha _ b.length 0 P o 0 (by omega) (by omega) (by omega) (by omega) hd hz (by decide) ?_
      rw [List.drop_zero, drop_rd a i p]
      obtain ⟨m1, m2, m3⟩ := mulL_spec o b (rd a i) 0 hd hb (by omega) hz hx (by decide)
      have hlen := mulL_len o b (rd a i) 0
      cases hm : mulL o b (rd a i) 0 with
      | nil => rw [hm] at hlen; simp at hlen; omega
      | cons h t =>
        rw [hm] at hlen m2 m3
        have := ih (i + 1) (P ++ [h]) t (by omega) (by simp; omega) (by simp at hlen; omega) m2.2 (by simpa using m3)
        rw [timesL_step hm]
        simpa using this
theorem AllZ_rep : ∀ n, AllZ (List.replicate n 0)
  | 0 => trivial
  | n + 1 => ⟨rfl, AllZ_rep n⟩
theorem Dg_rep : ∀ n, Dg (List.replicate n 0)
  | 0 => trivial
  | n + 1 => ⟨by decide, Dg_rep n⟩
theorem V_rep : ∀ n, V (List.replicate n 0) = 0
  | 0 => rfl
  | n + 1 => by simp only [List.replicate, V, V_rep n]; rfl
theorem times_ev {L M : Nat} {a b : Bool} {x y : List Int} {m n : Int} (hx : W L a x m) (hy : W M b y n) (hL : L ≤ 400) (hM : M ≤ 400) : ∃ c z, Ev (fun k => windhoverref00_Times.f k a x b y) (c, z) ∧ W (L + M) c z (m * n) := by
  obtain ⟨dx, tx, bx, ex, lx⟩ := hx
  obtain ⟨dy, ty, by', ey, ly⟩ := hy
  by_cases hz : x = [] ∨ y = []
  · refine ⟨false, [], ?_, trivial, trivial, by simp, ?_, by simp⟩
    · have stop : Ev (fun k => windhoverref00_Times.j0 k true a x b y) (false, []) := by
        refine Ev.step (f := fun _ => some (false, [])) (fun k => ?_) (Ev.now _)
        rw [windhoverref00_Times.j0, if_pos rfl]
      refine Ev.congr (fun k => ?_) stop
      rcases hz with rfl | rfl
      · rw [windhoverref00_Times.f, if_pos (by simp)]
      · rw [windhoverref00_Times.f]
        by_cases h : (x.length : Int) = 0
        · rw [if_pos h]
        · rw [if_neg h]; rfl
    · rcases hz with rfl | rfl
      · simp [V] at ex; subst ex; simp [V]
      · simp [V] at ey; subst ey; simp [V]
  · have hx0 : x ≠ [] := fun e => hz (.inl e)
    have hy0 : y ≠ [] := fun e => hz (.inr e)
    have lx0 := List.length_pos_iff.mpr hx0
    have ly0 := List.length_pos_iff.mpr hy0
    have vx := V_pos x dx tx hx0
    have vy := V_pos y dy ty hy0
    have hdrop : AllZ ((List.replicate (x.length + y.length) (0 : Int)).drop y.length) := by rw [List.drop_replicate]; exact AllZ_rep _
    obtain ⟨s1, s2, s3⟩ := timesL_spec x y (List.replicate (x.length + y.length) 0) dx dy (Dg_rep _) (by simp) hdrop
    rw [V_rep] at s1
    have hev := times_out a b x y (by omega) (by omega) dx dy x.length 0 [] (List.replicate (x.length + y.length) 0) (by omega) rfl (by simp) (Dg_rep _) hdrop
    rw [List.drop_zero, List.nil_append, List.nil_append] at hev
    have hpos := Int.mul_pos vx vy
    refine ⟨a != b, trimL (timesL (List.replicate (x.length + y.length) 0) x y), Ev.congr (f := fun k => windhoverref00_Times.j0 k false a x b y) (fun k => ?_) (Ev.step (fun k => ?_) hev), Dg_trimL _ s2, Trm_trimL _, fun h => ?_, ?_, ?_⟩
    · rw [windhoverref00_Times.f, if_neg (by omega), show ((y.length : Int) == 0) = false from by simp; omega]
    · rw [windhoverref00_Times.j0, if_neg (by decide), wadd x.length y.length (by omega), if_pos (by omega), Int.toNat_natCast, if_pos (by omega)]
      rfl
    · intro e
      have := V_trimL (timesL (List.replicate (x.length + y.length) 0) x y)
      rw [e, s1] at this
      simp only [V] at this
      omega
    · rw [V_trimL, s1]
      cases a <;> cases b <;> simp at ex ey ⊢ <;> rw [ex, ey] <;> simp [Int.neg_mul, Int.mul_neg]
    · have := trimL_len (timesL (List.replicate (x.length + y.length) 0) x y)
      simp at s3
      omega
theorem rmul_ev {a b : Int} (ha : I64 a) (hb : I64 b) : Ev (fun k => windhoverref01_Mul.f k a b) (sat (a * b)) := by
  obtain ⟨b1, d1, o1, w1⟩ := of_ev a ha.1 ha.2
  obtain ⟨b2, d2, o2, w2⟩ := of_ev b hb.1 hb.2
  obtain ⟨c, z, p, w⟩ := times_ev w1 w2 (by decide) (by decide)
  exact Ev.congr (fun k => by rw [windhoverref01_Mul.f]) (Ev.bind o1 (Ev.bind o2 (Ev.bind p (Ev.bind (f := fun _ t => some t) (kept_ev w (by decide)) (Ev.now _)))))

theorem I64_of {a : Int} (h : (Lit.int .i64 a).wf = true) : I64 a := by
  simp [Lit.wf, IntKind.min, IntKind.max, IntKind.signed, IntKind.bits] at h
  unfold I64; omega

/-! ### Add, Sub, Mul: kept within an int -/
theorem add_ev' {a b : Int} (ha : I64 a) (hb : I64 b) : Ev (fun k => fix_Add.f k a b) (sat (a + b)) := by
  have key : ∀ c : Bool, c = decide (a > 0 ∧ b > 0 ∧ wrap64 (a + b) < 0) → Ev (fun k => fix_Add.j0 k a b (wrap64 (a + b)) c) (sat (a + b)) := by
    intro c hc
    refine Ev.step (f := fun _ => some (sat (a + b))) (fun k => ?_) (Ev.now _)
    rw [fix_Add.j0]
    unfold I64 at *
    have hw : (wrap64 (a + b) = a + b ∧ -9223372036854775808 ≤ a + b ∧ a + b ≤ 9223372036854775807) ∨ (wrap64 (a + b) = a + b - 18446744073709551616 ∧ a + b > 9223372036854775807) ∨ (wrap64 (a + b) = a + b + 18446744073709551616 ∧ a + b < -9223372036854775808) := by
      unfold wrap64; omega
    generalize wrap64 (a + b) = s at *
    unfold sat
    by_cases h : a > 0 ∧ b > 0 ∧ s < 0
    · rw [hc, if_pos (by simpa using h)]
      rw [if_pos (by omega)]
    · rw [hc, if_neg (by simpa using h)]
      by_cases h1 : a < 0
      · rw [if_pos h1]
        by_cases h2 : b < 0
        · rw [if_pos h2]
          by_cases h3 : s ≥ 0
          · rw [if_pos h3, if_neg (by omega), if_pos (by omega)]
          · rw [if_neg h3, if_neg (by omega), if_neg (by omega)]; congr 1; omega
        · rw [if_neg h2, if_neg (by omega), if_neg (by omega)]; congr 1; omega
      · rw [if_neg h1, if_neg (by omega), if_neg (by omega)]; congr 1; omega
  by_cases h1 : a > 0
  · by_cases h2 : b > 0
    · exact Ev.congr (fun k => by rw [fix_Add.f, if_pos h1, if_pos h2]) (key _ (by simp [h1, h2]))
    · exact Ev.congr (fun k => by rw [fix_Add.f, if_pos h1, if_neg h2]) (key _ (by simp [h2]))
  · exact Ev.congr (fun k => by rw [fix_Add.f, if_neg h1]) (key _ (by simp [h1]))
theorem sub_ev' {a b : Int} (ha : I64 a) (hb : I64 b) : Ev (fun k => fix_Sub.f k a b) (sat (a - b)) := by
  have key : ∀ c : Bool, c = decide (a ≥ 0 ∧ b < 0 ∧ wrap64 (a - b) < 0) → Ev (fun k => fix_Sub.j0 k a b (wrap64 (a - b)) c) (sat (a - b)) := by
    intro c hc
    refine Ev.step (f := fun _ => some (sat (a - b))) (fun k => ?_) (Ev.now _)
    rw [fix_Sub.j0]
    unfold I64 at *
    have hw : (wrap64 (a - b) = a - b ∧ -9223372036854775808 ≤ a - b ∧ a - b ≤ 9223372036854775807) ∨ (wrap64 (a - b) = a - b - 18446744073709551616 ∧ a - b > 9223372036854775807) ∨ (wrap64 (a - b) = a - b + 18446744073709551616 ∧ a - b < -9223372036854775808) := by
      unfold wrap64; omega
    generalize wrap64 (a - b) = s at *
    unfold sat
    by_cases h : a ≥ 0 ∧ b < 0 ∧ s < 0
    · rw [hc, if_pos (by simpa using h)]
      rw [if_pos (by omega)]
    · rw [hc, if_neg (by simpa using h)]
      by_cases h1 : a < 0
      · rw [if_pos h1]
        by_cases h2 : b > 0
        · rw [if_pos h2]
          by_cases h3 : s ≥ 0
          · rw [if_pos h3, if_neg (by omega), if_pos (by omega)]
          · rw [if_neg h3, if_neg (by omega), if_neg (by omega)]; congr 1; omega
        · rw [if_neg h2, if_neg (by omega), if_neg (by omega)]; congr 1; omega
      · rw [if_neg h1, if_neg (by omega), if_neg (by omega)]; congr 1; omega
  by_cases h1 : a ≥ 0
  · by_cases h2 : b < 0
    · exact Ev.congr (fun k => by rw [fix_Sub.f, if_pos h1, if_pos h2]) (key _ (by simp [h1, h2]))
    · exact Ev.congr (fun k => by rw [fix_Sub.f, if_pos h1, if_neg h2]) (key _ (by simp [h2]))
  · exact Ev.congr (fun k => by rw [fix_Sub.f, if_neg h1]) (key _ (by simp [h1]))

theorem uw {a : Int} (h1 : 0 ≤ a) (h2 : a < 18446744073709551616) : IntKind.u64.wrap a = a := by rw [IntKind.wrap_u64]; omega
theorem and32 {a : Int} (h1 : 0 ≤ a) (h2 : a < 18446744073709551616) : Go.bits .and .u64 a 4294967295 = a % 4294967296 := by
  have := bits_mask .u64 64 (by decide) (fun n h0 h1 => by rw [IntKind.wrap_u64]; omega) 32 (by decide) a h1 (by omega)
  simpa using this
theorem prod32 {x y : Int} (hx : 0 ≤ x ∧ x ≤ 4294967295) (hy : 0 ≤ y ∧ y ≤ 4294967295) : 0 ≤ x * y ∧ x * y ≤ 18446744065119617025 := by
  refine ⟨Int.mul_nonneg hx.1 hy.1, ?_⟩
  have := Int.mul_le_mul hx.2 hy.2 hy.1 (by decide)
  omega
/-- The 128 bits of a product. -/
theorem mul64_f {a b : Int} (ha : 0 ≤ a ∧ a < 18446744073709551616) (hb : 0 ≤ b ∧ b < 18446744073709551616) : bits_Mul64.f a b = some (a * b / 18446744073709551616, a * b % 18446744073709551616) := by
  obtain ⟨p, q, rfl, hp, hq⟩ : ∃ p q : Int, a = p * 4294967296 + q ∧ (0 ≤ p ∧ p ≤ 4294967295) ∧ (0 ≤ q ∧ q ≤ 4294967295) := ⟨a / 4294967296, a % 4294967296, by omega, by omega, by omega⟩
  obtain ⟨r, s, rfl, hr, hs⟩ : ∃ r s : Int, b = r * 4294967296 + s ∧ (0 ≤ r ∧ r ≤ 4294967295) ∧ (0 ≤ s ∧ s ≤ 4294967295) := ⟨b / 4294967296, b % 4294967296, by omega, by omega, by omega⟩
  have e1 : (p * 4294967296 + q) / 4294967296 = p := by omega
  have e2 : (r * 4294967296 + s) / 4294967296 = r := by omega
  have e3 : Go.bits .and .u64 (p * 4294967296 + q) 4294967295 = q := by rw [and32 ha.1 ha.2]; omega
  have e4 : Go.bits .and .u64 (r * 4294967296 + s) 4294967295 = s := by rw [and32 hb.1 hb.2]; omega
  have hpr := prod32 hp hr
  have hps := prod32 hp hs
  have hqr := prod32 hq hr
  have hqs := prod32 hq hs
  have hx : (p * 4294967296 + q) * (r * 4294967296 + s) = p * r * 18446744073709551616 + (p * s + q * r) * 4294967296 + q * s := by
    rw [Int.add_mul, Int.mul_add, Int.mul_add]
    have a1 : p * 4294967296 * (r * 4294967296) = p * r * 18446744073709551616 := by rw [Int.mul_assoc, Int.mul_comm r, ← Int.mul_assoc 4294967296, Int.mul_comm _ r, ← Int.mul_assoc]; omega
    have a2 : p * 4294967296 * s = p * s * 4294967296 := by rw [Int.mul_assoc, Int.mul_comm 4294967296 s, ← Int.mul_assoc]
    have a3 : q * (r * 4294967296) = q * r * 4294967296 := by rw [Int.mul_assoc]
    rw [a1, a2, a3]; omega
  unfold bits_Mul64.f
  rw [e1, e2, e3, e4, hx]
  generalize p * r = A at *
  generalize p * s = B at *
  generalize q * r = C at *
  generalize q * s = D at *
  clear e1 e2 e3 e4 hx ha hb
  rw [uw (a := D) (by omega) (by omega), uw (a := B) (by omega) (by omega), uw (a := A) (by omega) (by omega), uw (a := C) (by omega) (by omega), uw (a := B + D / 4294967296) (by omega) (by omega), and32 (a := B + D / 4294967296) (by omega) (by omega), uw (a := A + _) (by omega) (by omega), uw (a := (B + D / 4294967296) % 4294967296 + C) (by omega) (by omega), uw (by omega) (by omega), IntKind.wrap_u64]
  congr 2
  omega
theorem size_f {a : Int} (ha : I64 a) : fix_size.f a = some (if a < 0 then -a else a) := by
  unfold I64 at ha
  unfold fix_size.f
  by_cases h : a < 0
  · rw [if_pos h, if_pos h, IntKind.wrap_u64, IntKind.wrap_u64]; congr 1; omega
  · rw [if_neg h, if_neg h, IntKind.wrap_u64]; congr 1; omega
/-- A number of that size, below 0 or not. -/
theorem signed_ev {n : Int} (hn : 0 ≤ n ∧ n < 18446744073709551616) (b : Bool) : Ev (fun k => fix_signed.f k n b) (sat (if b = true then -n else n)) := by
  have w : ∀ m : Int, (-9223372036854775808 ≤ m ∧ m ≤ 9223372036854775807 → wrap64 m = m) := fun m h => by unfold wrap64; omega
  cases b
  · refine Ev.congr (fun k => by rw [fix_signed.f, if_neg (by decide)]) (Ev.step (f := fun _ => some (sat n)) (fun k => ?_) (Ev.now _))
    rw [fix_signed.j0, if_neg (by decide), if_neg (by decide)]
    unfold sat
    by_cases h : n ≥ 9223372036854775808
    · rw [if_pos h, if_pos (by omega)]
    · rw [if_neg h, if_neg (by omega), if_neg (by omega), w n (by omega)]
  · refine Ev.congr (fun k => by rw [fix_signed.f, if_pos rfl]) (Ev.step (f := fun _ => some (sat (-n))) (fun k => ?_) (Ev.now _))
    rw [fix_signed.j0]
    unfold sat
    by_cases h : n ≥ 9223372036854775808
    · rw [if_pos (by simpa using h), if_neg (by omega)]
      by_cases h2 : n = 9223372036854775808
      · subst h2; rfl
      · rw [if_pos (by omega)]
    · rw [if_neg (by simpa using h), if_pos rfl, if_neg (by omega), if_neg (by omega), w n (by omega), w (-n) (by omega)]
theorem mul_ev' {a b : Int} (ha : I64 a) (hb : I64 b) : Ev (fun k => fix_Mul.f k a b) (sat (a * b)) := by
  have sa := size_f ha
  have sb := size_f hb
  unfold I64 at ha hb
  obtain ⟨x, hx⟩ : ∃ x, x = (if a < 0 then -a else a) := ⟨_, rfl⟩
  obtain ⟨y, hy⟩ : ∃ y, y = (if b < 0 then -b else b) := ⟨_, rfl⟩
  rw [← hx] at sa
  rw [← hy] at sb
  have hx2 : 0 ≤ x ∧ x < 18446744073709551616 := by split at hx <;> omega
  have hy2 : 0 ≤ y ∧ y < 18446744073709551616 := by split at hy <;> omega
  have hpos := Int.mul_nonneg hx2.1 hy2.1
  have hab : a * b = if ((decide (a < 0)) != (decide (b < 0))) = true then -(x * y) else x * y := by
    by_cases h1 : a < 0 <;> by_cases h2 : b < 0
    · rw [if_pos h1] at hx; rw [if_pos h2] at hy; simp [h1, h2, hx, hy, Int.neg_mul_neg]
    · rw [if_pos h1] at hx; rw [if_neg h2] at hy; simp [h1, h2, hx, hy, Int.neg_mul]
    · rw [if_neg h1] at hx; rw [if_pos h2] at hy; simp [h1, h2, hx, hy, Int.mul_neg]
    · rw [if_neg h1] at hx; rw [if_neg h2] at hy; simp [h1, h2, hx, hy]
  refine Ev.congr (fun k => by rw [fix_Mul.f, sa, sb, Option.bind_some, Option.bind_some, mul64_f hx2 hy2, Option.bind_some]) ?_
  generalize ((decide (a < 0)) != (decide (b < 0))) = s at *
  rw [hab]
  clear hab hx hy sa sb
  generalize x * y = p at *
  by_cases h : p / 18446744073709551616 > 0
  · have e : sat (if s = true then -p else p) = sat (if s = true then -18446744073709551615 else 18446744073709551615) := by
      unfold sat; cases s <;> simp <;> omega
    rw [e]
    exact Ev.congr (fun k => by rw [if_pos h]) (Ev.bind (f := fun _ t => some t) (signed_ev (by decide) s) (Ev.now _))
  · have e : p % 18446744073709551616 = p := by omega
    refine Ev.congr (fun k => by rw [if_neg h]) (Ev.bind (f := fun _ t => some t) ?_ (Ev.now _))
    rw [e]
    exact signed_ev (by omega) s

theorem tab_fin : ∀ i : Fin 256, 0 ≤ bt (⟨#[0, 1, 2, 2, 3, 3, 3, 3, 4, 4, 4, 4, 4, 4, 4, 4, 5, 5, 5, 5, 5, 5, 5, 5, 5, 5, 5, 5, 5, 5, 5, 5, 6, 6, 6, 6, 6, 6, 6, 6, 6, 6, 6, 6, 6, 6, 6, 6, 6, 6, 6, 6, 6, 6, 6, 6, 6, 6, 6, 6, 6, 6, 6, 6, 7, 7, 7, 7, 7, 7, 7, 7, 7, 7, 7, 7, 7, 7, 7, 7, 7, 7, 7, 7, 7, 7, 7, 7, 7, 7, 7, 7, 7, 7, 7, 7, 7, 7, 7, 7, 7, 7, 7, 7, 7, 7, 7, 7, 7, 7, 7, 7, 7, 7, 7, 7, 7, 7, 7, 7, 7, 7, 7, 7, 7, 7, 7, 7, 8, 8, 8, 8, 8, 8, 8, 8, 8, 8, 8, 8, 8, 8, 8, 8, 8, 8, 8, 8, 8, 8, 8, 8, 8, 8, 8, 8, 8, 8, 8, 8, 8, 8, 8, 8, 8, 8, 8, 8, 8, 8, 8, 8, 8, 8, 8, 8, 8, 8, 8, 8, 8, 8, 8, 8, 8, 8, 8, 8, 8, 8, 8, 8, 8, 8, 8, 8, 8, 8, 8, 8, 8, 8, 8, 8, 8, 8, 8, 8, 8, 8, 8, 8, 8, 8, 8, 8, 8, 8, 8, 8, 8, 8, 8, 8, 8, 8, 8, 8, 8, 8, 8, 8, 8, 8, 8, 8, 8, 8, 8, 8, 8, 8, 8, 8, 8, 8, 8, 8, 8, 8, 8, 8, 8, 8, 8, 8]⟩ : ByteArray) (i.val : Int) ∧ bt (⟨#[0, 1, 2, 2, 3, 3, 3, 3, 4, 4, 4, 4, 4, 4, 4, 4, 5, 5, 5, 5, 5, 5, 5, 5, 5, 5, 5, 5, 5, 5, 5, 5, 6, 6, 6, 6, 6, 6, 6, 6, 6, 6, 6, 6, 6, 6, 6, 6, 6, 6, 6, 6, 6, 6, 6, 6, 6, 6, 6, 6, 6, 6, 6, 6, 7, 7, 7, 7, 7, 7, 7, 7, 7, 7, 7, 7, 7, 7, 7, 7, 7, 7, 7, 7, 7, 7, 7, 7, 7, 7, 7, 7, 7, 7, 7, 7, 7, 7, 7, 7, 7, 7, 7, 7, 7, 7, 7, 7, 7, 7, 7, 7, 7, 7, 7, 7, 7, 7, 7, 7, 7, 7, 7, 7, 7, 7, 7, 7, 8, 8, 8, 8, 8, 8, 8, 8, 8, 8, 8, 8, 8, 8, 8, 8, 8, 8, 8, 8, 8, 8, 8, 8, 8, 8, 8, 8, 8, 8, 8, 8, 8, 8, 8, 8, 8, 8, 8, 8, 8, 8, 8, 8, 8, 8, 8, 8, 8, 8, 8, 8, 8, 8, 8, 8, 8, 8, 8, 8, 8, 8, 8, 8, 8, 8, 8, 8, 8, 8, 8, 8, 8, 8, 8, 8, 8, 8, 8, 8, 8, 8, 8, 8, 8, 8, 8, 8, 8, 8, 8, 8, 8, 8, 8, 8, 8, 8, 8, 8, 8, 8, 8, 8, 8, 8, 8, 8, 8, 8, 8, 8, 8, 8, 8, 8, 8, 8, 8, 8, 8, 8, 8, 8, 8, 8, 8, 8]⟩ : ByteArray) (i.val : Int) ≤ 8 ∧ (i.val : Int) < 2 ^ (bt (⟨#[0, 1, 2, 2, 3, 3, 3, 3, 4, 4, 4, 4, 4, 4, 4, 4, 5, 5, 5, 5, 5, 5, 5, 5, 5, 5, 5, 5, 5, 5, 5, 5, 6, 6, 6, 6, 6, 6, 6, 6, 6, 6, 6, 6, 6, 6, 6, 6, 6, 6, 6, 6, 6, 6, 6, 6, 6, 6, 6, 6, 6, 6, 6, 6, 7, 7, 7, 7, 7, 7, 7, 7, 7, 7, 7, 7, 7, 7, 7, 7, 7, 7, 7, 7, 7, 7, 7, 7, 7, 7, 7, 7, 7, 7, 7, 7, 7, 7, 7, 7, 7, 7, 7, 7, 7, 7, 7, 7, 7, 7, 7, 7, 7, 7, 7, 7, 7, 7, 7, 7, 7, 7, 7, 7, 7, 7, 7, 7, 8, 8, 8, 8, 8, 8, 8, 8, 8, 8, 8, 8, 8, 8, 8, 8, 8, 8, 8, 8, 8, 8, 8, 8, 8, 8, 8, 8, 8, 8, 8, 8, 8, 8, 8, 8, 8, 8, 8, 8, 8, 8, 8, 8, 8, 8, 8, 8, 8, 8, 8, 8, 8, 8, 8, 8, 8, 8, 8, 8, 8, 8, 8, 8, 8, 8, 8, 8, 8, 8, 8, 8, 8, 8, 8, 8, 8, 8, 8, 8, 8, 8, 8, 8, 8, 8, 8, 8, 8, 8, 8, 8, 8, 8, 8, 8, 8, 8, 8, 8, 8, 8, 8, 8, 8, 8, 8, 8, 8, 8, 8, 8, 8, 8, 8, 8, 8, 8, 8, 8, 8, 8, 8, 8, 8, 8, 8, 8]⟩ : ByteArray) (i.val : Int)).toNat := by decide +kernel
theorem tab_ok (i : Int) (h0 : 0 ≤ i) (h1 : i < 256) : ∃ m : Nat, m ≤ 8 ∧ bt (⟨#[0, 1, 2, 2, 3, 3, 3, 3, 4, 4, 4, 4, 4, 4, 4, 4, 5, 5, 5, 5, 5, 5, 5, 5, 5, 5, 5, 5, 5, 5, 5, 5, 6, 6, 6, 6, 6, 6, 6, 6, 6, 6, 6, 6, 6, 6, 6, 6, 6, 6, 6, 6, 6, 6, 6, 6, 6, 6, 6, 6, 6, 6, 6, 6, 7, 7, 7, 7, 7, 7, 7, 7, 7, 7, 7, 7, 7, 7, 7, 7, 7, 7, 7, 7, 7, 7, 7, 7, 7, 7, 7, 7, 7, 7, 7, 7, 7, 7, 7, 7, 7, 7, 7, 7, 7, 7, 7, 7, 7, 7, 7, 7, 7, 7, 7, 7, 7, 7, 7, 7, 7, 7, 7, 7, 7, 7, 7, 7, 8, 8, 8, 8, 8, 8, 8, 8, 8, 8, 8, 8, 8, 8, 8, 8, 8, 8, 8, 8, 8, 8, 8, 8, 8, 8, 8, 8, 8, 8, 8, 8, 8, 8, 8, 8, 8, 8, 8, 8, 8, 8, 8, 8, 8, 8, 8, 8, 8, 8, 8, 8, 8, 8, 8, 8, 8, 8, 8, 8, 8, 8, 8, 8, 8, 8, 8, 8, 8, 8, 8, 8, 8, 8, 8, 8, 8, 8, 8, 8, 8, 8, 8, 8, 8, 8, 8, 8, 8, 8, 8, 8, 8, 8, 8, 8, 8, 8, 8, 8, 8, 8, 8, 8, 8, 8, 8, 8, 8, 8, 8, 8, 8, 8, 8, 8, 8, 8, 8, 8, 8, 8, 8, 8, 8, 8, 8, 8]⟩ : ByteArray) i = (m : Int) ∧ i < 2 ^ m := by
  have h := tab_fin ⟨i.toNat, by omega⟩
  rw [show ((i.toNat : Nat) : Int) = i from by omega] at h
  exact ⟨(bt (⟨#[0, 1, 2, 2, 3, 3, 3, 3, 4, 4, 4, 4, 4, 4, 4, 4, 5, 5, 5, 5, 5, 5, 5, 5, 5, 5, 5, 5, 5, 5, 5, 5, 6, 6, 6, 6, 6, 6, 6, 6, 6, 6, 6, 6, 6, 6, 6, 6, 6, 6, 6, 6, 6, 6, 6, 6, 6, 6, 6, 6, 6, 6, 6, 6, 7, 7, 7, 7, 7, 7, 7, 7, 7, 7, 7, 7, 7, 7, 7, 7, 7, 7, 7, 7, 7, 7, 7, 7, 7, 7, 7, 7, 7, 7, 7, 7, 7, 7, 7, 7, 7, 7, 7, 7, 7, 7, 7, 7, 7, 7, 7, 7, 7, 7, 7, 7, 7, 7, 7, 7, 7, 7, 7, 7, 7, 7, 7, 7, 8, 8, 8, 8, 8, 8, 8, 8, 8, 8, 8, 8, 8, 8, 8, 8, 8, 8, 8, 8, 8, 8, 8, 8, 8, 8, 8, 8, 8, 8, 8, 8, 8, 8, 8, 8, 8, 8, 8, 8, 8, 8, 8, 8, 8, 8, 8, 8, 8, 8, 8, 8, 8, 8, 8, 8, 8, 8, 8, 8, 8, 8, 8, 8, 8, 8, 8, 8, 8, 8, 8, 8, 8, 8, 8, 8, 8, 8, 8, 8, 8, 8, 8, 8, 8, 8, 8, 8, 8, 8, 8, 8, 8, 8, 8, 8, 8, 8, 8, 8, 8, 8, 8, 8, 8, 8, 8, 8, 8, 8, 8, 8, 8, 8, 8, 8, 8, 8, 8, 8, 8, 8, 8, 8, 8, 8, 8, 8]⟩ : ByteArray) i).toNat, by omega, by omega, h.2.2⟩
theorem len_j {x y : Int} (hx : 0 ≤ x ∧ x < 4294967296) (hy : 0 ≤ y ∧ y ≤ 32) : ∃ m : Nat, m ≤ 32 ∧ x < 2 ^ m ∧ Ev (fun k => bits_Len64.j0 k x y) (y + m) := by
  have st : ∀ r : Int, (∀ k, bits_Len64.j0 (k + 1) x y = some r) → Ev (fun k => bits_Len64.j0 k x y) r := fun r h => Ev.step (f := fun _ => some r) h (Ev.now _)
  by_cases h1 : x ≥ 65536
  · by_cases h2 : x / 65536 ≥ 256
    · obtain ⟨m, m8, e, l⟩ := tab_ok ((x / 65536 / 256) % 256) (by omega) (by omega)
      refine ⟨m + 24, by omega, ?_, st _ fun k => ?_⟩
      · rw [Int.pow_add, show (2 : Int) ^ 24 = 16777216 from by decide]; omega
      · rw [bits_Len64.j0, if_pos h1, if_pos h2, if_pos (by omega), if_pos (by omega), e, wsm (a := y + 16) (by omega) (by omega), wsm (a := y + 16 + 8) (by omega) (by omega), wsm (a := (m : Int)) (by omega) (by omega), wsm (by omega) (by omega)]
        exact congrArg some (by clear e; omega)
    · obtain ⟨m, m8, e, l⟩ := tab_ok ((x / 65536) % 256) (by omega) (by omega)
      refine ⟨m + 16, by omega, ?_, st _ fun k => ?_⟩
      · rw [Int.pow_add, show (2 : Int) ^ 16 = 65536 from by decide]; omega
      · rw [bits_Len64.j0, if_pos h1, if_neg h2, if_pos (by omega), if_pos (by omega), e, wsm (a := y + 16) (by omega) (by omega), wsm (a := (m : Int)) (by omega) (by omega), wsm (by omega) (by omega)]
        exact congrArg some (by clear e; omega)
  · by_cases h2 : x ≥ 256
    · obtain ⟨m, m8, e, l⟩ := tab_ok ((x / 256) % 256) (by omega) (by omega)
      refine ⟨m + 8, by omega, ?_, st _ fun k => ?_⟩
      · rw [Int.pow_add, show (2 : Int) ^ 8 = 256 from by decide]; omega
      · rw [bits_Len64.j0, if_neg h1, if_pos h2, if_pos (by omega), if_pos (by omega), e, wsm (a := y + 8) (by omega) (by omega), wsm (a := (m : Int)) (by omega) (by omega), wsm (by omega) (by omega)]
        exact congrArg some (by clear e; omega)
    · obtain ⟨m, m8, e, l⟩ := tab_ok (x % 256) (by omega) (by omega)
      refine ⟨m, by omega, by omega, st _ fun k => ?_⟩
      rw [bits_Len64.j0, if_neg h1, if_neg h2, if_pos (by omega), if_pos (by omega), e, wsm (a := (m : Int)) (by omega) (by omega), wsm (by omega) (by omega)]
theorem len_ev {x : Int} (hx : 0 ≤ x ∧ x < 18446744073709551616) : ∃ m : Nat, m ≤ 64 ∧ x < 2 ^ m ∧ Ev (fun k => bits_Len64.f k x) (m : Int) := by
  by_cases h : x ≥ 4294967296
  · obtain ⟨m, m1, l, e⟩ := len_j (x := x / 4294967296) (y := 32) (by omega) (by omega)
    refine ⟨m + 32, by omega, ?_, Ev.congr (fun k => by rw [bits_Len64.f, if_pos h]) (ev_eq (by omega) e)⟩
    rw [Int.pow_add, show (2 : Int) ^ 32 = 4294967296 from by decide]; omega
  · obtain ⟨m, m1, l, e⟩ := len_j (x := x) (y := 0) (by omega) (by omega)
    exact ⟨m, by omega, l, Ev.congr (fun k => by rw [bits_Len64.f, if_neg h]) (ev_eq (by omega) e)⟩

theorem shl_fin : ∀ e : Fin 33, shl .i64 1 (e.val : Int) = 2 ^ e.val := by decide +kernel
theorem pow_bd (e : Nat) (h : e ≤ 32) : (1 : Int) ≤ 2 ^ e ∧ (2 : Int) ^ e ≤ 4294967296 := by
  have : ∀ e : Fin 33, (1 : Int) ≤ 2 ^ e.val ∧ (2 : Int) ^ e.val ≤ 4294967296 := by decide +kernel
  exact this ⟨e, by omega⟩
theorem sq_mono {x y : Int} (hx : 0 ≤ x) (h : x ≤ y) : x * x ≤ y * y := Int.le_trans (Int.mul_le_mul_of_nonneg_left h hx) (Int.mul_le_mul_of_nonneg_right h (by omega))
theorem sq_four (x q : Int) : 4 * (x * (q + 1)) ≤ (x + q + 1) * (x + q + 1) := by
  have h : 0 ≤ (x - (q + 1)) * (x - (q + 1)) := by
    by_cases g : 0 ≤ x - (q + 1)
    · exact Int.mul_nonneg g g
    · rw [show (x - (q + 1)) * (x - (q + 1)) = (-(x - (q + 1))) * (-(x - (q + 1))) from by rw [Int.neg_mul_neg]]
      exact Int.mul_nonneg (by omega) (by omega)
  simp only [Int.mul_add, Int.add_mul, Int.mul_sub, Int.sub_mul, Int.mul_one, Int.one_mul] at *
  rw [Int.mul_comm q x] at *
  omega
theorem sqrt_loop (a : Int) (ha : 1 ≤ a ∧ a ≤ 9223372036854775807) : ∀ (n : Nat) (x : Int), x.toNat ≤ n → 1 ≤ x → x ≤ 4294967296 → a < (x + 1) * (x + 1) →
    ∃ t, Ev (fun k => fix_Sqrt.l0 k a x) t ∧ 0 ≤ t ∧ t * t ≤ a ∧ a < (t + 1) * (t + 1) := by
  intro n
  induction n with
  | zero => intro x h1 h2; omega
  | succ n ih =>
    intro x h1 h2 h3 h4
    have eq : Int.tdiv a x = a / x := Int.tdiv_eq_ediv_of_nonneg (by omega)
    have x1 : a = x * (a / x) + a % x := (Int.mul_ediv_add_emod a x).symm
    have x2 := Int.emod_nonneg a (show x ≠ 0 by omega)
    have x3 := Int.emod_lt_of_pos a (show 0 < x by omega)
    have q0 : 0 ≤ a / x := Int.ediv_nonneg (by omega) (by omega)
    have q1 : a / x ≤ x * (a / x) := by have := Int.mul_le_mul_of_nonneg_right h2 q0; omega
    have e1 : wrap64 (Int.tdiv a x) = a / x := by rw [eq, wsm (by omega) (by omega)]
    have q2 : a / x ≤ 9223372036854775807 := by omega
    have sm : x + a / x ≤ 9223372036854775807 := by
      by_cases g : x = 1
      · rw [g]; rw [g] at h4; omega
      · have := Int.mul_le_mul_of_nonneg_right (show 2 ≤ x by omega) q0; omega
    have e2 : wrap64 (x + a / x) = x + a / x := wsm (by omega) sm
    have e3 : Int.tdiv (x + a / x) 2 = (x + a / x) / 2 := Int.tdiv_eq_ediv_of_nonneg (by omega)
    have e4 : wrap64 ((x + a / x) / 2) = (x + a / x) / 2 := wsm (by omega) (by omega)
    by_cases g : (x + a / x) / 2 ≥ x
    · refine ⟨x, Ev.step (f := fun _ => some x) (fun k => ?_) (Ev.now _), by omega, ?_, h4⟩
      · rw [fix_Sqrt.l0, if_neg (by omega), e1, e2, e3, e4, if_pos g]
      · have := Int.mul_le_mul_of_nonneg_left (show x ≤ a / x by omega) (show 0 ≤ x by omega); omega
    · have f4 := sq_four x (a / x)
      have f5 : (x + a / x + 1) * (x + a / x + 1) ≤ (2 * ((x + a / x) / 2 + 1)) * (2 * ((x + a / x) / 2 + 1)) := sq_mono (by omega) (by omega)
      have f6 : x * (a / x + 1) = x * (a / x) + x := by rw [Int.mul_add, Int.mul_one]
      have f7 : ∀ z : Int, (2 * z) * (2 * z) = 4 * (z * z) := by intro z; rw [Int.mul_assoc, Int.mul_left_comm z 2 z]; omega
      rw [f7] at f5
      have f8 : a < ((x + a / x) / 2 + 1) * ((x + a / x) / 2 + 1) := by
        generalize ((x + a / x) / 2 + 1) * ((x + a / x) / 2 + 1) = u at *
        generalize (x + a / x + 1) * (x + a / x + 1) = v at *
        omega
      have f9 : 1 ≤ (x + a / x) / 2 := by
        by_cases z : (x + a / x) / 2 = 0
        · rw [z] at f8; omega
        · omega
      obtain ⟨t, ev, r⟩ := ih ((x + a / x) / 2) (by omega) f9 (by omega) f8
      refine ⟨t, Ev.step (fun k => ?_) ev, r⟩
      rw [fix_Sqrt.l0, if_neg (by omega), e1, e2, e3, e4, if_neg g]
theorem half_shl (m : Nat) (h : m ≤ 64) : wrap64 (Int.tdiv (wrap64 ((m : Int) + 1)) 2) = (((m + 1) / 2 : Nat) : Int) ∧ shl .i64 1 (((m + 1) / 2 : Nat) : Int) = 2 ^ ((m + 1) / 2) := by
  refine ⟨?_, shl_fin ⟨(m + 1) / 2, by omega⟩⟩
  rw [wsm (a := (m : Int) + 1) (by omega) (by omega), Int.tdiv_eq_ediv_of_nonneg (by omega), wsm (by omega) (by omega)]; omega
theorem sq_pow (m : Nat) (h : m ≤ 64) : (2 : Int) ^ m ≤ 2 ^ ((m + 1) / 2) * 2 ^ ((m + 1) / 2) := by
  have : ∀ m : Fin 65, (2 : Int) ^ m.val ≤ 2 ^ ((m.val + 1) / 2) * 2 ^ ((m.val + 1) / 2) := by decide +kernel
  exact this ⟨m, by omega⟩
theorem sqrt_ev {a : Int} (ha : 1 ≤ a ∧ a ≤ 9223372036854775807) : ∃ t, Ev (fun k => fix_Sqrt.f k a) t ∧ 0 ≤ t ∧ t * t ≤ a ∧ a < (t + 1) * (t + 1) := by
  obtain ⟨m, m1, l, ev⟩ := len_ev (x := a) (by omega)
  have hs := half_shl m m1
  have b := pow_bd ((m + 1) / 2) (by omega)
  have hm := Int.lt_of_lt_of_le l (sq_pow m m1)
  generalize (2 : Int) ^ ((m + 1) / 2) = p at *
  obtain ⟨t, ev2, r⟩ := sqrt_loop a ha p.toNat p (Nat.le_refl _) b.1 b.2 (by
    clear l
    exact Int.lt_of_lt_of_le hm (sq_mono (by omega) (by omega)))
  refine ⟨t, ?_, r⟩
  clear l
  refine Ev.congr (fun k => by rw [fix_Sqrt.f, if_neg (by omega), uw (by omega) (by omega)]) ?_
  refine Ev.bind (a := (m : Int)) (Ev.congr (fun k => by rw [bits_Len.f]) (Ev.bind ev (Ev.now _))) ?_
  exact Ev.congr (fun k => by rw [hs.1, if_pos (by omega), hs.2]) ev2

/-! ### How fast an axis shall go -/
def SQ (n t : Int) : Prop := (n ≤ 0 ∧ t = 0) ∨ (1 ≤ n ∧ 0 ≤ t ∧ t * t ≤ n ∧ n < (t + 1) * (t + 1))
theorem SQ.nonneg {n t : Int} (h : SQ n t) : 0 ≤ t := by rcases h with ⟨_, h⟩ | ⟨_, h, _⟩ <;> omega
theorem SQ.mono {m n s t : Int} (h : SQ m s) (g : SQ n t) (hle : m ≤ n) : s ≤ t := by
  have t0 := g.nonneg
  rcases h with ⟨_, rfl⟩ | ⟨h1, h2, h3, h4⟩
  · exact t0
  rcases g with ⟨g1, _⟩ | ⟨g1, g2, g3, g4⟩
  · omega
  apply Int.not_lt.mp
  intro hlt
  have := sq_mono (x := t + 1) (y := s) (by omega) (by omega)
  omega
theorem SQ.unique {n s t : Int} (h : SQ n s) (g : SQ n t) : s = t := by
  have a := h.mono g (Int.le_refl _)
  have b := g.mono h (Int.le_refl _)
  omega
theorem psqrt_ev {a : Int} (ha : a ≤ 9223372036854775807) : ∃ t, Ev (fun k => fix_Sqrt.f k a) t ∧ SQ a t := by
  by_cases h : a ≤ 0
  · exact ⟨0, Ev.congr (fun k => by rw [fix_Sqrt.f, if_pos h]) (Ev.now _), .inl ⟨h, rfl⟩⟩
  · obtain ⟨t, e, r⟩ := sqrt_ev (a := a) ⟨by omega, ha⟩
    exact ⟨t, e, .inr ⟨by omega, r⟩⟩
theorem sat_I (n : Int) : I64 (sat n) := by unfold I64 sat; split <;> (try split) <;> omega
theorem sat_le {a b : Int} (h : a ≤ b) : sat a ≤ sat b := by unfold sat; split <;> split <;> (try split) <;> (try split) <;> omega
def Lw0 (far sp ac v : Int) : Prop := ∃ t, SQ (sat (ac * far)) t ∧ v = mn (mn sp t) (far / 32)
def Lw (far sp ac v : Int) : Prop := ((sp < 1 ∨ ac < 1) ∧ v = 0) ∨ (1 ≤ sp ∧ 1 ≤ ac ∧ 0 ≤ far ∧ Lw0 far sp ac v) ∨ (1 ≤ sp ∧ 1 ≤ ac ∧ far < 0 ∧ ∃ w, Lw0 (sat (0 - far)) sp ac w ∧ v = -w)
theorem mn_of (a b : Int) : (mn a b = a ∧ a ≤ b) ∨ (mn a b = b ∧ b ≤ a) := by unfold mn; split <;> omega
theorem Lw0.bounds {far sp ac v : Int} (h : Lw0 far sp ac v) (hf : 0 ≤ far) (hs : 1 ≤ sp) : 0 ≤ v ∧ v ≤ sp ∧ v ≤ far / 32 := by
  obtain ⟨t, q, rfl⟩ := h
  have := q.nonneg
  rcases mn_of sp t with ⟨e, g⟩ | ⟨e, g⟩ <;> rw [e] <;> rcases mn_of _ (far / 32) with ⟨e2, g2⟩ | ⟨e2, g2⟩ <;> rw [e2] <;> omega
theorem Lw0.mono {f g sp ac v w : Int} (h : Lw0 f sp ac v) (k : Lw0 g sp ac w) (ha : 1 ≤ ac) (hle : f ≤ g) : v ≤ w := by
  obtain ⟨s, q, rfl⟩ := h
  obtain ⟨t, r, rfl⟩ := k
  have hm : ac * f ≤ ac * g := Int.mul_le_mul_of_nonneg_left hle (by omega)
  have := q.mono r (sat_le hm)
  unfold mn
  split <;> split <;> split <;> split <;> omega
theorem Lw0.unique {f sp ac v w : Int} (h : Lw0 f sp ac v) (k : Lw0 f sp ac w) : v = w := by
  obtain ⟨s, q, rfl⟩ := h
  obtain ⟨t, r, rfl⟩ := k
  rw [q.unique r]
theorem law_nn {far sp ac : Int} (hf : I64 far) (_hs : I64 sp) (ha : I64 ac) (h1 : 1 ≤ sp) (h2 : 1 ≤ ac) (h0 : 0 ≤ far) : ∃ v, Ev (fun k => control_Law.f k far sp ac) v ∧ Lw0 far sp ac v := by
  obtain ⟨t, e, q⟩ := psqrt_ev (a := sat (ac * far)) (sat_I _).2
  refine ⟨_, ?_, t, q, rfl⟩
  have hd : Int.tdiv far 32 = far / 32 := Int.tdiv_eq_ediv_of_nonneg h0
  unfold I64 at hf
  have w : wrap64 (far / 32) = far / 32 := wsm (by omega) (by omega)
  refine Ev.step (fun k => by rw [control_Law.f, if_neg (by omega)]) ?_
  refine Ev.step (fun k => by rw [control_Law.j0, if_neg (by simp; omega), if_neg (by omega)]) ?_
  refine Ev.bind (mul_ev' ha (by unfold I64; omega)) ?_
  refine Ev.bind e ?_
  exact Ev.congr (fun k => by rw [hd, w]) (Ev.now _)
theorem law_ev {far sp ac : Int} (hf : I64 far) (hs : I64 sp) (ha : I64 ac) : ∃ v, Ev (fun k => control_Law.f k far sp ac) v ∧ Lw far sp ac v := by
  by_cases h1 : sp < 1
  · exact ⟨0, Ev.step (fun k => by rw [control_Law.f, if_pos h1]) (Ev.step (fun k => by rw [control_Law.j0, if_pos rfl]) (Ev.now _)), .inl ⟨.inl h1, rfl⟩⟩
  by_cases h2 : ac < 1
  · exact ⟨0, Ev.step (fun k => by rw [control_Law.f, if_neg h1]) (Ev.step (fun k => by rw [control_Law.j0, if_pos (decide_eq_true h2)]) (Ev.now _)), .inl ⟨.inr h2, rfl⟩⟩
  by_cases h3 : far < 0
  · have i0 : I64 (sat (0 - far)) := sat_I _
    have p0 : 0 ≤ sat (0 - far) := by unfold sat; split <;> (try split) <;> omega
    obtain ⟨w, e, l⟩ := law_nn (sp := sp) (ac := ac) i0 hs ha (by omega) (by omega) p0
    have b := l.bounds p0 (by omega)
    unfold I64 at hs
    refine ⟨-w, ?_, .inr (.inr ⟨by omega, by omega, h3, w, l, rfl⟩)⟩
    refine Ev.step (fun k => by rw [control_Law.f, if_neg h1]) ?_
    refine Ev.step (fun k => by rw [control_Law.j0, if_neg (by simpa using h2), if_pos h3]) ?_
    refine Ev.bind (sub_ev' (by unfold I64; omega) hf) ?_
    refine Ev.bind e ?_
    exact Ev.congr (fun k => by rw [wsm (a := -w) (by omega) (by omega)]) (Ev.now _)
  · obtain ⟨v, e, l⟩ := law_nn hf hs ha (by omega) (by omega) (by omega)
    exact ⟨v, e, .inr (.inl ⟨by omega, by omega, by omega, l⟩)⟩
theorem Lw.signed {far sp ac v : Int} (h : Lw far sp ac v) : (0 ≤ far → 0 ≤ v) ∧ (far ≤ 0 → v ≤ 0) ∧ (-(mx sp 0) ≤ v ∧ v ≤ mx sp 0) := by
  have hm : (mx sp 0 = sp ∧ 0 ≤ sp) ∨ (mx sp 0 = 0 ∧ sp ≤ 0) := by unfold mx; split <;> omega
  rcases h with ⟨_, rfl⟩ | ⟨h1, h2, h3, l⟩ | ⟨h1, h2, h3, w, l, rfl⟩
  · omega
  · have b := l.bounds h3 h1
    omega
  · have p0 : 0 ≤ sat (0 - far) := by unfold sat; split <;> (try split) <;> omega
    have b := l.bounds p0 h1
    omega
theorem Lw.mono {f g sp ac v w : Int} (h : Lw f sp ac v) (k : Lw g sp ac w) (hle : f ≤ g) : v ≤ w := by
  rcases h with ⟨h1, rfl⟩ | ⟨h1, h2, h3, l⟩ | ⟨h1, h2, h3, a, l, rfl⟩
  · rcases k with ⟨_, rfl⟩ | ⟨k1, k2, k3, m⟩ | ⟨k1, k2, k3, b, m, rfl⟩ <;> omega
  · rcases k with ⟨k1, rfl⟩ | ⟨k1, k2, k3, m⟩ | ⟨k1, k2, k3, b, m, rfl⟩
    · omega
    · exact l.mono m h2 hle
    · omega
  · have p0 : 0 ≤ sat (0 - f) := by unfold sat; split <;> (try split) <;> omega
    have b0 := l.bounds p0 h1
    rcases k with ⟨k1, rfl⟩ | ⟨k1, k2, k3, m⟩ | ⟨k1, k2, k3, b, m, rfl⟩
    · omega
    · have := m.bounds k3 k1
      omega
    · have := m.mono l h2 (sat_le (a := 0 - g) (b := 0 - f) (by omega))
      omega
theorem Lw.unique {f sp ac v w : Int} (h : Lw f sp ac v) (k : Lw f sp ac w) : v = w := by
  have a := h.mono k (Int.le_refl _)
  have b := k.mono h (Int.le_refl _)
  omega
theorem Lw.odd {f sp ac v w : Int} (hf : I64 f) (h : Lw f sp ac v) (k : Lw (sat (0 - f)) sp ac w) (hn : f ≠ -9223372036854775808) : w = -v := by
  unfold I64 at hf
  have e : sat (0 - f) = -f := by unfold sat; rw [if_neg (by omega), if_neg (by omega)]; omega
  rw [e] at k
  have s := h.signed
  have t := k.signed
  rcases h with ⟨h1, rfl⟩ | ⟨h1, h2, h3, l⟩ | ⟨h1, h2, h3, a, l, rfl⟩
  · rcases k with ⟨_, rfl⟩ | ⟨k1, k2, k3, m⟩ | ⟨k1, k2, k3, b, m, rfl⟩ <;> omega
  · rcases k with ⟨k1, rfl⟩ | ⟨k1, k2, k3, m⟩ | ⟨k1, k2, k3, b, m, rfl⟩
    · omega
    · have : f = 0 := by omega
      omega
    · have e2 : sat (0 - -f) = f := by unfold sat; rw [if_neg (by omega), if_neg (by omega)]; omega
      rw [e2] at m
      rw [m.unique l]
  · rw [e] at l
    rcases k with ⟨k1, rfl⟩ | ⟨k1, k2, k3, m⟩ | ⟨k1, k2, k3, b, m, rfl⟩
    · omega
    · rw [m.unique l]; omega
    · omega

/-! ### The document's law: a root bit by bit -/
theorem rsqrt_loop {a : Int} (ha : 0 ≤ a ∧ a ≤ 9223372036854775807) : ∀ (j : Nat) (x : Int), j ≤ 31 → 0 ≤ x → x * x ≤ a → a < (x + 2 * 2 ^ j) * (x + 2 * 2 ^ j) →
    ∃ t, Ev (fun k => windhoverref01_Sqrt.l0 k a x (2 ^ j)) t ∧ 0 ≤ t ∧ t * t ≤ a ∧ a < (t + 1) * (t + 1) := by
  intro j
  have key : ∀ (j : Nat) (x y : Int), j ≤ 31 → 0 ≤ x → x * x ≤ a → a < (x + 2 * 2 ^ j) * (x + 2 * 2 ^ j) → wrap64 (Int.tdiv (2 ^ j) 2) = y →
      (∀ x', 0 ≤ x' → x' * x' ≤ a → a < (x' + 2 ^ j) * (x' + 2 ^ j) → ∃ t, Ev (fun k => windhoverref01_Sqrt.l0 k a x' y) t ∧ 0 ≤ t ∧ t * t ≤ a ∧ a < (t + 1) * (t + 1)) →
      ∃ t, Ev (fun k => windhoverref01_Sqrt.l0 k a x (2 ^ j)) t ∧ 0 ≤ t ∧ t * t ≤ a ∧ a < (t + 1) * (t + 1) := by
    intro j x y hj h0 h1 h2 hy nx
    have pb := pow_bd j (by omega)
    obtain ⟨p, hp⟩ : ∃ p : Int, (2 : Int) ^ j = p := ⟨_, rfl⟩
    rw [hp] at pb h2 hy nx ⊢
    have xb : x ≤ 3037000499 := by
      apply Int.not_lt.mp
      intro g
      have := sq_mono (x := 3037000500) (y := x) (by decide) (by omega)
      omega
    have w1 : wrap64 (x + p) = x + p := wsm (by omega) (by omega)
    by_cases c1 : x + p ≤ 3037000499
    · have sqb := sq_mono (x := x + p) (y := 3037000499) (by omega) c1
      have sq0 : 0 ≤ (x + p) * (x + p) := Int.mul_nonneg (by omega) (by omega)
      have w2 : wrap64 ((x + p) * (x + p)) = (x + p) * (x + p) := wsm (by omega) (by omega)
      by_cases c2 : (x + p) * (x + p) ≤ a
      · obtain ⟨t, e, r⟩ := nx (x + p) (by omega) c2 (by rw [show x + p + p = x + 2 * p by omega]; exact h2)
        exact ⟨t, Ev.step (fun k => by rw [windhoverref01_Sqrt.l0, if_pos (by omega), w1, w2, if_pos c1, if_pos c2, hy]) e, r⟩
      · obtain ⟨t, e, r⟩ := nx x h0 h1 (by omega)
        exact ⟨t, Ev.step (fun k => by rw [windhoverref01_Sqrt.l0, if_pos (by omega), w1, w2, if_pos c1, if_neg c2, hy]) e, r⟩
    · have sqb := sq_mono (x := 3037000500) (y := x + p) (by decide) (by omega)
      obtain ⟨t, e, r⟩ := nx x h0 h1 (by omega)
      exact ⟨t, Ev.step (fun k => by rw [windhoverref01_Sqrt.l0, if_pos (by omega), w1, if_neg c1, hy]) e, r⟩
  induction j with
  | zero =>
    intro x hj h0 h1 h2
    refine key 0 x 0 hj h0 h1 h2 (by decide +kernel) ?_
    intro x' g0 g1 g2
    exact ⟨x', Ev.step (fun k => by rw [windhoverref01_Sqrt.l0, if_neg (by decide)]) (Ev.now _), g0, g1, by simpa using g2⟩
  | succ j ih =>
    intro x hj h0 h1 h2
    have pb := pow_bd j (by omega)
    have hs : (2 : Int) ^ (j + 1) = 2 * 2 ^ j := by rw [Int.pow_succ]; omega
    refine key (j + 1) x (2 ^ j) hj h0 h1 h2 ?_ ?_
    · rw [hs]
      obtain ⟨p, hp⟩ : ∃ p : Int, (2 : Int) ^ j = p := ⟨_, rfl⟩
      rw [hp] at pb ⊢
      rw [Int.tdiv_eq_ediv_of_nonneg (by omega), show 2 * p / 2 = p by omega, wsm (by omega) (by omega)]
    · intro x' g0 g1 g2
      exact ih x' (by omega) g0 g1 (by rw [← hs]; exact g2)
theorem rsqrt_neg {a : Int} (ha : a < 0) : ∀ j : Nat, j ≤ 31 → Ev (fun k => windhoverref01_Sqrt.l0 k a 0 (2 ^ j)) 0 := by
  intro j
  have key : ∀ (j : Nat) (y : Int), j ≤ 31 → wrap64 (Int.tdiv (2 ^ j) 2) = y → Ev (fun k => windhoverref01_Sqrt.l0 k a 0 y) 0 → Ev (fun k => windhoverref01_Sqrt.l0 k a 0 (2 ^ j)) 0 := by
    intro j y hj hy nx
    have pb := pow_bd j (by omega)
    obtain ⟨p, hp⟩ : ∃ p : Int, (2 : Int) ^ j = p := ⟨_, rfl⟩
    rw [hp] at pb hy ⊢
    have w1 : wrap64 (0 + p) = p := by rw [show 0 + p = p by omega]; exact wsm (by omega) (by omega)
    by_cases c1 : p ≤ 3037000499
    · have sqb := sq_mono (x := p) (y := 3037000499) (by omega) c1
      have sq0 : 0 ≤ p * p := Int.mul_nonneg (by omega) (by omega)
      have w2 : wrap64 (p * p) = p * p := wsm (by omega) (by omega)
      exact Ev.step (fun k => by rw [windhoverref01_Sqrt.l0, if_pos (by omega), w1, w2, if_pos c1, if_neg (by omega), hy]) nx
    · exact Ev.step (fun k => by rw [windhoverref01_Sqrt.l0, if_pos (by omega), w1, if_neg c1, hy]) nx
  induction j with
  | zero =>
    intro hj
    exact key 0 0 hj (by decide +kernel) (Ev.step (fun k => by rw [windhoverref01_Sqrt.l0, if_neg (by decide)]) (Ev.now _))
  | succ j ih =>
    intro hj
    have pb := pow_bd j (by omega)
    have hs : (2 : Int) ^ (j + 1) = 2 * 2 ^ j := by rw [Int.pow_succ]; omega
    refine key (j + 1) (2 ^ j) hj ?_ (ih (by omega))
    rw [hs]
    obtain ⟨p, hp⟩ : ∃ p : Int, (2 : Int) ^ j = p := ⟨_, rfl⟩
    rw [hp] at pb ⊢
    rw [Int.tdiv_eq_ediv_of_nonneg (by omega), show 2 * p / 2 = p by omega, wsm (by omega) (by omega)]
theorem rsqrt_ev {a : Int} (ha : a ≤ 9223372036854775807) : ∃ t, Ev (fun k => windhoverref01_Sqrt.f k a) t ∧ SQ a t := by
  have p31 : (2147483648 : Int) = 2 ^ 31 := by decide
  by_cases h : a < 0
  · exact ⟨0, Ev.congr (fun k => by rw [windhoverref01_Sqrt.f, p31]) (rsqrt_neg h 31 (by decide)), .inl ⟨by omega, rfl⟩⟩
  · obtain ⟨t, e, t0, t1, t2⟩ := rsqrt_loop (a := a) ⟨by omega, ha⟩ 31 0 (by decide) (by decide) (by omega) (by rw [← p31]; omega)
    refine ⟨t, Ev.congr (fun k => by rw [windhoverref01_Sqrt.f, p31]) e, ?_⟩
    by_cases h2 : a = 0
    · refine .inl ⟨by omega, ?_⟩
      apply Int.le_antisymm _ t0
      apply Int.not_lt.mp
      intro g
      have := sq_mono (x := 1) (y := t) (by decide) (by omega)
      omega
    · exact .inr ⟨by omega, t0, t1, t2⟩
theorem rlaw_j1 {far sp ac m : Int} (ha : I64 ac) (hm : I64 m) (h0 : 0 ≤ m) (hs : I64 sp) (h1 : 1 ≤ sp) : ∃ v, Lw0 m sp ac v ∧ Ev (fun k => windhoverref17_Law.j1 k far sp ac m) (if far < 0 then -v else v) := by
  obtain ⟨t, e, q⟩ := rsqrt_ev (a := sat (ac * m)) (sat_I _).2
  have l : Lw0 m sp ac (mn (mn sp t) (m / 32)) := ⟨t, q, rfl⟩
  have b := l.bounds h0 h1
  refine ⟨_, l, ?_⟩
  have hd : Int.tdiv m 32 = m / 32 := Int.tdiv_eq_ediv_of_nonneg h0
  unfold I64 at hm hs
  have w : wrap64 (m / 32) = m / 32 := wsm (by omega) (by omega)
  refine Ev.step (fun k => by rw [windhoverref17_Law.j1]) ?_
  refine Ev.bind (rmul_ev ha (by unfold I64; omega)) ?_
  refine Ev.bind e ?_
  generalize hv : mn (mn sp t) (m / 32) = v at *
  by_cases c : far < 0
  · rw [if_pos c]
    exact Ev.congr (fun k => by rw [if_pos c, hd, w, hv, wsm (a := -v) (by omega) (by omega)]) (Ev.now _)
  · rw [if_neg c]
    exact Ev.congr (fun k => by rw [if_neg c, hd, w, hv]) (Ev.now _)
theorem rlaw_ev {far sp ac : Int} (hf : I64 far) (hs : I64 sp) (ha : I64 ac) : ∃ v, Ev (fun k => windhoverref17_Law.f k far sp ac) v ∧ Lw far sp ac v := by
  by_cases h1 : sp < 1
  · exact ⟨0, Ev.congr (fun k => by rw [windhoverref17_Law.f, if_pos h1]) (Ev.step (fun k => by rw [windhoverref17_Law.j0, if_pos rfl]) (Ev.now _)), .inl ⟨.inl h1, rfl⟩⟩
  by_cases h2 : ac < 1
  · exact ⟨0, Ev.congr (fun k => by rw [windhoverref17_Law.f, if_neg h1]) (Ev.step (fun k => by rw [windhoverref17_Law.j0, if_pos (decide_eq_true h2)]) (Ev.now _)), .inl ⟨.inr h2, rfl⟩⟩
  by_cases h3 : far < 0
  · have p0 : 0 ≤ sat (0 - far) := by unfold sat; split <;> (try split) <;> omega
    obtain ⟨v, l, e⟩ := rlaw_j1 (far := far) (sp := sp) ha (sat_I (0 - far)) p0 hs (by omega)
    rw [if_pos h3] at e
    refine ⟨-v, ?_, .inr (.inr ⟨by omega, by omega, h3, v, l, rfl⟩)⟩
    refine Ev.congr (fun k => by rw [windhoverref17_Law.f, if_neg h1]) ?_
    refine Ev.step (fun k => by rw [windhoverref17_Law.j0, if_neg (by simpa using h2), if_pos h3]) ?_
    exact Ev.bind (rsub_ev (by unfold I64; omega) hf) e
  · obtain ⟨v, l, e⟩ := rlaw_j1 (far := far) (sp := sp) ha hf (by omega) hs (by omega)
    rw [if_neg h3] at e
    refine ⟨v, ?_, .inr (.inl ⟨by omega, by omega, by omega, l⟩)⟩
    refine Ev.congr (fun k => by rw [windhoverref17_Law.f, if_neg h1]) ?_
    exact Ev.step (fun k => by rw [windhoverref17_Law.j0, if_neg (by simpa using h2), if_neg h3]) e

/-! ### params.Check and the document's -/
def RulesW (l : List Int) : Prop := ¬ (wrap64 ((wrap64 ((wrap64 ((rd l 0) + (rd l 6))) + (wrap64 (2 * (mx (rd l 2) (rd l 4)))))) + 4)) > 64 ∧ ¬ (rd l 12) < (wrap64 ((wrap64 (8 * (mx (rd l 1) (rd l 3)))) + 100)) ∧ ¬ (rd l 11) > (rd l 10)
def InRows (l : List Int) (i : Int) : Prop := ∀ j, i ≤ j → j < 24 → rd params_Check.tb0_0 j ≤ rd l j ∧ rd l j ≤ rd params_Check.tb0_1 j
open Classical in
noncomputable def cval (l : List Int) (i : Int) : Int := if InRows l i then (if RulesW l then 0 else 80) else 5
def Sound (l : List Int) : Prop := l.length = 24 ∧ InRows l 0 ∧ RulesW l
open Classical in
noncomputable def chv (l : List Int) : Int := if l.length = 24 then cval l 0 else 3
theorem inrows_last (l : List Int) : InRows l 24 := fun j h2 h3 => by omega
theorem cval_end (l : List Int) : cval l 24 = 0 ∧ RulesW l ∨ cval l 24 = 80 ∧ ¬ RulesW l := by
  unfold cval
  rw [if_pos (inrows_last l)]
  by_cases h : RulesW l
  · exact .inl ⟨if_pos h, h⟩
  · exact .inr ⟨if_neg h, h⟩
theorem cval_out {l : List Int} {i : Int} (hi : i < 24) (h : rd l i < rd params_Check.tb0_0 i ∨ rd l i > rd params_Check.tb0_1 i) : cval l i = 5 := by
  unfold cval
  rw [if_neg]
  intro g
  have := g i (Int.le_refl _) hi
  omega
theorem cval_on {l : List Int} {i : Int} (h1 : ¬ rd l i < rd params_Check.tb0_0 i) (h2 : ¬ rd l i > rd params_Check.tb0_1 i) : cval l i = cval l (i + 1) := by
  unfold cval
  have e : InRows l i ↔ InRows l (i + 1) := by
    refine ⟨fun h j a b => h j (by omega) b, fun h j a b => ?_⟩
    by_cases hj : j = i
    · subst hj; exact ⟨by omega, by omega⟩
    · exact h j (by omega) b
  by_cases g : InRows l i
  · rw [if_pos g, if_pos (e.1 g)]
  · rw [if_neg g, if_neg (fun h => g (e.2 h))]
theorem chv_zero {l : List Int} : chv l = 0 ↔ Sound l := by
  unfold chv cval Sound
  by_cases h : l.length = 24
  · by_cases g : InRows l 0
    · by_cases q : RulesW l
      · rw [if_pos h, if_pos g, if_pos q]; exact ⟨fun _ => ⟨h, g, q⟩, fun _ => rfl⟩
      · rw [if_pos h, if_pos g, if_neg q]; exact ⟨fun h => absurd h (by decide), fun h => absurd h.2.2 q⟩
    · rw [if_pos h, if_neg g]; exact ⟨fun h => absurd h (by decide), fun h => absurd h.2.1 g⟩
  · rw [if_neg h]; exact ⟨fun h => absurd h (by decide), fun g => absurd g.1 h⟩
theorem pchk_loop {l : List Int} (hl : l.length = 24) : ∀ (n : Nat) (i : Int), 0 ≤ i → i + n = 24 → Ev (fun k => params_Check.l0 k l i) (cval l i) := by
  have hL : (l.length : Int) = 24 := by omega
  intro n
  induction n with
  | zero =>
    intro i h0 h1
    have hi : i = 24 := by omega
    subst hi
    have hR : RulesW l = RulesW l := rfl
    conv at hR => rhs; unfold RulesW
    by_cases c1 : (wrap64 ((wrap64 ((wrap64 ((rd l 0) + (rd l 6))) + (wrap64 (2 * (mx (rd l 2) (rd l 4)))))) + 4)) > 64
    · have e : cval l 24 = 80 := by rcases cval_end l with h | h; exact absurd c1 (hR ▸ h.2).1; exact h.1
      exact Ev.step (f := fun _ => some (cval l 24)) (fun k => by rw [params_Check.l0, hL, e]; simp only [if_neg (show ¬ (24 : Int) < 24 by decide), if_pos (show (2 : Int) < 24 by decide), if_pos (show (4 : Int) < 24 by decide), if_pos (show (1 : Int) < 24 by decide), if_pos (show (3 : Int) < 24 by decide), if_pos (show (0 : Int) < 24 by decide), if_pos (show (6 : Int) < 24 by decide), if_pos c1]) (Ev.now _)
    · by_cases c2 : (rd l 12) < (wrap64 ((wrap64 (8 * (mx (rd l 1) (rd l 3)))) + 100))
      · have e : cval l 24 = 80 := by rcases cval_end l with h | h; exact absurd c2 (hR ▸ h.2).2.1; exact h.1
        exact Ev.step (f := fun _ => some (cval l 24)) (fun k => by rw [params_Check.l0, hL, e]; simp only [if_neg (show ¬ (24 : Int) < 24 by decide), if_pos (show (2 : Int) < 24 by decide), if_pos (show (4 : Int) < 24 by decide), if_pos (show (1 : Int) < 24 by decide), if_pos (show (3 : Int) < 24 by decide), if_pos (show (0 : Int) < 24 by decide), if_pos (show (6 : Int) < 24 by decide), if_neg c1, if_pos (show (12 : Int) < 24 by decide), if_pos c2]) (Ev.now _)
      · by_cases c3 : (rd l 11) > (rd l 10)
        · have e : cval l 24 = 80 := by rcases cval_end l with h | h; exact absurd c3 (hR ▸ h.2).2.2; exact h.1
          exact Ev.step (f := fun _ => some (cval l 24)) (fun k => by rw [params_Check.l0, hL, e]; simp only [if_neg (show ¬ (24 : Int) < 24 by decide), if_pos (show (2 : Int) < 24 by decide), if_pos (show (4 : Int) < 24 by decide), if_pos (show (1 : Int) < 24 by decide), if_pos (show (3 : Int) < 24 by decide), if_pos (show (0 : Int) < 24 by decide), if_pos (show (6 : Int) < 24 by decide), if_neg c1, if_pos (show (12 : Int) < 24 by decide), if_neg c2, if_pos (show (11 : Int) < 24 by decide), if_pos (show (10 : Int) < 24 by decide), if_pos c3]) (Ev.now _)
        · have e : cval l 24 = 0 := by
            rcases cval_end l with h | h
            · exact h.1
            · exact absurd (by rw [hR]; exact ⟨c1, c2, c3⟩) h.2
          exact Ev.step (f := fun _ => some (cval l 24)) (fun k => by rw [params_Check.l0, hL, e]; simp only [if_neg (show ¬ (24 : Int) < 24 by decide), if_pos (show (2 : Int) < 24 by decide), if_pos (show (4 : Int) < 24 by decide), if_pos (show (1 : Int) < 24 by decide), if_pos (show (3 : Int) < 24 by decide), if_pos (show (0 : Int) < 24 by decide), if_pos (show (6 : Int) < 24 by decide), if_neg c1, if_pos (show (12 : Int) < 24 by decide), if_neg c2, if_pos (show (11 : Int) < 24 by decide), if_pos (show (10 : Int) < 24 by decide), if_neg c3]) (Ev.now _)
  | succ n ih =>
    intro i h0 h1
    have hi : i < 24 := by omega
    have w : wrap64 (i + 1) = i + 1 := wsm (by omega) (by omega)
    have e1 := ih (i + 1) (by omega) (by omega)
    by_cases c1 : rd l i < rd params_Check.tb0_0 i
    · exact ev_eq (cval_out hi (.inl c1)) (Ev.step (f := fun _ => some 5) (fun k => by rw [params_Check.l0, hL, if_pos hi, if_pos h0, if_pos hi, if_pos c1]) (Ev.now 5))
    · by_cases c2 : rd l i > rd params_Check.tb0_1 i
      · exact ev_eq (cval_out hi (.inr c2)) (Ev.step (f := fun _ => some 5) (fun k => by rw [params_Check.l0, hL, if_pos hi, if_pos h0, if_pos hi, if_neg c1, if_pos c2]) (Ev.now 5))
      · exact ev_eq (cval_on c1 c2) (Ev.step (f := fun k => params_Check.l0 k l (i + 1)) (fun k => by rw [params_Check.l0, hL, if_pos hi, if_pos h0, if_pos hi, if_neg c1, if_neg c2, w]) e1)
theorem pcheck_ev (l : List Int) : Ev (fun k => params_Check.f k l) (chv l) := by
  by_cases hl : l.length = 24
  · refine ev_eq (if_pos hl) (Ev.congr (fun k => by rw [params_Check.f, if_pos (by omega)]) ?_)
    exact Ev.bind (Ev.now _) (pchk_loop hl 24 0 (by omega) (by omega))
  · exact ev_eq (if_neg hl) (Ev.congr (fun k => by rw [params_Check.f, if_neg (by omega)]) (Ev.now 3))
theorem same_loop {l : List Int} (hl : l.length ≤ 4611686018427387904) : ∀ (n i : Nat), i + n = l.length → Ev (fun k => windhoverref00_SameInts.l0 k l l (i : Int)) true := by
  intro n
  induction n with
  | zero => intro i h; exact Ev.step (f := fun _ => some true) (fun k => by rw [windhoverref00_SameInts.l0, if_neg (by omega)]) (Ev.now _)
  | succ n ih =>
    intro i h
    have w : wrap64 ((i : Int) + 1) = ((i + 1 : Nat) : Int) := by rw [wsm (by omega) (by omega)]; omega
    exact Ev.step (f := fun k => windhoverref00_SameInts.l0 k l l ((i + 1 : Nat) : Int)) (fun k => by rw [windhoverref00_SameInts.l0, if_pos (by omega), if_pos (by omega), if_pos (by omega), if_pos rfl, w]) (ih (i + 1) (by omega))
theorem same_ev {l : List Int} (hl : l.length ≤ 4611686018427387904) : Ev (fun k => windhoverref00_SameInts.f k l l) true :=
  Ev.congr (fun k => by rw [windhoverref00_SameInts.f, if_pos rfl]; rfl) (same_loop hl l.length 0 (by omega))

theorem lent_w4 {n : Nat} (h : n ≤ 17592186043904) : wrap64 ((n : Int) + 4) = (n : Int) + 4 := wsm (by omega) (by omega)
theorem lent_exit {x0 x3 : List Int} (h : x0.length ≤ x3.length) : Ev (fun k => windhoverkeep_Lent.l0 k x0 x3 4) x3 :=
  Ev.step (f := fun _ => some x3) (fun k => by rw [windhoverkeep_Lent.l0, if_neg (by decide), if_pos (by omega), if_pos (by omega)]) (Ev.now _)
theorem lent_round {x0 x3 : List Int} {i j : Int} {r : List Int} (hi : i < 4) (hj : wrap64 (i + 1) = j) (hl : x3.length < 17592186044416) (h : Ev (fun k => windhoverkeep_Lent.l0 k x0 (x3 ++ [-7770777]) j) r) : Ev (fun k => windhoverkeep_Lent.l0 k x0 x3 i) r :=
  Ev.step (f := fun k => windhoverkeep_Lent.l0 k x0 (x3 ++ [-7770777]) j) (fun k => by rw [windhoverkeep_Lent.l0, if_pos hi, if_pos hl, hj]) h
theorem lent_ev {l : List Int} (h : l.length ≤ 17592186043904) : Ev (fun k => windhoverkeep_Lent.f k l) (l ++ [-7770777, -7770777, -7770777, -7770777]) := by
  have e : l ++ [-7770777, -7770777, -7770777, -7770777] = (((l ++ [-7770777]) ++ [-7770777]) ++ [-7770777]) ++ [-7770777] := by simp
  refine Ev.congr (f := fun k => windhoverkeep_Lent.l0 k l l 0) (fun k => ?_) ?_
  · rw [windhoverkeep_Lent.f, lent_w4 h, if_pos (by omega), if_pos (by omega), Option.bind_some, if_pos (by simp; omega), List.nil_append]
  · rw [e]
    refine lent_round (j := 1) (by decide) (wsm (by decide) (by decide)) (by omega) ?_
    refine lent_round (j := 2) (by decide) (wsm (by decide) (by decide)) (by simp; omega) ?_
    refine lent_round (j := 3) (by decide) (wsm (by decide) (by decide)) (by simp; omega) ?_
    refine lent_round (j := 4) (by decide) (wsm (by decide) (by decide)) (by simp; omega) ?_
    exact lent_exit (by simp)
theorem kept_exit {x : List Int} {i : Int} (h : ¬ i < (x.length : Int)) : Ev (fun k => windhoverkeep_Kept.l0 k x i) true :=
  Ev.step (f := fun _ => some true) (fun k => by rw [windhoverkeep_Kept.l0, if_neg h]) (Ev.now _)
theorem kept_round {x : List Int} {i j : Int} {r : Bool} (hi : i < (x.length : Int)) (h0 : 0 ≤ i) (hm : rd x i = -7770777) (hj : wrap64 (i + 1) = j) (h : Ev (fun k => windhoverkeep_Kept.l0 k x j) r) : Ev (fun k => windhoverkeep_Kept.l0 k x i) r :=
  Ev.step (f := fun k => windhoverkeep_Kept.l0 k x j) (fun k => by rw [windhoverkeep_Kept.l0, if_pos hi, if_pos h0, if_pos hm, hj]) h
theorem rd_room {l m : List Int} (j : Nat) (i : Int) (hi : i = (l.length : Int) + (j : Int)) : rd (l ++ m) i = m.getD j 0 := by
  subst hi
  unfold rd
  rw [show ((l.length : Int) + (j : Int)).toNat = l.length + j by omega]
  simp [List.getD, List.getElem?_append_right]
theorem keep_ev {l : List Int} (h : l.length ≤ 17592186043904) : Ev (fun k => windhoverkeep_Kept.f k (l ++ [-7770777, -7770777, -7770777, -7770777]) l) true := by
  refine Ev.congr (fun k => by rw [windhoverkeep_Kept.f, List.take_left]) ?_
  refine Ev.bind (same_ev (by omega)) ?_
  have hl : ((l ++ [-7770777, -7770777, -7770777, -7770777] : List Int).length : Int) = (l.length : Int) + 4 := by simp
  have ht : (l ++ [-7770777, -7770777, -7770777, -7770777] : List Int).take ((l.length : Int) + 4).toNat = l ++ [-7770777, -7770777, -7770777, -7770777] := List.take_of_length_le (by simp; omega)
  refine Ev.congr (f := fun k => windhoverkeep_Kept.l0 k (l ++ [-7770777, -7770777, -7770777, -7770777]) (l.length : Int)) (fun k => by rw [if_pos rfl, lent_w4 h, if_pos (by omega), if_pos (by omega), ht]) ?_
  have w : ∀ j : Nat, j ≤ 4 → wrap64 ((l.length : Int) + (j : Int) + 1) = (l.length : Int) + ((j + 1 : Nat) : Int) := fun j hj => by rw [wsm (by omega) (by omega)]; omega
  refine kept_round (j := (l.length : Int) + ((1 : Nat) : Int)) (by omega) (by omega) (by rw [rd_room 0 _ (by simp)]; rfl) (by have := w 0 (by decide); simpa using this) ?_
  refine kept_round (j := (l.length : Int) + ((2 : Nat) : Int)) (by omega) (by omega) (by rw [rd_room 1 _ (by simp)]; rfl) (w 1 (by decide)) ?_
  refine kept_round (j := (l.length : Int) + ((3 : Nat) : Int)) (by omega) (by omega) (by rw [rd_room 2 _ (by simp)]; rfl) (w 2 (by decide)) ?_
  refine kept_round (j := (l.length : Int) + ((4 : Nat) : Int)) (by omega) (by omega) (by rw [rd_room 3 _ (by simp)]; rfl) (w 3 (by decide)) ?_
  exact kept_exit (by omega)

theorem awk17_ev : Ev (fun k => windhoverlaw17_awake.f k) true := by
  have h : windhoverlaw17_awake.f 120 = some true := by decide +kernel
  exact Ev.of (fun k => windhoverlaw17_awake.mono k) h
def slv (a b c : Int) : Int := if c < 1 then a else if b > a then mn b (sat (a + c)) else mx b (sat (a - c))
theorem slv_ev {a b c : Int} (A : I64 a) (C : I64 c) : Ev (fun k => fix_Slew.f k a b c) (slv a b c) := by
  unfold slv
  by_cases h1 : c < 1
  · rw [if_pos h1]; exact Ev.congr (fun k => by rw [fix_Slew.f, if_pos h1]) (Ev.now _)
  · rw [if_neg h1]
    by_cases h2 : b > a
    · rw [if_pos h2]; exact Ev.congr (fun k => by rw [fix_Slew.f, if_neg h1, if_pos h2]) (Ev.bind (f := fun _ t => some (mn b t)) (add_ev' A C) (Ev.now _))
    · rw [if_neg h2]; exact Ev.congr (fun k => by rw [fix_Slew.f, if_neg h1, if_neg h2]) (Ev.bind (f := fun _ t => some (mx b t)) (sub_ev' A C) (Ev.now _))
theorem rslv_ev {a b c : Int} (A : I64 a) (C : I64 c) : Ev (fun k => windhoverref01_Slew.f k a b c) (slv a b c) := by
  unfold slv
  by_cases h1 : c < 1
  · rw [if_pos h1]; exact Ev.congr (fun k => by rw [windhoverref01_Slew.f, if_pos h1]) (Ev.now _)
  · rw [if_neg h1]
    by_cases h2 : b > a
    · rw [if_pos h2]; exact Ev.congr (fun k => by rw [windhoverref01_Slew.f, if_neg h1, if_pos h2]) (Ev.bind (f := fun _ t => some (mn b t)) (radd_ev A C) (Ev.now _))
    · rw [if_neg h2]; exact Ev.congr (fun k => by rw [windhoverref01_Slew.f, if_neg h1, if_neg h2]) (Ev.bind (f := fun _ t => some (mx b t)) (rsub_ev A C) (Ev.now _))
theorem slv_I {a b c : Int} (A : I64 a) (B : I64 b) : I64 (slv a b c) := by
  have s1 := sat_I (a + c)
  have s2 := sat_I (a - c)
  unfold slv
  split
  · exact A
  · split
    · unfold mn; split <;> assumption
    · unfold mx; split <;> assumption
def cl64 (a : Int) : Int := if a < -64 then -64 else if a > 64 then 64 else a
theorem cl_f (a : Int) : fix_Clamp.f a (-64) 64 = some (cl64 a) := by
  unfold fix_Clamp.f cl64
  split
  · rfl
  · split <;> rfl
theorem rcl_f (a : Int) : windhoverref01_Clamp.f a (-64) 64 = some (cl64 a) := by
  unfold windhoverref01_Clamp.f cl64
  split
  · rfl
  · split <;> rfl
def Aim (h : Bool) (t sp place ac aim : Int) : Prop := I64 aim ∧ (h = true → Ev (fun k => control_Law.f k (sat (t - place)) sp ac) aim ∧ Ev (fun k => windhoverref17_Law.f k (sat (t - place)) sp ac) aim) ∧ (h = false → aim = sp)
theorem aim_ev (h : Bool) {t sp place ac : Int} (S : I64 sp) (C : I64 ac) : ∃ aim, Aim h t sp place ac aim := by
  cases h with
  | false => exact ⟨sp, S, fun h => absurd h (by decide), fun _ => rfl⟩
  | true =>
    obtain ⟨v, e1, l1⟩ := law_ev (sat_I (t - place)) S C
    obtain ⟨u, e2, l2⟩ := rlaw_ev (sat_I (t - place)) S C
    obtain rfl := l1.unique l2
    have hs := l1.signed.2.2
    refine ⟨v, ?_, fun _ => ⟨e1, e2⟩, fun h => absurd h (by decide)⟩
    unfold I64 at *
    unfold mx at hs
    split at hs <;> omega
section
variable {ac r0 r1 r2 p0 p1 p2 v0 v1 v2 y0 y1 y2 t0 s0 t1 s1 t2 s2 aim : Int} {h0 h1 h2 : Bool} {R : Int × Int × Int × Int × Int × Int × Int}
theorem place_ev {a b c d t sp place : Int} (T : I64 t) (P : I64 place) (e : Ev (fun k => control_Law.f k (sat (t - place)) sp a) aim) : Ev (fun k => control_Steer_place.f k a b c d true t sp place) (aim, a, b, c, d) := by
  refine Ev.congr (fun k => by rw [control_Steer_place.f]) ?_
  refine Ev.bind (sub_ev' T P) ?_
  exact Ev.bind e (Ev.now _)
theorem step_0 (C : I64 ac) (A0 : I64 r0) (T : I64 t0) (P : I64 p0) (V : I64 v0) (a : Aim h0 t0 s0 p0 ac aim)
    (next : Ev (fun k => control_Steer_Step.l0 k 1 ac (slv r0 aim ac) r1 r2 p0 p1 p2 v0 v1 v2 (cl64 (sat (slv r0 aim ac - v0))) y1 y2 h0 t0 s0 h1 t1 s1 h2 t2 s2) R) : Ev (fun k => control_Steer_Step.l0 k 0 ac r0 r1 r2 p0 p1 p2 v0 v1 v2 y0 y1 y2 h0 t0 s0 h1 t1 s1 h2 t2 s2) R := by
  obtain ⟨aI, a1, a2⟩ := a
  cases h0 with
  | true =>
    refine Ev.step (fun k => by rw [control_Steer_Step.l0, if_pos (by decide), if_pos rfl, if_pos rfl]) ?_
    refine Ev.bind (place_ev T P (a1 rfl).1) ?_
    refine Ev.bind (slv_ev A0 C) ?_
    refine Ev.bind (sub_ev' (slv_I A0 aI) V) ?_
    exact Ev.congr (fun k => by rw [cl_f, Option.bind_some]) next
  | false =>
    obtain rfl := a2 rfl
    refine Ev.step (fun k => by rw [control_Steer_Step.l0, if_pos (by decide), if_pos rfl, if_neg (by decide), control_Steer_drift.f, Option.bind_some]) ?_
    refine Ev.bind (slv_ev A0 C) ?_
    refine Ev.bind (sub_ev' (slv_I A0 aI) V) ?_
    exact Ev.congr (fun k => by rw [cl_f, Option.bind_some]) next
theorem step_1 (C : I64 ac) (A0 : I64 r1) (T : I64 t1) (P : I64 p1) (V : I64 v1) (a : Aim h1 t1 s1 p1 ac aim)
    (next : Ev (fun k => control_Steer_Step.l0 k 2 ac r0 (slv r1 aim ac) r2 p0 p1 p2 v0 v1 v2 y0 (cl64 (sat (slv r1 aim ac - v1))) y2 h0 t0 s0 h1 t1 s1 h2 t2 s2) R) : Ev (fun k => control_Steer_Step.l0 k 1 ac r0 r1 r2 p0 p1 p2 v0 v1 v2 y0 y1 y2 h0 t0 s0 h1 t1 s1 h2 t2 s2) R := by
  obtain ⟨aI, a1, a2⟩ := a
  cases h1 with
  | true =>
    refine Ev.step (fun k => by rw [control_Steer_Step.l0, if_pos (by decide), if_neg (by decide), if_pos rfl, if_pos rfl]) ?_
    refine Ev.bind (place_ev T P (a1 rfl).1) ?_
    refine Ev.bind (slv_ev A0 C) ?_
    refine Ev.bind (sub_ev' (slv_I A0 aI) V) ?_
    exact Ev.congr (fun k => by rw [cl_f, Option.bind_some]) next
  | false =>
    obtain rfl := a2 rfl
    refine Ev.step (fun k => by rw [control_Steer_Step.l0, if_pos (by decide), if_neg (by decide), if_pos rfl, if_neg (by decide), control_Steer_drift.f, Option.bind_some]) ?_
    refine Ev.bind (slv_ev A0 C) ?_
    refine Ev.bind (sub_ev' (slv_I A0 aI) V) ?_
    exact Ev.congr (fun k => by rw [cl_f, Option.bind_some]) next
theorem step_2 (C : I64 ac) (A0 : I64 r2) (T : I64 t2) (P : I64 p2) (V : I64 v2) (a : Aim h2 t2 s2 p2 ac aim)
    (next : Ev (fun k => control_Steer_Step.l0 k 3 ac r0 r1 (slv r2 aim ac) p0 p1 p2 v0 v1 v2 y0 y1 (cl64 (sat (slv r2 aim ac - v2))) h0 t0 s0 h1 t1 s1 h2 t2 s2) R) : Ev (fun k => control_Steer_Step.l0 k 2 ac r0 r1 r2 p0 p1 p2 v0 v1 v2 y0 y1 y2 h0 t0 s0 h1 t1 s1 h2 t2 s2) R := by
  obtain ⟨aI, a1, a2⟩ := a
  cases h2 with
  | true =>
    refine Ev.step (fun k => by rw [control_Steer_Step.l0, if_pos (by decide), if_neg (by decide), if_neg (by decide), if_pos rfl, if_pos rfl]) ?_
    refine Ev.bind (place_ev T P (a1 rfl).1) ?_
    refine Ev.bind (slv_ev A0 C) ?_
    refine Ev.bind (sub_ev' (slv_I A0 aI) V) ?_
    exact Ev.congr (fun k => by rw [cl_f, Option.bind_some]) next
  | false =>
    obtain rfl := a2 rfl
    refine Ev.step (fun k => by rw [control_Steer_Step.l0, if_pos (by decide), if_neg (by decide), if_neg (by decide), if_pos rfl, if_neg (by decide), control_Steer_drift.f, Option.bind_some]) ?_
    refine Ev.bind (slv_ev A0 C) ?_
    refine Ev.bind (sub_ev' (slv_I A0 aI) V) ?_
    exact Ev.congr (fun k => by rw [cl_f, Option.bind_some]) next
end
theorem axis_ev {h : Bool} {ac r t sp p v aim : Int} (C : I64 ac) (A0 : I64 r) (T : I64 t) (P : I64 p) (V : I64 v) (a : Aim h t sp p ac aim) : Ev (fun k => windhoverref17_Axis.f k r ac h t sp p v) (slv r aim ac, cl64 (sat (slv r aim ac - v))) := by
  obtain ⟨aI, a1, a2⟩ := a
  cases h with
  | true =>
    refine Ev.congr (fun k => by rw [windhoverref17_Axis.f, if_pos rfl]) ?_
    refine Ev.bind (rsub_ev T P) ?_
    refine Ev.bind (a1 rfl).2 ?_
    refine Ev.bind (rslv_ev A0 C) ?_
    refine Ev.bind (rsub_ev (slv_I A0 aI) V) ?_
    exact Ev.congr (fun k => by rw [rcl_f, Option.bind_some]) (Ev.now _)
  | false =>
    obtain rfl := a2 rfl
    refine Ev.congr (fun k => by rw [windhoverref17_Axis.f, if_neg (by decide)]) ?_
    refine Ev.bind (rslv_ev A0 C) ?_
    refine Ev.bind (rsub_ev (slv_I A0 aI) V) ?_
    exact Ev.congr (fun k => by rw [rcl_f, Option.bind_some]) (Ev.now _)
theorem rd_mem52 {l : List S52} {i : Nat} (h : i < l.length) : rd_T52 l (i : Int) ∈ l := by
  unfold rd_T52
  rw [Int.toNat_natCast, List.getD_eq_getElem?_getD, List.getElem?_eq_getElem h]
  exact List.getElem_mem h
def WB (b : S52) : Prop := I64 b.f0.f0.f1 ∧ I64 b.f0.f0.f2 ∧ I64 b.f0.f1.f1 ∧ I64 b.f0.f1.f2 ∧ I64 b.f0.f2.f1 ∧ I64 b.f0.f2.f2 ∧ I64 b.f1.f0 ∧ I64 b.f1.f1 ∧ I64 b.f1.f2 ∧ I64 b.f2.f0 ∧ I64 b.f2.f1 ∧ I64 b.f2.f2
theorem beat_ev {l : List S52} {ac i r0 r1 r2 : Int} {b : S52} (W : WB b) (C : I64 ac) (A0 : I64 r0) (A1 : I64 r1) (A2 : I64 r2)
    (next : ∀ n0 n1 n2, I64 n0 → I64 n1 → I64 n2 → Ev (fun k => windhoverlaw17_ControlSteers.l0 k l ac (wrap64 (i + 1)) ac n0 n1 n2 n0 n1 n2) true) :
    Ev (fun k => windhoverlaw17_ControlSteers.j2 k l ac i ac r0 r1 r2 r0 r1 r2 b.f0.f0.f0 b.f0.f0.f1 b.f0.f0.f2 b.f0.f1.f0 b.f0.f1.f1 b.f0.f1.f2 b.f0.f2.f0 b.f0.f2.f1 b.f0.f2.f2 b.f1.f0 b.f1.f1 b.f1.f2 b.f2.f0 b.f2.f1 b.f2.f2 b.f3) true := by
  obtain ⟨⟨⟨h0, t0, s0⟩, ⟨h1, t1, s1⟩, ⟨h2, t2, s2⟩⟩, ⟨p0, p1, p2⟩, ⟨v0, v1, v2⟩, rest⟩ := b
  obtain ⟨w1, w2, w3, w4, w5, w6, w7, w8, w9, w10, w11, w12⟩ := W
  dsimp only at *
  obtain ⟨a0, g0⟩ := aim_ev h0 (t := t0) (place := p0) w2 C
  obtain ⟨a1, g1⟩ := aim_ev h1 (t := t1) (place := p1) w4 C
  obtain ⟨a2, g2⟩ := aim_ev h2 (t := t2) (place := p2) w6 C
  have ST : Ev (fun k => control_Steer_Step.f k ac r0 r1 r2 h0 t0 s0 h1 t1 s1 h2 t2 s2 p0 p1 p2 v0 v1 v2) (cl64 (sat (slv r0 a0 ac - v0)), cl64 (sat (slv r1 a1 ac - v1)), cl64 (sat (slv r2 a2 ac - v2)), ac, slv r0 a0 ac, slv r1 a1 ac, slv r2 a2 ac) := by
    refine Ev.congr (fun k => by rw [control_Steer_Step.f]) ?_
    refine step_0 C A0 w1 w7 w10 g0 ?_
    refine step_1 C A1 w3 w8 w11 g1 ?_
    refine step_2 C A2 w5 w9 w12 g2 ?_
    exact Ev.step (fun k => by rw [control_Steer_Step.l0, if_neg (by decide)]) (Ev.now _)
  refine Ev.step (fun k => by rw [windhoverlaw17_ControlSteers.j2]) ?_
  refine Ev.bind ST ?_
  refine Ev.step (fun k => by rw [windhoverlaw17_ControlSteers.l1, if_pos (by decide), if_pos rfl]) ?_
  refine Ev.bind (axis_ev C A0 w1 w7 w10 g0) ?_
  refine Ev.congr (fun k => by rw [if_pos rfl]) ?_
  refine Ev.step (fun k => by rw [windhoverlaw17_ControlSteers.l1, if_pos (by decide), if_neg (by decide), if_pos rfl]) ?_
  refine Ev.bind (axis_ev C A1 w3 w8 w11 g1) ?_
  refine Ev.congr (fun k => by rw [if_pos rfl]) ?_
  refine Ev.step (fun k => by rw [windhoverlaw17_ControlSteers.l1, if_pos (by decide), if_neg (by decide), if_neg (by decide), if_pos rfl]) ?_
  refine Ev.bind (axis_ev C A2 w5 w9 w12 g2) ?_
  refine Ev.congr (fun k => by rw [if_pos rfl]) ?_
  refine Ev.step (fun k => by rw [windhoverlaw17_ControlSteers.l1, if_neg (by decide), control_Steer_Refs.f, Option.bind_some, if_neg (by simp)]) ?_
  exact next _ _ _ (slv_I A0 g0.1) (slv_I A1 g1.1) (slv_I A2 g2.1)
theorem steers_loop {l : List S52} {ac : Int} (hl : l.length ≤ 9223372036854775807) (C : I64 ac) (hw : ∀ b ∈ l, WB b) : ∀ (n i : Nat) (r0 r1 r2 : Int), i + n = l.length → I64 r0 → I64 r1 → I64 r2 → Ev (fun k => windhoverlaw17_ControlSteers.l0 k l ac (i : Int) ac r0 r1 r2 r0 r1 r2) true := by
  intro n
  induction n with
  | zero =>
    intro i r0 r1 r2 hi _ _ _
    exact Ev.step (fun k => by rw [windhoverlaw17_ControlSteers.l0, if_neg (by omega)]) (Ev.bind awk17_ev (Ev.now true))
  | succ n ih =>
    intro i r0 r1 r2 hi A0 A1 A2
    have W := hw _ (rd_mem52 (l := l) (i := i) (by omega))
    have w : wrap64 ((i : Int) + 1) = ((i + 1 : Nat) : Int) := by rw [wsm (by omega) (by omega)]; omega
    have nx : ∀ n0 n1 n2, I64 n0 → I64 n1 → I64 n2 → Ev (fun k => windhoverlaw17_ControlSteers.l0 k l ac (wrap64 ((i : Int) + 1)) ac n0 n1 n2 n0 n1 n2) true := fun n0 n1 n2 B0 B1 B2 => by rw [w]; exact ih (i + 1) n0 n1 n2 (by omega) B0 B1 B2
    by_cases c : (rd_T52 l (i : Int)).f3 = true
    · refine Ev.step (fun k => by rw [windhoverlaw17_ControlSteers.l0, if_pos (by omega), if_pos (by omega), if_pos c, control_Steer_Rest.f, Option.bind_some]) ?_
      exact beat_ev W C W.2.2.2.2.2.2.2.2.2.1 W.2.2.2.2.2.2.2.2.2.2.1 W.2.2.2.2.2.2.2.2.2.2.2 nx
    · refine Ev.step (fun k => by rw [windhoverlaw17_ControlSteers.l0, if_pos (by omega), if_pos (by omega), if_neg c]) ?_
      exact beat_ev W C A0 A1 A2 nx
theorem snew_ev (l : List Int) : Ev (fun k => control_New.f k l) (if chv l = 0 then (rd l 6, 0, 0, 0, 0) else (0, 0, 0, 0, chv l)) := by
  refine Ev.congr (fun k => by rw [control_New.f]) ?_
  refine Ev.bind (pcheck_ev l) ?_
  by_cases h : chv l = 0
  · have hl := (chv_zero.1 h).1
    rw [if_pos h]
    exact Ev.congr (fun k => by rw [if_pos h, if_pos (by omega)]) (Ev.now _)
  · rw [if_neg h]
    exact Ev.congr (fun k => by rw [if_neg h]) (Ev.now _)
theorem ControlSteers : windhoverlaw17_ControlSteers.Pure := by
  intro l bs _ hv h2 hb hw
  have h : l.length ≤ 17592186043904 := by omega
  have hW : ∀ b ∈ bs, WB b := fun b m => by
    obtain ⟨w1, w2, w3, w4, w5, w6, w7, w8, w9, w10, w11, w12⟩ := hw b m
    exact ⟨I64_of w1, I64_of w2, I64_of w3, I64_of w4, I64_of w5, I64_of w6, I64_of w7, I64_of w8, I64_of w9, I64_of w10, I64_of w11, I64_of w12⟩
  have hlen : bs.length ≤ 9223372036854775807 := by simp only [maxLen] at hb; omega
  have hv6 : l.length = 24 → I64 (rd l 6) := fun e => by
    have : rd l 6 = l[6]'(by omega) := by simp [rd, List.getD, e]
    rw [this]
    exact I64_of (hv _ (List.getElem_mem _))
  clear hw hb hv h2
  apply Ev.rounds
  refine Ev.congr (fun k => by rw [windhoverlaw17_ControlSteers.f]) ?_
  refine Ev.bind (lent_ev h) ?_
  refine Ev.congr (fun k => by rw [if_pos (by simp), List.take_left]) ?_
  refine Ev.bind (snew_ev l) ?_
  by_cases c : chv l = 0
  · have hl := (chv_zero.1 c).1
    rw [if_pos c]
    refine Ev.congr (fun k => by rw [if_pos rfl]) ?_
    refine Ev.bind (pcheck_ev l) ?_
    refine Ev.congr (fun k => by rw [if_pos (by rw [c]), if_neg (by simp)]) ?_
    refine Ev.bind (keep_ev h) ?_
    refine Ev.step (f := fun k => windhoverlaw17_ControlSteers.l0 k bs (rd l 6) ((0 : Nat) : Int) (rd l 6) 0 0 0 0 0 0) (fun k => by rw [windhoverlaw17_ControlSteers.j0, if_neg (by decide), if_pos rfl, if_pos (by omega), if_pos (by omega)]; rfl) ?_
    exact steers_loop hlen (hv6 hl) hW bs.length 0 0 0 0 (by omega) (by unfold I64; omega) (by unfold I64; omega) (by unfold I64; omega)
  · rw [if_neg c]
    refine Ev.congr (fun k => by rw [if_neg c]) ?_
    refine Ev.bind (pcheck_ev l) ?_
    have hf : (chv l == 0) = false := by simpa using c
    refine Ev.congr (fun k => by rw [if_pos rfl, hf, if_neg (by decide)]) ?_
    refine Ev.bind (keep_ev h) ?_
    exact Ev.step (f := fun k => (windhoverlaw17_awake.f k).bind fun t => some t) (fun k => by rw [windhoverlaw17_ControlSteers.j4, if_neg (by decide), if_neg c]) (Ev.bind awk17_ev (Ev.now true))

end Go.Proofs.Ytbnliflfkljbfaa.Pure
