/- The plain law of WorldSees. -/
import Derived.Test.YtbgggogkblkopaaPWorldSeesx13
namespace Go.Proofs.Ytbgggogkblkopaa.Pure
open Go.RowKit Go.Proofs.Ytbgggogkblkopaa.PWorldSees Go.Proofs.YtbgggogkblkopaaW.PrintWords Go.Proofs.YtbgggogkblkopaaW.PrintLast

set_option linter.unusedVariables false
set_option linter.unusedSimpArgs false
theorem Ev.now {α : Type} (r : α) : Ev (fun _ => some r) r := ⟨0, fun _ _ => rfl⟩

/-! ### Whole numbers of any length, by digits of 2^30: the plain lists -/
def V : List Int → Int
  | [] => 0
  | d :: ds => d + 1073741824 * V ds
def Dg : List Int → Prop
  | [] => True
  | d :: ds => (0 ≤ d ∧ d < 1073741824) ∧ Dg ds
def Trm : List Int → Prop
  | [] => True
  | d :: ds => (ds = [] → d ≠ 0) ∧ Trm ds
theorem V_nonneg : ∀ l, Dg l → 0 ≤ V l
  | [], _ => Int.le_refl _
  | d :: ds, h => by have := V_nonneg ds h.2; have := h.1; simp only [V]; omega
theorem V_pos : ∀ l, Dg l → Trm l → l ≠ [] → 0 < V l
  | [], _, _, h => absurd rfl h
  | d :: ds, h, t, _ => by
    have hn := V_nonneg ds h.2
    have := h.1
    simp only [V]
    by_cases e : ds = []
    · have := t.1 e; omega
    · have := V_pos ds h.2 t.2 e; omega
theorem V_lt_len : ∀ a b, Dg a → Dg b → Trm b → a.length < b.length → V a < V b
  | [], b, _, hb, tb, h => V_pos b hb tb (by intro e; simp [e] at h)
  | x :: xs, [], _, _, _, h => by simp at h
  | x :: xs, y :: ys, ha, hb, tb, h => by
    have := V_lt_len xs ys ha.2 hb.2 tb.2 (by simpa using h)
    have := ha.1; have := hb.1
    simp only [V]; omega
def Sg (x y r : Int) : Prop := (r = -1 ∧ x < y) ∨ (r = 0 ∧ x = y) ∨ (r = 1 ∧ x > y)
def cmpL : List Int → List Int → Int
  | x :: xs, y :: ys => if cmpL xs ys ≠ 0 then cmpL xs ys else if x < y then -1 else if x > y then 1 else 0
  | _, _ => 0
theorem cmpL_spec : ∀ a b, Dg a → Dg b → a.length = b.length → Sg (V a) (V b) (cmpL a b)
  | [], [], _, _, _ => by simp [cmpL, Sg]
  | [], y :: ys, _, _, h => by simp at h
  | x :: xs, [], _, _, h => by simp at h
  | x :: xs, y :: ys, ha, hb, h => by
    have ih := cmpL_spec xs ys ha.2 hb.2 (by simpa using h)
    have := ha.1; have := hb.1
    unfold Sg at *
    simp only [V, cmpL]
    by_cases e : cmpL xs ys ≠ 0
    · rw [if_pos e]; omega
    · rw [if_neg e]
      by_cases l : x < y
      · rw [if_pos l]; omega
      · rw [if_neg l]
        by_cases g : x > y
        · rw [if_pos g]; omega
        · rw [if_neg g]; omega
theorem cmpL_drop : ∀ (n : Nat) (a b : List Int), cmpL (a.drop n) (b.drop n) ≠ 0 → cmpL a b = cmpL (a.drop n) (b.drop n)
  | 0, _, _, _ => rfl
  | n + 1, [], b, h => by simp [cmpL] at h
  | n + 1, x :: xs, [], h => by simp [cmpL] at h
  | n + 1, x :: xs, y :: ys, h => by
    have ih := cmpL_drop n xs ys h
    simp only [List.drop_succ_cons] at *
    rw [← ih] at h ⊢
    simp only [cmpL, if_pos h]
def trimL : List Int → List Int
  | [] => []
  | d :: ds => if trimL ds = [] then (if d = 0 then [] else [d]) else d :: trimL ds
theorem V_trimL : ∀ l, V (trimL l) = V l
  | [] => rfl
  | d :: ds => by
    have ih := V_trimL ds
    unfold trimL
    by_cases e : trimL ds = []
    · rw [if_pos e]
      rw [e] at ih
      simp only [V] at ih
      by_cases z : d = 0
      · rw [if_pos z]; simp only [V]; omega
      · rw [if_neg z]; simp only [V]; omega
    · rw [if_neg e]; simp only [V]; omega
theorem Dg_trimL : ∀ l, Dg l → Dg (trimL l)
  | [], _ => trivial
  | d :: ds, h => by
    have ih := Dg_trimL ds h.2
    unfold trimL
    split
    · split
      · exact trivial
      · exact ⟨h.1, trivial⟩
    · exact ⟨h.1, ih⟩
theorem Trm_trimL : ∀ l, Trm (trimL l)
  | [] => trivial
  | d :: ds => by
    have ih := Trm_trimL ds
    unfold trimL
    split
    · split
      · exact trivial
      · next z => exact ⟨fun _ => z, trivial⟩
    · next e => exact ⟨fun q => absurd q e, ih⟩
theorem trimL_len : ∀ l, (trimL l).length ≤ l.length
  | [] => Nat.le_refl _
  | d :: ds => by
    have ih := trimL_len ds
    unfold trimL
    split
    · split <;> simp
    · simpa using ih
theorem trimL_snoc : ∀ (xs : List Int) (x : Int), trimL (xs ++ [x]) = if x = 0 then trimL xs else xs ++ [x]
  | [], x => by simp [trimL]
  | d :: ds, x => by
    have ih := trimL_snoc ds x
    simp only [List.cons_append, trimL, ih]
    by_cases z : x = 0
    · simp only [if_pos z]
    · simp only [if_neg z]; simp
def addL : List Int → List Int → Int → List Int
  | [], [], c => if c > 0 then [c] else []
  | x :: xs, [], c => ((c + x) % 1073741824) :: addL xs [] ((c + x) / 1073741824)
  | [], y :: ys, c => ((c + y) % 1073741824) :: addL [] ys ((c + y) / 1073741824)
  | x :: xs, y :: ys, c => ((c + x + y) % 1073741824) :: addL xs ys ((c + x + y) / 1073741824)
theorem addL_spec : ∀ a b c, Dg a → Dg b → 0 ≤ c → c ≤ 1 → V (addL a b c) = V a + V b + c ∧ Dg (addL a b c) ∧ (addL a b c).length ≤ max a.length b.length + 1
  | [], [], c, _, _, h0, h1 => by
    unfold addL
    by_cases h : c > 0
    · rw [if_pos h]; refine ⟨by simp [V], ⟨by omega, trivial⟩, by simp⟩
    · rw [if_neg h]; refine ⟨by simp [V]; omega, trivial, by simp⟩
  | x :: xs, [], c, ha, _, h0, h1 => by
    have := ha.1
    obtain ⟨i1, i2, i3⟩ := addL_spec xs [] ((c + x) / 1073741824) ha.2 trivial (by omega) (by omega)
    unfold addL
    refine ⟨by simp only [V] at *; omega, ⟨by omega, i2⟩, by simp at i3 ⊢; omega⟩
  | [], y :: ys, c, _, hb, h0, h1 => by
    have := hb.1
    obtain ⟨i1, i2, i3⟩ := addL_spec [] ys ((c + y) / 1073741824) trivial hb.2 (by omega) (by omega)
    unfold addL
    refine ⟨by simp only [V] at *; omega, ⟨by omega, i2⟩, by simp at i3 ⊢; omega⟩
  | x :: xs, y :: ys, c, ha, hb, h0, h1 => by
    have := ha.1; have := hb.1
    obtain ⟨i1, i2, i3⟩ := addL_spec xs ys ((c + x + y) / 1073741824) ha.2 hb.2 (by omega) (by omega)
    unfold addL
    refine ⟨by simp only [V] at *; omega, ⟨by omega, i2⟩, by simp at i3 ⊢; omega⟩
def lessL : List Int → List Int → Int → List Int
  | [], _, _ => []
  | x :: xs, [], r => if x - r < 0 then (x - r + 1073741824) :: lessL xs [] 1 else (x - r) :: lessL xs [] 0
  | x :: xs, y :: ys, r => if x - r - y < 0 then (x - r - y + 1073741824) :: lessL xs ys 1 else (x - r - y) :: lessL xs ys 0
theorem lessL_spec : ∀ a b r, Dg a → Dg b → b.length ≤ a.length → 0 ≤ r → r ≤ 1 → V b + r ≤ V a → V (lessL a b r) = V a - V b - r ∧ Dg (lessL a b r) ∧ (lessL a b r).length = a.length
  | [], [], r, _, _, _, h0, h1, h => by simp only [V] at *; unfold lessL; exact ⟨by simp only [V]; omega, trivial, rfl⟩
  | [], y :: ys, r, _, _, hl, _, _, _ => by simp at hl
  | x :: xs, [], r, ha, _, _, h0, h1, h => by
    have := ha.1
    have hn := V_nonneg xs ha.2
    simp only [V] at h
    unfold lessL
    by_cases s : x - r < 0
    · obtain ⟨i1, i2, i3⟩ := lessL_spec xs [] 1 ha.2 trivial (Nat.zero_le _) (by omega) (by omega) (by simp only [V]; omega)
      rw [if_pos s]; refine ⟨by simp only [V] at *; omega, ⟨by omega, i2⟩, by simp [i3]⟩
    · obtain ⟨i1, i2, i3⟩ := lessL_spec xs [] 0 ha.2 trivial (Nat.zero_le _) (by omega) (by omega) (by simp only [V]; omega)
      rw [if_neg s]; refine ⟨by simp only [V] at *; omega, ⟨by omega, i2⟩, by simp [i3]⟩
  | x :: xs, y :: ys, r, ha, hb, hl, h0, h1, h => by
    have := ha.1; have := hb.1
    have hl' : ys.length ≤ xs.length := by simpa using hl
    simp only [V] at h
    unfold lessL
    by_cases s : x - r - y < 0
    · obtain ⟨i1, i2, i3⟩ := lessL_spec xs ys 1 ha.2 hb.2 hl' (by omega) (by omega) (by omega)
      rw [if_pos s]; refine ⟨by simp only [V] at *; omega, ⟨by omega, i2⟩, by simp [i3]⟩
    · obtain ⟨i1, i2, i3⟩ := lessL_spec xs ys 0 ha.2 hb.2 hl' (by omega) (by omega) (by omega)
      rw [if_neg s]; refine ⟨by simp only [V] at *; omega, ⟨by omega, i2⟩, by simp [i3]⟩
/-! ### The printed functions on whole numbers do what the plain lists say -/
theorem wsm {a : Int} (h1 : -9223372036854775808 ≤ a) (h2 : a ≤ 9223372036854775807) : wrap64 a = a := by unfold wrap64; omega
theorem rd_nat (l : List Int) (i : Nat) : rd l (i : Int) = l.getD i 0 := by simp [rd]
theorem drop_rd (l : List Int) (i : Nat) (h : i < l.length) : l.drop i = rd l (i : Int) :: l.drop (i + 1) := by
  rw [rd_nat, List.drop_eq_getElem_cons h]
  simp [List.getD_eq_getElem?_getD, h]
theorem Dg_drop : ∀ (l : List Int) (i : Nat), Dg l → Dg (l.drop i)
  | [], _, _ => by simp [Dg]
  | d :: ds, 0, h => h
  | d :: ds, i + 1, h => Dg_drop ds i h.2
theorem Dg_rd {l : List Int} (h : Dg l) {i : Nat} (hi : i < l.length) : 0 ≤ rd l (i : Int) ∧ rd l (i : Int) < 1073741824 := by
  have := Dg_drop l i h
  rw [drop_rd l i hi] at this
  exact this.1
theorem ev_eq {α : Type} {g : Nat → Option α} {r s : α} (h : r = s) (e : Ev g s) : Ev g r := h ▸ e
theorem trim_ev (l : List Int) (hs : l.length ≤ 1000000) : ∀ (n : Nat), n ≤ l.length → Ev (fun k => windhoverref00_trim.l0 k l (n : Int)) (trimL (l.take n)) := by
  intro n
  induction n with
  | zero =>
    intro _
    refine Ev.step (f := fun _ => some (trimL (l.take 0))) (fun k => ?_) (Ev.now _)
    rw [windhoverref00_trim.l0, if_neg (by decide), if_pos (by decide), if_pos (by omega)]
    simp [trimL]
  | succ n ih =>
    intro hn
    have e : wrap64 (((n + 1 : Nat) : Int) - 1) = (n : Int) := by rw [wsm (by omega) (by omega)]; omega
    have ht : l.take (n + 1) = l.take n ++ [rd l (n : Int)] := by
      rw [rd_nat, List.take_succ_eq_append_getElem (by omega)]
      simp [List.getD_eq_getElem?_getD, show n < l.length from by omega]
    by_cases z : rd l (n : Int) = 0
    · refine ev_eq (by rw [ht, trimL_snoc, if_pos z]) (Ev.step (fun k => ?_) (ih (by omega)))
      rw [windhoverref00_trim.l0, if_pos (by omega), e, if_pos (by omega), if_pos (by omega), if_pos z]
    · refine Ev.step (f := fun _ => some (trimL (l.take (n + 1)))) (fun k => ?_) (Ev.now _)
      rw [windhoverref00_trim.l0, if_pos (by omega), e, if_pos (by omega), if_pos (by omega), if_neg z, if_pos (by omega), if_pos (by omega)]
      rw [ht, trimL_snoc, if_neg z, ← ht]
      rfl
theorem trimf_ev (l : List Int) (hs : l.length ≤ 1000000) : Ev (fun k => windhoverref00_trim.f k l) (trimL l) := by
  have := trim_ev l hs l.length (Nat.le_refl _)
  rw [List.take_length] at this
  exact this
theorem add_end (a b out : List Int) (i : Nat) (hi : max a.length b.length ≤ i) (h2 : out.length ≤ 1000000) :
    Ev (fun k => windhoverref00_add.l0 k a b out 0 (i : Int)) (trimL out) := by
  refine Ev.step (f := fun k => windhoverref00_add.j1 k a b out 0 (i : Int) false) (fun k => ?_) ?_
  · rw [windhoverref00_add.l0, if_neg (by omega), if_neg (by omega)]
    rfl
  · refine Ev.step (f := fun k => (windhoverref00_trim.f k out).bind fun t => some t) (fun k => ?_) ?_
    · rw [windhoverref00_add.j1, if_neg (by decide)]
    · exact Ev.bind (trimf_ev out h2) (Ev.now _)
theorem add_ev (a b : List Int) (ha : Dg a) (hb : Dg b) (hal : a.length ≤ 1000) (hbl : b.length ≤ 1000) : ∀ (n i : Nat) (out : List Int) (c : Int), max a.length b.length ≤ i + n → i ≤ 1000 → out.length ≤ 2000 + i → 0 ≤ c → c ≤ 1 →
    Ev (fun k => windhoverref00_add.l0 k a b out c (i : Int)) (trimL (out ++ addL (a.drop i) (b.drop i) c)) := by
  intro n
  induction n with
  | zero =>
    intro i out c hi hi2 hl h0 h1
    have ea : a.drop i = [] := List.drop_of_length_le (by omega)
    have eb : b.drop i = [] := List.drop_of_length_le (by omega)
    rw [ea, eb]
    by_cases hc : c > 0
    · obtain rfl : c = 1 := by omega
      refine ev_eq (s := trimL (out ++ [1])) (by simp [addL]) ?_
      refine Ev.step (f := fun k => windhoverref00_add.j1 k a b out 1 (i : Int) true) (fun k => ?_) ?_
      · rw [windhoverref00_add.l0, if_neg (by omega), if_neg (by omega)]; rfl
      · refine Ev.step (f := fun k => windhoverref00_add.l0 k a b (out ++ [1]) 0 ((i + 1 : Nat) : Int)) (fun k => ?_) ?_
        · rw [windhoverref00_add.j1, if_pos rfl, if_neg (by omega), if_neg (by omega), if_pos (by omega), show Int.tmod 1 1073741824 = 1 from by decide, show wrap64 (Int.tdiv 1 1073741824) = 0 from by decide +kernel, wsm (by omega) (by omega)]
          rfl
        · exact add_end a b (out ++ [1]) (i + 1) (by omega) (by simp; omega)
    · obtain rfl : c = 0 := by omega
      refine ev_eq (s := trimL out) (by simp [addL]) ?_
      exact add_end a b out i (by omega) (by omega)
  | succ n ih =>
    intro i out c hi hi2 hl h0 h1
    by_cases hlt : max a.length b.length ≤ i
    · exact (by
        have ea : a.drop i = [] := List.drop_of_length_le (by omega)
        have eb : b.drop i = [] := List.drop_of_length_le (by omega)
        rw [ea, eb]
        by_cases hc : c > 0
        · obtain rfl : c = 1 := by omega
          refine ev_eq (s := trimL (out ++ [1])) (by simp [addL]) ?_
          refine Ev.step (f := fun k => windhoverref00_add.j1 k a b out 1 (i : Int) true) (fun k => ?_) ?_
          · rw [windhoverref00_add.l0, if_neg (by omega), if_neg (by omega)]; rfl
          · refine Ev.step (f := fun k => windhoverref00_add.l0 k a b (out ++ [1]) 0 ((i + 1 : Nat) : Int)) (fun k => ?_) ?_
            · rw [windhoverref00_add.j1, if_pos rfl, if_neg (by omega), if_neg (by omega), if_pos (by omega), show Int.tmod 1 1073741824 = 1 from by decide, show wrap64 (Int.tdiv 1 1073741824) = 0 from by decide +kernel, wsm (by omega) (by omega)]
              rfl
            · exact add_end a b (out ++ [1]) (i + 1) (by omega) (by simp; omega)
        · obtain rfl : c = 0 := by omega
          refine ev_eq (s := trimL out) (by simp [addL]) ?_
          exact add_end a b out i (by omega) (by omega))
    · have ei : wrap64 ((i : Int) + 1) = ((i + 1 : Nat) : Int) := by rw [wsm (by omega) (by omega)]; omega
      refine Ev.step (f := fun k => windhoverref00_add.j1 k a b out c (i : Int) true) (fun k => ?_) ?_
      · rw [windhoverref00_add.l0]
        by_cases p : (i : Int) < (a.length : Int)
        · rw [if_pos p]
        · rw [if_neg p, if_pos (by omega)]
      · by_cases p : i < a.length
        · have hx := Dg_rd ha p
          by_cases q : i < b.length
          · have hy := Dg_rd hb q
            rw [drop_rd a i p, drop_rd b i q]
            unfold addL
            refine ev_eq (s := trimL ((out ++ [(c + rd a i + rd b i) % 1073741824]) ++ addL (a.drop (i + 1)) (b.drop (i + 1)) ((c + rd a i + rd b i) / 1073741824))) (by simp) (Ev.step (fun k => ?_) (ih (i + 1) _ _ (by omega) (by omega) (by simp; omega) (by omega) (by omega)))
            rw [windhoverref00_add.j1, if_pos rfl, if_pos (by omega), if_pos (by omega), if_pos (by omega), if_pos (by omega), ei, wsm (a := c + _) (by omega) (by omega), wsm (a := c + _ + _) (by omega) (by omega), Int.tmod_eq_emod_of_nonneg (by omega), Int.tdiv_eq_ediv_of_nonneg (by omega), wsm (by omega) (by omega)]
          · rw [drop_rd a i p, List.drop_of_length_le (show b.length ≤ i by omega)]
            unfold addL
            refine ev_eq (s := trimL ((out ++ [(c + rd a i) % 1073741824]) ++ addL (a.drop (i + 1)) (b.drop (i + 1)) ((c + rd a i) / 1073741824))) (by rw [List.drop_of_length_le (show b.length ≤ i + 1 by omega)]; simp) (Ev.step (fun k => ?_) (ih (i + 1) _ _ (by omega) (by omega) (by simp; omega) (by omega) (by omega)))
            rw [windhoverref00_add.j1, if_pos rfl, if_pos (by omega), if_pos (by omega), if_neg (by omega), if_pos (by omega), ei, wsm (a := c + _) (by omega) (by omega), Int.tmod_eq_emod_of_nonneg (by omega), Int.tdiv_eq_ediv_of_nonneg (by omega), wsm (by omega) (by omega)]
        · have q : i < b.length := by omega
          have hy := Dg_rd hb q
          rw [drop_rd b i q, List.drop_of_length_le (show a.length ≤ i by omega)]
          unfold addL
          refine ev_eq (s := trimL ((out ++ [(c + rd b i) % 1073741824]) ++ addL (a.drop (i + 1)) (b.drop (i + 1)) ((c + rd b i) / 1073741824))) (by rw [List.drop_of_length_le (show a.length ≤ i + 1 by omega)]; simp) (Ev.step (fun k => ?_) (ih (i + 1) _ _ (by omega) (by omega) (by simp; omega) (by omega) (by omega)))
          rw [windhoverref00_add.j1, if_pos rfl, if_neg (by omega), if_pos (by omega), if_pos (by omega), if_pos (by omega), ei, wsm (a := c + _) (by omega) (by omega), Int.tmod_eq_emod_of_nonneg (by omega), Int.tdiv_eq_ediv_of_nonneg (by omega), wsm (by omega) (by omega)]
theorem addf_ev (a b : List Int) (ha : Dg a) (hb : Dg b) (hal : a.length ≤ 900) (hbl : b.length ≤ 900) : Ev (fun k => windhoverref00_add.f k a b) (trimL (addL a b 0)) :=
  add_ev a b ha hb (by omega) (by omega) (max a.length b.length) 0 [] 0 (by omega) (by omega) (by simp) (by decide) (by decide)

theorem less_ev (a b : List Int) (ha : Dg a) (hb : Dg b) (hal : a.length ≤ 1000) (hbl : b.length ≤ a.length) : ∀ (n i : Nat) (out : List Int) (r : Int), a.length = i + n → out.length ≤ 2000 + i → 0 ≤ r → r ≤ 1 →
    Ev (fun k => windhoverref00_less.l0 k a b out r (i : Int)) (trimL (out ++ lessL (a.drop i) (b.drop i) r)) := by
  intro n
  induction n with
  | zero =>
    intro i out r hi hl h0 h1
    rw [List.drop_of_length_le (show a.length ≤ i by omega)]
    refine ev_eq (s := trimL out) (by simp [lessL]) ?_
    refine Ev.step (f := fun k => (windhoverref00_trim.f k out).bind fun t => some t) (fun k => ?_) (Ev.bind (trimf_ev out (by omega)) (Ev.now _))
    rw [windhoverref00_less.l0, if_neg (by omega)]
  | succ n ih =>
    intro i out r hi hl h0 h1
    have p : i < a.length := by omega
    have hx := Dg_rd ha p
    have ei : wrap64 ((i : Int) + 1) = ((i + 1 : Nat) : Int) := by rw [wsm (by omega) (by omega)]; omega
    by_cases q : i < b.length
    · have hy := Dg_rd hb q
      rw [drop_rd a i p, drop_rd b i q]
      unfold lessL
      by_cases s : rd a i - r - rd b i < 0
      · rw [if_pos s]
        refine ev_eq (s := trimL ((out ++ [rd a i - r - rd b i + 1073741824]) ++ lessL (a.drop (i + 1)) (b.drop (i + 1)) 1)) (by simp) (Ev.step (fun k => ?_) (ih (i + 1) _ _ (by omega) (by simp; omega) (by omega) (by omega)))
        rw [windhoverref00_less.l0, if_pos (by omega), if_pos (by omega), if_pos (by omega), wsm (a := _ - r) (by omega) (by omega), wsm (a := _ - r - _) (by omega) (by omega), if_pos s, if_pos (by omega), ei, wsm (by omega) (by omega)]
      · rw [if_neg s]
        refine ev_eq (s := trimL ((out ++ [rd a i - r - rd b i]) ++ lessL (a.drop (i + 1)) (b.drop (i + 1)) 0)) (by simp) (Ev.step (fun k => ?_) (ih (i + 1) _ _ (by omega) (by simp; omega) (by omega) (by omega)))
        rw [windhoverref00_less.l0, if_pos (by omega), if_pos (by omega), if_pos (by omega), wsm (a := _ - r) (by omega) (by omega), wsm (a := _ - r - _) (by omega) (by omega), if_neg s, if_pos (by omega), ei]
    · rw [drop_rd a i p, List.drop_of_length_le (show b.length ≤ i by omega)]
      unfold lessL
      by_cases s : rd a i - r < 0
      · rw [if_pos s]
        refine ev_eq (s := trimL ((out ++ [rd a i - r + 1073741824]) ++ lessL (a.drop (i + 1)) (b.drop (i + 1)) 1)) (by rw [List.drop_of_length_le (show b.length ≤ i + 1 by omega)]; simp) (Ev.step (fun k => ?_) (ih (i + 1) _ _ (by omega) (by simp; omega) (by omega) (by omega)))
        rw [windhoverref00_less.l0, if_pos (by omega), if_pos (by omega), if_neg (by omega), wsm (a := _ - r) (by omega) (by omega), if_pos s, if_pos (by omega), ei, wsm (by omega) (by omega)]
      · rw [if_neg s]
        refine ev_eq (s := trimL ((out ++ [rd a i - r]) ++ lessL (a.drop (i + 1)) (b.drop (i + 1)) 0)) (by rw [List.drop_of_length_le (show b.length ≤ i + 1 by omega)]; simp) (Ev.step (fun k => ?_) (ih (i + 1) _ _ (by omega) (by simp; omega) (by omega) (by omega)))
        rw [windhoverref00_less.l0, if_pos (by omega), if_pos (by omega), if_neg (by omega), wsm (a := _ - r) (by omega) (by omega), if_neg s, if_pos (by omega), ei]
theorem lessf_ev (a b : List Int) (ha : Dg a) (hb : Dg b) (hal : a.length ≤ 1000) (hbl : b.length ≤ a.length) : Ev (fun k => windhoverref00_less.f k a b) (trimL (lessL a b 0)) :=
  less_ev a b ha hb hal hbl a.length 0 [] 0 (by omega) (by simp) (by decide) (by decide)
theorem cmpL_at (a b : List Int) (i : Nat) (h1 : i < a.length) (h2 : i < b.length) (hz : cmpL (a.drop (i + 1)) (b.drop (i + 1)) = 0) :
    cmpL (a.drop i) (b.drop i) = if rd a i < rd b i then -1 else if rd a i > rd b i then 1 else 0 := by
  rw [drop_rd a i h1, drop_rd b i h2]
  simp only [cmpL]
  rw [if_neg (by simpa using hz)]
theorem size_ev (a b : List Int) (hl : a.length = b.length) (hs : a.length ≤ 1000) : ∀ (n : Nat), n ≤ a.length → cmpL (a.drop n) (b.drop n) = 0 →
    Ev (fun k => windhoverref00_size.l0 k a b ((n : Int) - 1)) (cmpL a b) := by
  intro n
  induction n with
  | zero =>
    intro _ hz
    rw [List.drop_zero, List.drop_zero] at hz
    rw [hz]
    refine Ev.step (f := fun _ => some 0) (fun k => ?_) (Ev.now _)
    rw [windhoverref00_size.l0, if_neg (by omega)]
  | succ n ih =>
    intro hn hz
    have e1 : (((n + 1 : Nat) : Int) - 1) = (n : Int) := by omega
    have e2 : wrap64 ((n : Int) - 1) = (n : Int) - 1 := wsm (by omega) (by omega)
    have hc := cmpL_at a b n (by omega) (by omega) hz
    rw [e1]
    by_cases h1 : rd a n < rd b n
    · rw [if_pos h1] at hc
      refine ev_eq (s := -1) ?_ (Ev.step (f := fun _ => some (-1)) (fun k => ?_) (Ev.now _))
      · rw [cmpL_drop n a b (by rw [hc]; decide), hc]
      · rw [windhoverref00_size.l0, if_pos (by omega), if_pos (by omega), if_pos (by omega), if_pos (by omega), if_pos h1]
    · rw [if_neg h1] at hc
      by_cases h2 : rd a n > rd b n
      · rw [if_pos h2] at hc
        refine ev_eq (s := 1) ?_ (Ev.step (f := fun _ => some 1) (fun k => ?_) (Ev.now _))
        · rw [cmpL_drop n a b (by rw [hc]; decide), hc]
        · rw [windhoverref00_size.l0, if_pos (by omega), if_pos (by omega), if_pos (by omega), if_pos (by omega), if_neg h1, if_pos h2]
      · rw [if_neg h2] at hc
        refine Ev.step (fun k => ?_) (ih (by omega) hc)
        rw [windhoverref00_size.l0, if_pos (by omega), if_pos (by omega), if_pos (by omega), if_pos (by omega), if_neg h1, if_neg h2, e2]
/-- Magnitudes are compared. -/
theorem sizef_ev (a b : List Int) (ha : Dg a) (hb : Dg b) (ta : Trm a) (tb : Trm b) (hs : a.length ≤ 1000) : ∃ r, Ev (fun k => windhoverref00_size.f k a b) r ∧ Sg (V a) (V b) r := by
  by_cases hl : a.length = b.length
  · refine ⟨cmpL a b, ?_, cmpL_spec a b ha hb hl⟩
    have h := size_ev a b hl hs a.length (Nat.le_refl _) (by rw [List.drop_of_length_le (Nat.le_refl _), List.drop_of_length_le (by omega)]; rfl)
    refine Ev.congr (fun k => ?_) h
    rw [windhoverref00_size.f, if_pos (by omega), wsm (by omega) (by omega)]
  · by_cases hlt : a.length < b.length
    · refine ⟨-1, Ev.congr (fun k => ?_) (Ev.now _), .inl ⟨rfl, V_lt_len a b ha hb tb hlt⟩⟩
      rw [windhoverref00_size.f, if_neg (by omega), if_pos (by omega)]
    · refine ⟨1, Ev.congr (fun k => ?_) (Ev.now _), .inr (.inr ⟨rfl, V_lt_len b a hb ha ta (by omega)⟩)⟩
      rw [windhoverref00_size.f, if_neg (by omega), if_neg (by omega)]
/-- A whole number, as its sign and its digits. -/
def W (L : Nat) (b : Bool) (d : List Int) (n : Int) : Prop := Dg d ∧ Trm d ∧ (b = true → d ≠ []) ∧ n = (if b = true then -V d else V d) ∧ d.length ≤ L
theorem W.mono {L M : Nat} {b : Bool} {d : List Int} {n : Int} (h : W L b d n) (hl : L ≤ M) : W M b d n := ⟨h.1, h.2.1, h.2.2.1, h.2.2.2.1, Nat.le_trans h.2.2.2.2 hl⟩
theorem len_of {d : List Int} (h : Dg d) (t : Trm d) : (V d < 1073741824 → d.length ≤ 1) ∧ (V d < 1152921504606846976 → d.length ≤ 2) ∧ (V d < 1237940039285380274899124224 → d.length ≤ 3) ∧ (V d < 1329227995784915872903807060280344576 → d.length ≤ 4) := by
  match d, h, t with
  | [], _, _ => exact ⟨fun _ => by simp, fun _ => by simp, fun _ => by simp, fun _ => by simp⟩
  | [a], _, _ => exact ⟨fun _ => by simp, fun _ => by simp, fun _ => by simp, fun _ => by simp⟩
  | [a, b], h, t =>
    have := h.1; have := h.2.1; have := t.2.1 rfl
    simp only [V]; exact ⟨fun _ => by omega, fun _ => by simp, fun _ => by simp, fun _ => by simp⟩
  | [a, b, c], h, t =>
    have := h.1; have := h.2.1; have := h.2.2.1; have := t.2.2.1 rfl
    simp only [V]; exact ⟨fun _ => by omega, fun _ => by omega, fun _ => by simp, fun _ => by simp⟩
  | [a, b, c, e], h, t =>
    have := h.1; have := h.2.1; have := h.2.2.1; have := h.2.2.2.1; have := t.2.2.2.1 rfl
    simp only [V]; exact ⟨fun _ => by omega, fun _ => by omega, fun _ => by omega, fun _ => by simp⟩
  | a :: b :: c :: e :: f :: ds, h, t =>
    have := h.1; have := h.2.1; have := h.2.2.1; have := h.2.2.2.1
    have := V_pos (f :: ds) h.2.2.2.2 t.2.2.2.2 (by simp)
    simp only [V] at *
    exact ⟨fun _ => by omega, fun _ => by omega, fun _ => by omega, fun _ => by omega⟩
theorem of_loop (bl : Bool) : ∀ (m : Nat) (n : Int) (out : List Int), n.natAbs ≤ m → -9223372036854775808 ≤ n → n ≤ 9223372036854775807 → (∃ c : Nat, n.natAbs * 2 ^ c ≤ 9223372036854775808 ∧ out.length ≤ c) →
    ∃ ds, Ev (fun k => windhoverref00_Of.l0 k n bl out) (bl, out ++ ds) ∧ Dg ds ∧ Trm ds ∧ V ds = n.natAbs ∧ (n = 0 → ds = []) := by
  intro m
  induction m with
  | zero =>
    intro n out hm _ _ _
    obtain rfl : n = 0 := by omega
    refine ⟨[], Ev.step (f := fun _ => some (bl, out)) (fun k => ?_) (ev_eq (by simp) (Ev.now _)), trivial, trivial, rfl, fun _ => rfl⟩
    rw [windhoverref00_Of.l0, if_pos rfl]
  | succ m ih =>
    intro n out hm h1 h2 hc
    by_cases hz : n = 0
    · subst hz
      refine ⟨[], Ev.step (f := fun _ => some (bl, out)) (fun k => ?_) (ev_eq (by simp) (Ev.now _)), trivial, trivial, rfl, fun _ => rfl⟩
      rw [windhoverref00_Of.l0, if_pos rfl]
    · obtain ⟨c, hc1, hc2⟩ := hc
      have hc63 : c ≤ 63 := by
        rcases Nat.lt_or_ge c 64 with h | h
        · omega
        · have h3 : 2 ^ 64 ≤ 2 ^ c := Nat.pow_le_pow_right (by decide) h
          have h4 : 1 * 2 ^ c ≤ n.natAbs * 2 ^ c := Nat.mul_le_mul_right _ (by omega)
          omega
      have key : ∀ q : Int, q.natAbs * 2 ≤ n.natAbs → ∃ c : Nat, q.natAbs * 2 ^ c ≤ 9223372036854775808 ∧ out.length + 1 ≤ c := by
        intro q hq
        refine ⟨c + 1, ?_, by omega⟩
        have : q.natAbs * 2 ^ (c + 1) ≤ n.natAbs * 2 ^ c := by
          rw [Nat.pow_succ, Nat.mul_comm (2 ^ c) 2, ← Nat.mul_assoc]
          exact Nat.mul_le_mul_right _ hq
        omega
      by_cases hn : 0 ≤ n
      · have e1 : Int.tmod n 1073741824 = n % 1073741824 := Int.tmod_eq_emod_of_nonneg hn
        have e2 : Int.tdiv n 1073741824 = n / 1073741824 := Int.tdiv_eq_ediv_of_nonneg hn
        obtain ⟨ds, hev, hd, ht, hv, hnil⟩ := ih (n / 1073741824) (out ++ [n % 1073741824]) (by omega) (by omega) (by omega) (by simpa using key (n / 1073741824) (by omega))
        refine ⟨n % 1073741824 :: ds, ev_eq (by simp) (Ev.step (fun k => ?_) hev), ⟨by omega, hd⟩, ⟨fun e => ?_, ht⟩, by simp only [V]; omega, fun h => absurd h hz⟩
        · rw [windhoverref00_Of.l0, if_neg hz, e1, e2, if_neg (by omega), if_pos (by omega), wsm (by omega) (by omega)]
        · rw [e] at hv; simp only [V] at hv; omega
      · obtain ⟨p, rfl⟩ : ∃ p, n = -p := ⟨-n, by omega⟩
        have hp : 0 ≤ p := by omega
        have e1 : Int.tmod (-p) 1073741824 = -(p % 1073741824) := by rw [Int.neg_tmod, Int.tmod_eq_emod_of_nonneg hp]
        have e2 : Int.tdiv (-p) 1073741824 = -(p / 1073741824) := by rw [Int.neg_tdiv, Int.tdiv_eq_ediv_of_nonneg hp]
        obtain ⟨ds, hev, hd, ht, hv, hnil⟩ := ih (-(p / 1073741824)) (out ++ [p % 1073741824]) (by omega) (by omega) (by omega) (by simpa using key (-(p / 1073741824)) (by omega))
        refine ⟨p % 1073741824 :: ds, ev_eq (by simp) (Ev.step (fun k => ?_) hev), ⟨by omega, hd⟩, ⟨fun e => ?_, ht⟩, by simp only [V]; omega, fun h => absurd h hz⟩
        · rw [windhoverref00_Of.l0, if_neg hz, e1, e2]
          by_cases z : p % 1073741824 = 0
          · rw [if_neg (by omega), if_pos (by omega), wsm (by omega) (by omega), z]; rfl
          · rw [if_pos (by omega), if_pos (by omega), wsm (a := -(p / 1073741824)) (by omega) (by omega), Int.neg_neg, wsm (by omega) (by omega)]
        · rw [e] at hv; simp only [V] at hv; omega
theorem of_ev (n : Int) (h1 : -9223372036854775808 ≤ n) (h2 : n ≤ 9223372036854775807) : ∃ b d, Ev (fun k => windhoverref00_Of.f k n) (b, d) ∧ W 3 b d n := by
  obtain ⟨ds, hev, hd, ht, hv, hnil⟩ := of_loop (decide (n < 0)) n.natAbs n [] (Nat.le_refl _) h1 h2 ⟨0, by omega, by simp⟩
  refine ⟨decide (n < 0), ds, Ev.congr (fun k => by rw [windhoverref00_Of.f]) (ev_eq (by simp) hev), hd, ht, fun h => ?_, ?_, (len_of hd ht).2.2.1 (by omega)⟩
  · intro e
    rw [e] at hv
    simp only [V] at hv
    simp at h
    omega
  · by_cases h : n < 0
    · rw [if_pos (by simpa using h)]; omega
    · rw [if_neg (by simpa using h)]; omega
theorem W_range {L : Nat} {b : Bool} {d : List Int} {n : Int} (h : W L b d n) : (b = true → n < 0) ∧ (b = false → 0 ≤ n) := by
  obtain ⟨hd, ht, hb, hn, _⟩ := h
  have h0 := V_nonneg d hd
  refine ⟨fun e => ?_, fun e => ?_⟩
  · have := V_pos d hd ht (hb e); rw [if_pos e] at hn; omega
  · rw [e, if_neg (by decide)] at hn; omega
theorem plus_ev {L : Nat} {a b : Bool} {x y : List Int} {m n : Int} (hx : W L a x m) (hy : W L b y n) (hL : L ≤ 900) : ∃ c z, Ev (fun k => windhoverref00_Plus.f k a x b y) (c, z) ∧ W (L + 1) c z (m + n) := by
  obtain ⟨dx, tx, bx, ex, lx⟩ := hx
  obtain ⟨dy, ty, by', ey, ly⟩ := hy
  have vx := V_nonneg x dx
  have vy := V_nonneg y dy
  by_cases hab : a = b
  · subst hab
    obtain ⟨s1, s2, s3⟩ := addL_spec x y 0 dx dy (by decide) (by decide)
    refine ⟨a, trimL (addL x y 0), Ev.congr (fun k => ?_) (Ev.bind (f := fun _ t => some (a, t)) (addf_ev x y dx dy (by omega) (by omega)) (Ev.now _)), Dg_trimL _ s2, Trm_trimL _, fun h => ?_, ?_, ?_⟩
    · rw [windhoverref00_Plus.f, if_pos (by simp)]
    · intro e
      have := V_trimL (addL x y 0)
      rw [e, s1] at this
      simp only [V] at this
      have := V_pos x dx tx (bx h)
      omega
    · rw [V_trimL, s1]
      cases a <;> simp at ex ey ⊢ <;> omega
    · have := trimL_len (addL x y 0); omega
  · have hne : ¬ ((a == b) = true) := by simpa using hab
    obtain ⟨r, hr, hs⟩ := sizef_ev x y dx dy tx ty (by omega)
    rcases hs with ⟨rfl, hlt⟩ | ⟨rfl, heq⟩ | ⟨rfl, hgt⟩
    · have hlen : x.length ≤ y.length := by
        rcases Nat.lt_or_ge y.length x.length with h | h
        · have := V_lt_len y x dy dx tx h; omega
        · exact h
      obtain ⟨s1, s2, s3⟩ := lessL_spec y x 0 dy dx hlen (by decide) (by decide) (by omega)
      refine ⟨b, trimL (lessL y x 0), Ev.congr (fun k => ?_) (Ev.bind (f := fun k t => if t = 0 then some (false, []) else if t > 0 then (windhoverref00_less.f k x y).bind fun z => some (a, z) else (windhoverref00_less.f k y x).bind fun z => some (b, z)) hr ?_), Dg_trimL _ s2, Trm_trimL _, fun h => ?_, ?_, ?_⟩
      · rw [windhoverref00_Plus.f, if_neg hne]
      · exact Ev.congr (fun k => by rw [if_neg (by decide), if_neg (by decide)]) (Ev.bind (f := fun _ z => some (b, z)) (lessf_ev y x dy dx (by omega) hlen) (Ev.now _))
      · intro e
        have := V_trimL (lessL y x 0)
        rw [e, s1] at this
        simp only [V] at this
        omega
      · rw [V_trimL, s1]
        cases a <;> cases b <;> simp at ex ey hab ⊢ <;> omega
      · have := trimL_len (lessL y x 0); omega
    · refine ⟨false, [], Ev.congr (fun k => ?_) (Ev.bind (f := fun k t => if t = 0 then some (false, []) else if t > 0 then (windhoverref00_less.f k x y).bind fun z => some (a, z) else (windhoverref00_less.f k y x).bind fun z => some (b, z)) hr ?_), trivial, trivial, by simp, ?_, by simp⟩
      · rw [windhoverref00_Plus.f, if_neg hne]
      · exact Ev.congr (fun k => by rw [if_pos rfl]) (Ev.now _)
      · cases a <;> cases b <;> simp [V] at ex ey hab ⊢ <;> omega
    · have hlen : y.length ≤ x.length := by
        rcases Nat.lt_or_ge x.length y.length with h | h
        · have := V_lt_len x y dx dy ty h; omega
        · exact h
      obtain ⟨s1, s2, s3⟩ := lessL_spec x y 0 dx dy hlen (by decide) (by decide) (by omega)
      refine ⟨a, trimL (lessL x y 0), Ev.congr (fun k => ?_) (Ev.bind (f := fun k t => if t = 0 then some (false, []) else if t > 0 then (windhoverref00_less.f k x y).bind fun z => some (a, z) else (windhoverref00_less.f k y x).bind fun z => some (b, z)) hr ?_), Dg_trimL _ s2, Trm_trimL _, fun h => ?_, ?_, ?_⟩
      · rw [windhoverref00_Plus.f, if_neg hne]
      · exact Ev.congr (fun k => by rw [if_neg (by decide), if_pos (by decide)]) (Ev.bind (f := fun _ z => some (a, z)) (lessf_ev x y dx dy (by omega) hlen) (Ev.now _))
      · intro e
        have := V_trimL (lessL x y 0)
        rw [e, s1] at this
        simp only [V] at this
        omega
      · rw [V_trimL, s1]
        cases a <;> cases b <;> simp at ex ey hab ⊢ <;> omega
      · have := trimL_len (lessL x y 0); omega

theorem cmp_ev {L : Nat} {a b : Bool} {x y : List Int} {m n : Int} (hx : W L a x m) (hy : W L b y n) (hL : L ≤ 1000) : ∃ r, Ev (fun k => windhoverref00_Cmp.f k a x b y) r ∧ Sg m n r := by
  have rx := W_range hx
  have ry := W_range hy
  obtain ⟨dx, tx, bx, ex, lx⟩ := hx
  obtain ⟨dy, ty, by', ey, ly⟩ := hy
  by_cases hab : a = b
  · subst hab
    obtain ⟨r, hr, hs⟩ := sizef_ev x y dx dy tx ty (by omega)
    cases a
    · refine ⟨r, Ev.congr (fun k => ?_) (Ev.bind (f := fun _ t => some t) hr (Ev.now _)), ?_⟩
      · rw [windhoverref00_Cmp.f, if_neg (by decide)]; rfl
      · simp at ex ey; rw [ex, ey]; exact hs
    · refine ⟨-r, Ev.congr (fun k => ?_) (Ev.bind (f := fun _ t => some (wrap64 (-t))) hr (ev_eq ?_ (Ev.now _))), ?_⟩
      · rw [windhoverref00_Cmp.f, if_neg (by decide)]; rfl
      · rcases hs with ⟨rfl, _⟩ | ⟨rfl, _⟩ | ⟨rfl, _⟩ <;> exact (wsm (by decide) (by decide)).symm
      · simp at ex ey; unfold Sg at *; omega
  · cases a <;> cases b
    · exact absurd rfl hab
    · refine ⟨1, Ev.congr (fun k => ?_) (Ev.now _), .inr (.inr ⟨rfl, by have := rx.2 rfl; have := ry.1 rfl; omega⟩)⟩
      rw [windhoverref00_Cmp.f, if_pos (by decide), if_neg (by decide)]
    · refine ⟨-1, Ev.congr (fun k => ?_) (Ev.now _), .inl ⟨rfl, by have := rx.1 rfl; have := ry.2 rfl; omega⟩⟩
      rw [windhoverref00_Cmp.f, if_pos (by decide), if_pos rfl]
    · exact absurd rfl hab
theorem V_drop_le : ∀ (l : List Int) (i : Nat), Dg l → V (l.drop i) ≤ V l
  | [], _, _ => by simp
  | d :: ds, 0, _ => by simp
  | d :: ds, i + 1, h => by
    have := V_drop_le ds i h.2
    have := V_nonneg ds h.2
    have := h.1
    simp only [List.drop_succ_cons, V]; omega
theorem int_loop (d : List Int) (hd : Dg d) (hl : d.length ≤ 1000) (b : Bool) (hv : V d ≤ 9223372036854775807 + (if b = true then 1 else 0)) : ∀ (i : Nat), i ≤ d.length →
    Ev (fun k => windhoverref00_Int.l0 k (if b = true then -V (d.drop i) else V (d.drop i)) ((i : Int) - 1) b d) (if b = true then -V d else V d, true) := by
  intro i
  induction i with
  | zero =>
    intro _
    rw [List.drop_zero]
    refine Ev.step (f := fun _ => some (if b = true then -V d else V d, true)) (fun k => ?_) (Ev.now _)
    rw [windhoverref00_Int.l0, if_neg (by omega)]
  | succ i ih =>
    intro hi
    have p : i < d.length := by omega
    have hx := Dg_rd hd p
    have e1 : (((i + 1 : Nat) : Int) - 1) = (i : Int) := by omega
    have e2 : wrap64 ((i : Int) - 1) = (i : Int) - 1 := wsm (by omega) (by omega)
    have hle := V_drop_le d i hd
    have hn := V_nonneg _ (Dg_drop d (i + 1) hd)
    have hdr : V (d.drop i) = rd d i + 1073741824 * V (d.drop (i + 1)) := by rw [drop_rd d i p]; rfl
    rw [e1]
    refine Ev.step (fun k => ?_) (ih (by omega))
    cases b
    · simp only [Bool.false_eq_true, if_false] at hv ⊢
      rw [windhoverref00_Int.l0, if_pos (by omega), if_neg (by decide), if_pos (by omega), if_pos (by omega), e2, wsm (a := V _ * 1073741824) (by omega) (by omega), wsm (by omega) (by omega), hdr]
      congr 1; omega
    · simp only [if_true] at hv ⊢
      rw [windhoverref00_Int.l0, if_pos (by omega), if_pos rfl, if_pos (by omega), if_pos (by omega), e2, wsm (a := -V _ * 1073741824) (by omega) (by omega), wsm (by omega) (by omega), hdr]
      congr 1; omega
theorem int_ev {L : Nat} {b : Bool} {d : List Int} {n : Int} (h : W L b d n) (hL : L ≤ 900) : Ev (fun k => windhoverref00_Int.f k b d) (if -9223372036854775808 ≤ n ∧ n ≤ 9223372036854775807 then (n, true) else (0, false)) := by
  obtain ⟨b1, d1, o1, w1⟩ := of_ev (-9223372036854775808) (by decide) (by decide)
  obtain ⟨b2, d2, o2, w2⟩ := of_ev 9223372036854775807 (by decide) (by decide)
  obtain ⟨r1, c1, s1⟩ := cmp_ev (h.mono (show L ≤ L + 3 by omega)) (w1.mono (show 3 ≤ L + 3 by omega)) (by omega)
  obtain ⟨r2, c2, s2⟩ := cmp_ev (h.mono (show L ≤ L + 3 by omega)) (w2.mono (show 3 ≤ L + 3 by omega)) (by omega)
  obtain ⟨hd, ht, hb, hn, hl⟩ := h
  have stop : Ev (fun k => windhoverref00_Int.j0 k true b d) (0, false) := by
    refine Ev.step (f := fun _ => some (0, false)) (fun k => ?_) (Ev.now _)
    rw [windhoverref00_Int.j0, if_pos rfl]
  refine Ev.congr (fun k => by rw [windhoverref00_Int.f]) (Ev.bind o1 (Ev.bind c1 ?_))
  by_cases hlow : n < -9223372036854775808
  · obtain rfl : r1 = -1 := by unfold Sg at s1; omega
    rw [if_neg (by omega)]
    exact Ev.congr (fun k => by rw [if_pos (by decide)]) stop
  · have hr1 : ¬ r1 < 0 := by unfold Sg at s1; omega
    refine Ev.congr (fun k => by rw [if_neg hr1]) (Ev.bind o2 (Ev.bind c2 ?_))
    by_cases hhigh : n > 9223372036854775807
    · obtain rfl : r2 = 1 := by unfold Sg at s2; omega
      rw [if_neg (by omega)]
      exact Ev.congr (fun k => by rw [show decide ((1 : Int) > 0) = true from by decide]) stop
    · have hr2 : decide (r2 > 0) = false := by unfold Sg at s2; simp; omega
      rw [if_pos ⟨by omega, by omega⟩]
      have hv : V d ≤ 9223372036854775807 + (if b = true then 1 else 0) := by cases b <;> simp at hn ⊢ <;> omega
      have hi := int_loop d hd (by omega) b hv d.length (Nat.le_refl _)
      rw [List.drop_of_length_le (Nat.le_refl _), ← hn] at hi
      simp only [V, Int.neg_zero, ite_self] at hi
      refine Ev.congr (fun k => by rw [hr2]) (Ev.step (fun k => ?_) hi)
      rw [windhoverref00_Int.j0, if_neg (by decide), wsm (by omega) (by omega)]
/-- A whole number, kept within an int. -/
def sat (n : Int) : Int := if n > 9223372036854775807 then 9223372036854775807 else if n < -9223372036854775808 then -9223372036854775808 else n
theorem kept_ev {L : Nat} {b : Bool} {d : List Int} {n : Int} (h : W L b d n) (hL : L ≤ 900) : Ev (fun k => windhoverref01_kept.f k b d) (sat n) := by
  have r := W_range h
  refine Ev.congr (fun k => by rw [windhoverref01_kept.f]) (Ev.bind (int_ev h hL) ?_)
  by_cases h1 : -9223372036854775808 ≤ n ∧ n ≤ 9223372036854775807
  · have e : sat n = n := by unfold sat; rw [if_neg (by omega), if_neg (by omega)]
    rw [e, if_pos h1]
    exact Ev.congr (fun k => by rw [if_pos rfl]) (Ev.now _)
  · rw [if_neg h1]
    cases b
    · have := r.2 rfl
      have e : sat n = 9223372036854775807 := by unfold sat; rw [if_pos (by omega)]
      rw [e]
      exact Ev.congr (fun k => by rw [if_neg (by decide), if_neg (by decide)]) (Ev.now _)
    · have := r.1 rfl
      have e : sat n = -9223372036854775808 := by unfold sat; rw [if_neg (by omega), if_pos (by omega)]
      rw [e]
      exact Ev.congr (fun k => by rw [if_neg (by decide), if_pos rfl]) (Ev.now _)
def I64 (n : Int) : Prop := -9223372036854775808 ≤ n ∧ n ≤ 9223372036854775807
theorem radd_ev {a b : Int} (ha : I64 a) (hb : I64 b) : Ev (fun k => windhoverref01_Add.f k a b) (sat (a + b)) := by
  obtain ⟨b1, d1, o1, w1⟩ := of_ev a ha.1 ha.2
  obtain ⟨b2, d2, o2, w2⟩ := of_ev b hb.1 hb.2
  obtain ⟨c, z, p, w⟩ := plus_ev w1 w2 (by decide)
  exact Ev.congr (fun k => by rw [windhoverref01_Add.f]) (Ev.bind o1 (Ev.bind o2 (Ev.bind p (Ev.bind (f := fun _ t => some t) (kept_ev w (by decide)) (Ev.now _)))))
theorem I64_of {a : Int} (h : (Lit.int .i64 a).wf = true) : I64 a := by
  simp [Lit.wf, IntKind.min, IntKind.max, IntKind.signed, IntKind.bits] at h
  unfold I64; omega

/-! ### Add, Sub, Mul: kept within an int -/
theorem add_ev' {a b : Int} (ha : I64 a) (hb : I64 b) : Ev (fun k => fix_Add.f k a b) (sat (a + b)) := by
  have key : ∀ c : Bool, c = decide (a > 0 ∧ b > 0 ∧ wrap64 (a + b) < 0) → Ev (fun k => fix_Add.j0 k a b (wrap64 (a + b)) c) (sat (a + b)) := by
    intro c hc
    refine Ev.step (f := fun _ => some (sat (a + b))) (fun k => ?_) (Ev.now _)
    rw [fix_Add.j0]
    unfold I64 at *
    have hw : (wrap64 (a + b) = a + b ∧ -9223372036854775808 ≤ a + b ∧ a + b ≤ 9223372036854775807) ∨ (wrap64 (a + b) = a + b - 18446744073709551616 ∧ a + b > 9223372036854775807) ∨ (wrap64 (a + b) = a + b + 18446744073709551616 ∧ a + b < -9223372036854775808) := by
      unfold wrap64; omega
    generalize wrap64 (a + b) = s at *
    unfold sat
    by_cases h : a > 0 ∧ b > 0 ∧ s < 0
    · rw [hc, if_pos (by simpa using h)]
      rw [if_pos (by omega)]
    · rw [hc, if_neg (by simpa using h)]
      by_cases h1 : a < 0
      · rw [if_pos h1]
        by_cases h2 : b < 0
        · rw [if_pos h2]
          by_cases h3 : s ≥ 0
          · rw [if_pos h3, if_neg (by omega), if_pos (by omega)]
          · rw [if_neg h3, if_neg (by omega), if_neg (by omega)]; congr 1; omega
        · rw [if_neg h2, if_neg (by omega), if_neg (by omega)]; congr 1; omega
      · rw [if_neg h1, if_neg (by omega), if_neg (by omega)]; congr 1; omega
  by_cases h1 : a > 0
  · by_cases h2 : b > 0
    · exact Ev.congr (fun k => by rw [fix_Add.f, if_pos h1, if_pos h2]) (key _ (by simp [h1, h2]))
    · exact Ev.congr (fun k => by rw [fix_Add.f, if_pos h1, if_neg h2]) (key _ (by simp [h2]))
  · exact Ev.congr (fun k => by rw [fix_Add.f, if_neg h1]) (key _ (by simp [h1]))
theorem same_loop {l : List Int} (hl : l.length ≤ 4611686018427387904) : ∀ (n i : Nat), i + n = l.length → Ev (fun k => windhoverref00_SameInts.l0 k l l (i : Int)) true := by
  intro n
  induction n with
  | zero => intro i h; exact Ev.step (f := fun _ => some true) (fun k => by rw [windhoverref00_SameInts.l0, if_neg (by omega)]) (Ev.now _)
  | succ n ih =>
    intro i h
    have w : wrap64 ((i : Int) + 1) = ((i + 1 : Nat) : Int) := by rw [wsm (by omega) (by omega)]; omega
    exact Ev.step (f := fun k => windhoverref00_SameInts.l0 k l l ((i + 1 : Nat) : Int)) (fun k => by rw [windhoverref00_SameInts.l0, if_pos (by omega), if_pos (by omega), if_pos (by omega), if_pos rfl, w]) (ih (i + 1) (by omega))
theorem same_ev {l : List Int} (hl : l.length ≤ 4611686018427387904) : Ev (fun k => windhoverref00_SameInts.f k l l) true :=
  Ev.congr (fun k => by rw [windhoverref00_SameInts.f, if_pos rfl]; rfl) (same_loop hl l.length 0 (by omega))

theorem lent_w4 {n : Nat} (h : n ≤ 17592186043904) : wrap64 ((n : Int) + 4) = (n : Int) + 4 := wsm (by omega) (by omega)
theorem lent_exit {x0 x3 : List Int} (h : x0.length ≤ x3.length) : Ev (fun k => windhoverkeep_Lent.l0 k x0 x3 4) x3 :=
  Ev.step (f := fun _ => some x3) (fun k => by rw [windhoverkeep_Lent.l0, if_neg (by decide), if_pos (by omega), if_pos (by omega)]) (Ev.now _)
theorem lent_round {x0 x3 : List Int} {i j : Int} {r : List Int} (hi : i < 4) (hj : wrap64 (i + 1) = j) (hl : x3.length < 17592186044416) (h : Ev (fun k => windhoverkeep_Lent.l0 k x0 (x3 ++ [-7770777]) j) r) : Ev (fun k => windhoverkeep_Lent.l0 k x0 x3 i) r :=
  Ev.step (f := fun k => windhoverkeep_Lent.l0 k x0 (x3 ++ [-7770777]) j) (fun k => by rw [windhoverkeep_Lent.l0, if_pos hi, if_pos hl, hj]) h
theorem lent_ev {l : List Int} (h : l.length ≤ 17592186043904) : Ev (fun k => windhoverkeep_Lent.f k l) (l ++ [-7770777, -7770777, -7770777, -7770777]) := by
  have e : l ++ [-7770777, -7770777, -7770777, -7770777] = (((l ++ [-7770777]) ++ [-7770777]) ++ [-7770777]) ++ [-7770777] := by simp
  refine Ev.congr (f := fun k => windhoverkeep_Lent.l0 k l l 0) (fun k => ?_) ?_
  · rw [windhoverkeep_Lent.f, lent_w4 h, if_pos (by omega), if_pos (by omega), Option.bind_some, if_pos (by simp; omega), List.nil_append]
  · rw [e]
    refine lent_round (j := 1) (by decide) (wsm (by decide) (by decide)) (by omega) ?_
    refine lent_round (j := 2) (by decide) (wsm (by decide) (by decide)) (by simp; omega) ?_
    refine lent_round (j := 3) (by decide) (wsm (by decide) (by decide)) (by simp; omega) ?_
    refine lent_round (j := 4) (by decide) (wsm (by decide) (by decide)) (by simp; omega) ?_
    exact lent_exit (by simp)
theorem kept_exit {x : List Int} {i : Int} (h : ¬ i < (x.length : Int)) : Ev (fun k => windhoverkeep_Kept.l0 k x i) true :=
  Ev.step (f := fun _ => some true) (fun k => by rw [windhoverkeep_Kept.l0, if_neg h]) (Ev.now _)
theorem kept_round {x : List Int} {i j : Int} {r : Bool} (hi : i < (x.length : Int)) (h0 : 0 ≤ i) (hm : rd x i = -7770777) (hj : wrap64 (i + 1) = j) (h : Ev (fun k => windhoverkeep_Kept.l0 k x j) r) : Ev (fun k => windhoverkeep_Kept.l0 k x i) r :=
  Ev.step (f := fun k => windhoverkeep_Kept.l0 k x j) (fun k => by rw [windhoverkeep_Kept.l0, if_pos hi, if_pos h0, if_pos hm, hj]) h
theorem rd_room {l m : List Int} (j : Nat) (i : Int) (hi : i = (l.length : Int) + (j : Int)) : rd (l ++ m) i = m.getD j 0 := by
  subst hi
  unfold rd
  rw [show ((l.length : Int) + (j : Int)).toNat = l.length + j by omega]
  simp [List.getD, List.getElem?_append_right]
theorem keep_ev {l : List Int} (h : l.length ≤ 17592186043904) : Ev (fun k => windhoverkeep_Kept.f k (l ++ [-7770777, -7770777, -7770777, -7770777]) l) true := by
  refine Ev.congr (fun k => by rw [windhoverkeep_Kept.f, List.take_left]) ?_
  refine Ev.bind (same_ev (by omega)) ?_
  have hl : ((l ++ [-7770777, -7770777, -7770777, -7770777] : List Int).length : Int) = (l.length : Int) + 4 := by simp
  have ht : (l ++ [-7770777, -7770777, -7770777, -7770777] : List Int).take ((l.length : Int) + 4).toNat = l ++ [-7770777, -7770777, -7770777, -7770777] := List.take_of_length_le (by simp; omega)
  refine Ev.congr (f := fun k => windhoverkeep_Kept.l0 k (l ++ [-7770777, -7770777, -7770777, -7770777]) (l.length : Int)) (fun k => by rw [if_pos rfl, lent_w4 h, if_pos (by omega), if_pos (by omega), ht]) ?_
  have w : ∀ j : Nat, j ≤ 4 → wrap64 ((l.length : Int) + (j : Int) + 1) = (l.length : Int) + ((j + 1 : Nat) : Int) := fun j hj => by rw [wsm (by omega) (by omega)]; omega
  refine kept_round (j := (l.length : Int) + ((1 : Nat) : Int)) (by omega) (by omega) (by rw [rd_room 0 _ (by simp)]; rfl) (by have := w 0 (by decide); simpa using this) ?_
  refine kept_round (j := (l.length : Int) + ((2 : Nat) : Int)) (by omega) (by omega) (by rw [rd_room 1 _ (by simp)]; rfl) (w 1 (by decide)) ?_
  refine kept_round (j := (l.length : Int) + ((3 : Nat) : Int)) (by omega) (by omega) (by rw [rd_room 2 _ (by simp)]; rfl) (w 2 (by decide)) ?_
  refine kept_round (j := (l.length : Int) + ((4 : Nat) : Int)) (by omega) (by omega) (by rw [rd_room 3 _ (by simp)]; rfl) (w 3 (by decide)) ?_
  exact kept_exit (by omega)

def Fin1 (x1 : Int) (x7 : List Int) : List Int := if x1 = 1 then x7.set (0 : Int).toNat (Int.tmod (wrap64 ((Int.tmod (rd x7 0) 65536) + 65536)) 65536) else x7
theorem fin1_len (x1 : Int) (x7 : List Int) : (Fin1 x1 x7).length = x7.length := by unfold Fin1; split <;> simp
theorem sees_fin {x1 : Int} {x2 x7 : List Int} {m : Int} (hm : m = (x7.length : Int)) (hp : x1 = 1 → 0 < (x7.length : Int)) : Ev (fun k => world_Sees.l0 k x1 x2 x7 m m) (Fin1 x1 x7) := by
  by_cases h : x1 = 1
  · exact Ev.step (f := fun _ => some (Fin1 x1 x7)) (fun k => by rw [world_Sees.l0, if_neg (Int.lt_irrefl m), if_pos h, if_pos (hp h), world_within.f, if_neg (by decide), Option.bind_some]; unfold Fin1; rw [if_pos h]) (Ev.now _)
  · exact Ev.step (f := fun _ => some (Fin1 x1 x7)) (fun k => by rw [world_Sees.l0, if_neg (Int.lt_irrefl m), if_neg h]; unfold Fin1; rw [if_neg h]) (Ev.now _)
theorem sees_rest {x1 : Int} {x2 x7 : List Int} (hp : x1 = 1 → 0 < (x7.length : Int)) (h4 : x7.length ≤ 4) : ∀ (n i : Nat), i + n = x7.length → x2.length ≤ i → Ev (fun k => world_Sees.l0 k x1 x2 x7 (x7.length : Int) (i : Int)) (Fin1 x1 x7) := by
  intro n
  induction n with
  | zero => intro i h _; have e : (i : Int) = (x7.length : Int) := by omega
            rw [e]; exact sees_fin rfl hp
  | succ n ih =>
    intro i h hl
    have w : wrap64 ((i : Int) + 1) = ((i + 1 : Nat) : Int) := by rw [wsm (by omega) (by omega)]; omega
    exact Ev.step (f := fun k => world_Sees.l0 k x1 x2 x7 (x7.length : Int) ((i + 1 : Nat) : Int)) (fun k => by rw [world_Sees.l0, if_pos (by omega), if_neg (by omega), w]) (ih (i + 1) (by omega) (by omega))
theorem rsees_fin {x1 : Int} {x2 x7 : List Int} {i : Int} (hi : ¬ i < (x7.length : Int) ∨ ¬ i < (x2.length : Int)) (hp : x1 = 1 → 0 < (x7.length : Int)) : Ev (fun k => windhoverref23_Sees.l0 k x1 x2 x7 i) (Fin1 x1 x7) := by
  refine Ev.step (f := fun _ => some (Fin1 x1 x7)) (fun k => ?_) (Ev.now _)
  rw [windhoverref23_Sees.l0]
  unfold Fin1
  by_cases h : x1 = 1
  · have hq := hp h
    rw [if_pos h, if_pos h, if_pos hq]
    rcases hi with g | g
    · rw [if_neg g]
    · rw [if_neg g]; split <;> rfl
  · rw [if_neg h, if_neg h]
    rcases hi with g | g
    · rw [if_neg g]
    · rw [if_neg g]; split <;> rfl
theorem rd_I {l : List Int} (h : ∀ x ∈ l, I64 x) {i : Nat} (hi : i < l.length) : I64 (rd l (i : Int)) := by
  rw [rd_nat, List.getD_eq_getElem?_getD, List.getElem?_eq_getElem hi]
  exact h _ (List.getElem_mem hi)
theorem set_I {l : List Int} (h : ∀ x ∈ l, I64 x) {v : Int} (hv : I64 v) (i : Nat) : ∀ x ∈ l.set i v, I64 x := by
  intro x hx
  rcases List.mem_or_eq_of_mem_set hx with q | q
  · exact h x q
  · rw [q]; exact hv
theorem sat_I (a : Int) : I64 (sat a) := by
  unfold sat I64
  split
  · omega
  · split <;> omega
theorem sees_loop {x1 : Int} {x2 : List Int} (h2 : ∀ x ∈ x2, I64 x) : ∀ (n i : Nat) (x7 : List Int), i + n = x7.length → x7.length ≤ 4 → (x1 = 1 → 0 < (x7.length : Int)) → (∀ x ∈ x7, I64 x) →
    ∃ v, v.length ≤ 4 ∧ Ev (fun k => world_Sees.l0 k x1 x2 x7 (x7.length : Int) (i : Int)) v ∧ Ev (fun k => windhoverref23_Sees.l0 k x1 x2 x7 (i : Int)) v := by
  intro n
  induction n with
  | zero =>
    intro i x7 h h4 hp _
    have e : (i : Int) = (x7.length : Int) := by omega
    exact ⟨Fin1 x1 x7, by rw [fin1_len]; exact h4, by rw [e]; exact sees_fin rfl hp, rsees_fin (.inl (by omega)) hp⟩
  | succ n ih =>
    intro i x7 h h4 hp h7
    by_cases hl : i < x2.length
    · have w : wrap64 ((i : Int) + 1) = ((i + 1 : Nat) : Int) := by rw [wsm (by omega) (by omega)]; omega
      have A := add_ev' (rd_I h7 (show i < x7.length by omega)) (rd_I h2 hl)
      have B := radd_ev (rd_I h7 (show i < x7.length by omega)) (rd_I h2 hl)
      generalize hv : sat (rd x7 (i : Int) + rd x2 (i : Int)) = v at A B
      have hvI : I64 v := by rw [← hv]; exact sat_I _
      have e7 : (x7.set i v).length = x7.length := by simp
      obtain ⟨u, q1, q2, q3⟩ := ih (i + 1) (x7.set i v) (by rw [e7]; omega) (by rw [e7]; exact h4) (by rw [e7]; exact hp) (set_I h7 hvI i)
      rw [e7] at q2
      refine ⟨u, q1, ?_, ?_⟩
      · refine Ev.step (f := fun k => (fix_Add.f k (rd x7 (i : Int)) (rd x2 (i : Int))).bind fun t => world_Sees.l0 k x1 x2 (x7.set (i : Int).toNat t) (x7.length : Int) ((i + 1 : Nat) : Int)) (fun k => by rw [world_Sees.l0, if_pos (by omega), if_pos (by omega), if_pos (by omega), if_pos (by omega), w]) ?_
        refine Ev.bind A ?_
        rw [Int.toNat_natCast]
        exact q2
      · refine Ev.step (f := fun k => (windhoverref01_Add.f k (rd x7 (i : Int)) (rd x2 (i : Int))).bind fun t => windhoverref23_Sees.l0 k x1 x2 (x7.set (i : Int).toNat t) ((i + 1 : Nat) : Int)) (fun k => by rw [windhoverref23_Sees.l0, if_pos (by omega), if_pos (by omega), if_pos (by omega), w]) ?_
        refine Ev.bind B ?_
        rw [Int.toNat_natCast]
        exact q3
    · exact ⟨Fin1 x1 x7, by rw [fin1_len]; exact h4, sees_rest hp h4 (n + 1) i h (by omega), rsees_fin (.inr (by omega)) hp⟩
theorem sees_j {x1 : Int} {x2 x7 : List Int} (h2 : ∀ x ∈ x2, I64 x) (h4 : x7.length ≤ 4) (hp : x1 = 1 → 0 < (x7.length : Int)) (h7 : ∀ x ∈ x7, I64 x) : ∃ v, v.length ≤ 4 ∧ Ev (fun k => world_Sees.j0 k x1 x2 x7) v ∧ Ev (fun k => windhoverref23_Sees.j0 k x1 x2 x7) v := by
  obtain ⟨v, q1, q2, q3⟩ := sees_loop h2 x7.length 0 x7 (by omega) h4 hp h7
  exact ⟨v, q1, Ev.step (fun k => by rw [world_Sees.j0]; rfl) q2, Ev.step (fun k => by rw [windhoverref23_Sees.j0]; rfl) q3⟩
theorem down_fl (d : Int) (hd : 1 ≤ d) (m : Int) : ∃ q, fix_Down.f m d = some (q, 0) ∧ windhoverref01_Floor.f m d = some q ∧ I64 q := by
  have wI : ∀ a : Int, I64 (wrap64 a) := fun a => by unfold I64 wrap64; omega
  rw [fix_Down.f, windhoverref01_Floor.f, if_neg (show ¬ d < 1 by omega), if_neg (show ¬ d = 0 by omega), if_neg (show ¬ d = 0 by omega)]
  by_cases h : Int.tmod m d < 0
  · exact ⟨wrap64 (wrap64 (Int.tdiv m d) - 1), by rw [if_pos h], by rw [if_pos h], wI _⟩
  · exact ⟨wrap64 (Int.tdiv m d), by rw [if_neg h], by rw [if_neg h], wI _⟩
theorem awake23_ev : Ev (fun k => windhoverlaw23_awake.f k) true := by
  have h : windhoverlaw23_awake.f 60 = some true := by decide +kernel
  exact Ev.of (fun k => windhoverlaw23_awake.mono k) h
theorem sees_both {a0 a1 a2 a3 a4 a5 a6 a7 a8 s : Int} {l : List Int} (i3 : I64 a3) (i4 : I64 a4) (i5 : I64 a5) (i7 : I64 a7) (h2 : ∀ x ∈ l, I64 x) : ∃ v, v.length ≤ 4 ∧ Ev (fun k => world_Sees.f k a0 a1 a2 a3 a4 a5 a6 a7 a8 s l) v ∧ Ev (fun k => windhoverref23_Sees.f k a0 a1 a2 a3 a4 a5 a6 a7 a8 s l) v := by
  have z0 : I64 0 := by unfold I64; omega
  by_cases c1 : s = 1
  · obtain ⟨q, p1, p2, p3⟩ := down_fl 16 (by decide) a6
    obtain ⟨v, q1, q2, q3⟩ := sees_j (x1 := s) (x7 := [q, a7, 0, 0]) h2 (by simp) (by simp) (by intro x hx; simp at hx; rcases hx with rfl | rfl | rfl; exact p3; exact i7; exact z0)
    exact ⟨v, q1, Ev.congr (fun k => by rw [world_Sees.f, if_pos c1, p1, Option.bind_some]) q2, Ev.congr (fun k => by rw [windhoverref23_Sees.f, if_pos c1, p2, Option.bind_some]) q3⟩
  · by_cases c2 : s = 2
    · obtain ⟨q, p1, p2, p3⟩ := down_fl 6400 (by decide) a2
      obtain ⟨v, q1, q2, q3⟩ := sees_j (x1 := s) (x7 := [q, a5]) h2 (by simp) (by simp) (by intro x hx; simp at hx; rcases hx with rfl | rfl; exact p3; exact i5)
      exact ⟨v, q1, Ev.congr (fun k => by rw [world_Sees.f, if_neg c1, if_pos c2, world_mm.f, p1, Option.bind_some, Option.bind_some]) q2, Ev.congr (fun k => by rw [windhoverref23_Sees.f, if_neg c1, if_pos c2, p2, Option.bind_some]) q3⟩
    · by_cases c3 : s = 3
      · obtain ⟨q, p1, p2, p3⟩ := down_fl 6400 (by decide) a0
        obtain ⟨u, r1, r2, r3⟩ := down_fl 6400 (by decide) a1
        obtain ⟨v, q1, q2, q3⟩ := sees_j (x1 := s) (x7 := [q, u, a3, a4]) h2 (by simp) (by simp) (by intro x hx; simp at hx; rcases hx with rfl | rfl | rfl | rfl; exact p3; exact r3; exact i3; exact i4)
        exact ⟨v, q1, Ev.congr (fun k => by rw [world_Sees.f, if_neg c1, if_neg c2, if_pos c3, world_mm.f, world_mm.f, p1, r1, Option.bind_some, Option.bind_some, Option.bind_some, Option.bind_some]) q2, Ev.congr (fun k => by rw [windhoverref23_Sees.f, if_neg c1, if_neg c2, if_pos c3, p2, r2, Option.bind_some, Option.bind_some]) q3⟩
      · obtain ⟨v, q1, q2, q3⟩ := sees_j (x1 := s) (x7 := []) h2 (by simp) (fun h => absurd h c1) (by intro x hx; simp at hx)
        exact ⟨v, q1, Ev.congr (fun k => by rw [world_Sees.f, if_neg c1, if_neg c2, if_neg c3]) q2, Ev.congr (fun k => by rw [windhoverref23_Sees.f, if_neg c1, if_neg c2, if_neg c3]) q3⟩
theorem WorldSees : windhoverlaw23_WorldSees.Pure := by
  intro a0 a1 a2 a3 a4 a5 a6 a7 a8 s l _ _ _ w3 w4 w5 _ w7 _ _ _ hl hw
  have h : l.length ≤ 17592186043904 := by omega
  have h2 : ∀ x ∈ l, I64 x := fun x hx => I64_of (hw x hx)
  obtain ⟨v, q1, q2, q3⟩ := sees_both (a0 := a0) (a1 := a1) (a2 := a2) (a6 := a6) (a8 := a8) (s := s) (I64_of w3) (I64_of w4) (I64_of w5) (I64_of w7) h2
  clear w3 w4 w5 w7 hw hl
  apply Ev.rounds
  refine Ev.congr (fun k => by rw [windhoverlaw23_WorldSees.f]) ?_
  refine Ev.bind (lent_ev h) ?_
  refine Ev.congr (fun k => by rw [if_pos (by simp), List.take_left]) ?_
  refine Ev.bind q2 ?_
  refine Ev.bind q2 ?_
  refine Ev.bind q3 ?_
  refine Ev.bind (same_ev (by omega)) ?_
  refine Ev.congr (fun k => by rw [if_pos rfl]) ?_
  refine Ev.bind (same_ev (by omega)) ?_
  refine Ev.congr (fun k => by rw [if_pos rfl]) ?_
  refine Ev.bind (keep_ev h) ?_
  have hA : windhoverkeep_Apart.f [v, v] = some true := by
    unfold windhoverkeep_Apart.f
    rw [if_pos]
    simp
    omega
  refine Ev.step (f := fun k => (windhoverlaw23_awake.f k).bind fun t => some t) (fun k => by rw [windhoverlaw23_WorldSees.j0, if_neg (by decide), hA, Option.bind_some, if_pos rfl]) ?_
  exact Ev.bind awake23_ev (Ev.now true)

end Go.Proofs.Ytbgggogkblkopaa.Pure
