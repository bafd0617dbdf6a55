/- The law FixRoots: a root of fix is the greatest int whose square is not above the number, and zero below zero. -/
import Derived.Test.YtmjhhcalcpodjaaPFixRootsx6
namespace Go.Proofs.Ytmjhhcalcpodjaa.Pure
open Go.RowKit Go.Proofs.Ytmjhhcalcpodjaa.PFixRoots Go.Proofs.YtmjhhcalcpodjaaW.PrintWords Go.Proofs.YtmjhhcalcpodjaaW.PrintLast

set_option linter.unusedVariables false
set_option linter.unusedSimpArgs false
/-! ### Whole numbers of any length, by digits of 2^30: the plain lists -/
def V : List Int → Int
  | [] => 0
  | d :: ds => d + 1073741824 * V ds
def Dg : List Int → Prop
  | [] => True
  | d :: ds => (0 ≤ d ∧ d < 1073741824) ∧ Dg ds
def Trm : List Int → Prop
  | [] => True
  | d :: ds => (ds = [] → d ≠ 0) ∧ Trm ds
theorem V_nonneg : ∀ l, Dg l → 0 ≤ V l
  | [], _ => Int.le_refl _
  | d :: ds, h => by have := V_nonneg ds h.2; have := h.1; simp only [V]; omega
theorem V_pos : ∀ l, Dg l → Trm l → l ≠ [] → 0 < V l
  | [], _, _, h => absurd rfl h
  | d :: ds, h, t, _ => by
    have hn := V_nonneg ds h.2
    have := h.1
    simp only [V]
    by_cases e : ds = []
    · have := t.1 e; omega
    · have := V_pos ds h.2 t.2 e; omega
theorem V_lt_len : ∀ a b, Dg a → Dg b → Trm b → a.length < b.length → V a < V b
  | [], b, _, hb, tb, h => V_pos b hb tb (by intro e; simp [e] at h)
  | x :: xs, [], _, _, _, h => by simp at h
  | x :: xs, y :: ys, ha, hb, tb, h => by
    have := V_lt_len xs ys ha.2 hb.2 tb.2 (by simpa using h)
    have := ha.1; have := hb.1
    simp only [V]; omega
def Sg (x y r : Int) : Prop := (r = -1 ∧ x < y) ∨ (r = 0 ∧ x = y) ∨ (r = 1 ∧ x > y)
def cmpL : List Int → List Int → Int
  | x :: xs, y :: ys => if cmpL xs ys ≠ 0 then cmpL xs ys else if x < y then -1 else if x > y then 1 else 0
  | _, _ => 0
theorem cmpL_spec : ∀ a b, Dg a → Dg b → a.length = b.length → Sg (V a) (V b) (cmpL a b)
  | [], [], _, _, _ => by simp [cmpL, Sg]
  | [], y :: ys, _, _, h => by simp at h
  | x :: xs, [], _, _, h => by simp at h
  | x :: xs, y :: ys, ha, hb, h => by
    have ih := cmpL_spec xs ys ha.2 hb.2 (by simpa using h)
    have := ha.1; have := hb.1
    unfold Sg at *
    simp only [V, cmpL]
    by_cases e : cmpL xs ys ≠ 0
    · rw [if_pos e]; omega
    · rw [if_neg e]
      by_cases l : x < y
      · rw [if_pos l]; omega
      · rw [if_neg l]
        by_cases g : x > y
        · rw [if_pos g]; omega
        · rw [if_neg g]; omega
theorem cmpL_drop : ∀ (n : Nat) (a b : List Int), cmpL (a.drop n) (b.drop n) ≠ 0 → cmpL a b = cmpL (a.drop n) (b.drop n)
  | 0, _, _, _ => rfl
  | n + 1, [], b, h => by simp [cmpL] at h
  | n + 1, x :: xs, [], h => by simp [cmpL] at h
  | n + 1, x :: xs, y :: ys, h => by
    have ih := cmpL_drop n xs ys h
    simp only [List.drop_succ_cons] at *
    rw [← ih] at h ⊢
    simp only [cmpL, if_pos h]
def trimL : List Int → List Int
  | [] => []
  | d :: ds => if trimL ds = [] then (if d = 0 then [] else [d]) else d :: trimL ds
theorem V_trimL : ∀ l, V (trimL l) = V l
  | [] => rfl
  | d :: ds => by
    have ih := V_trimL ds
    unfold trimL
    by_cases e : trimL ds = []
    · rw [if_pos e]
      rw [e] at ih
      simp only [V] at ih
      by_cases z : d = 0
      · rw [if_pos z]; simp only [V]; omega
      · rw [if_neg z]; simp only [V]; omega
    · rw [if_neg e]; simp only [V]; omega
theorem Dg_trimL : ∀ l, Dg l → Dg (trimL l)
  | [], _ => trivial
  | d :: ds, h => by
    have ih := Dg_trimL ds h.2
    unfold trimL
    split
    · split
      · exact trivial
      · exact ⟨h.1, trivial⟩
    · exact ⟨h.1, ih⟩
theorem Trm_trimL : ∀ l, Trm (trimL l)
  | [] => trivial
  | d :: ds => by
    have ih := Trm_trimL ds
    unfold trimL
    split
    · split
      · exact trivial
      · next z => exact ⟨fun _ => z, trivial⟩
    · next e => exact ⟨fun q => absurd q e, ih⟩
theorem trimL_len : ∀ l, (trimL l).length ≤ l.length
  | [] => Nat.le_refl _
  | d :: ds => by
    have ih := trimL_len ds
    unfold trimL
    split
    · split <;> simp
    · simpa using ih
theorem trimL_snoc : ∀ (xs : List Int) (x : Int), trimL (xs ++ [x]) = if x = 0 then trimL xs else xs ++ [x]
  | [], x => by simp [trimL]
  | d :: ds, x => by
    have ih := trimL_snoc ds x
    simp only [List.cons_append, trimL, ih]
    by_cases z : x = 0
    · simp only [if_pos z]
    · simp only [if_neg z]; simp
theorem mul_bd {x y : Int} (hx : 0 ≤ x ∧ x < 1073741824) (hy : 0 ≤ y ∧ y < 1073741824) : 0 ≤ x * y ∧ x * y ≤ 1152921502459363329 := by
  refine ⟨Int.mul_nonneg hx.1 hy.1, ?_⟩
  have := Int.mul_le_mul (show x ≤ 1073741823 by omega) (show y ≤ 1073741823 by omega) hy.1 (by decide)
  omega
def mulL : List Int → List Int → Int → Int → List Int
  | [], _, _, _ => []
  | o :: os, [], _, c => (o + c) :: os
  | o :: os, y :: ys, x, c => ((o + x * y + c) % 1073741824) :: mulL os ys x ((o + x * y + c) / 1073741824)
theorem mulL_len : ∀ o b x c, (mulL o b x c).length = o.length
  | [], _, _, _ => by unfold mulL; rfl
  | o :: os, [], _, _ => by unfold mulL; rfl
  | o :: os, y :: ys, x, c => by unfold mulL; simp [mulL_len os ys]
def AllZ : List Int → Prop
  | [] => True
  | d :: ds => d = 0 ∧ AllZ ds
theorem mulL_spec : ∀ o b x c, Dg o → Dg b → b.length < o.length → AllZ (o.drop b.length) → 0 ≤ x ∧ x < 1073741824 → 0 ≤ c ∧ c < 1073741824 →
    V (mulL o b x c) = V o + x * V b + c ∧ Dg (mulL o b x c) ∧ AllZ ((mulL o b x c).drop (b.length + 1))
  | [], _, _, _, _, _, h, _, _, _ => by simp at h
  | o :: os, [], x, c, ho, _, _, hz, hx, hc => by
    simp only [List.length_nil, List.drop_zero, AllZ] at hz
    unfold mulL
    refine ⟨by simp [V]; omega, ⟨by omega, ho.2⟩, by simpa using hz.2⟩
  | o :: os, y :: ys, x, c, ho, hb, hl, hz, hx, hc => by
    have hm := mul_bd hx hb.1
    have := ho.1
    obtain ⟨i1, i2, i3⟩ := mulL_spec os ys x ((o + x * y + c) / 1073741824) ho.2 hb.2 (by simpa using hl) (by simpa using hz) hx (by omega)
    unfold mulL
    refine ⟨?_, ⟨by omega, i2⟩, by simpa using i3⟩
    simp only [V, i1]
    rw [Int.mul_add x y, Int.mul_left_comm x 1073741824 (V ys)]
    generalize x * V ys = t
    generalize x * y = u at *
    omega
def timesL : List Int → List Int → List Int → List Int
  | o, [], _ => o
  | o, x :: xs, b => match mulL o b x 0 with
    | [] => []
    | h :: t => h :: timesL t xs b
theorem timesL_spec : ∀ a b o, Dg a → Dg b → Dg o → o.length = a.length + b.length → AllZ (o.drop b.length) → V (timesL o a b) = V o + V a * V b ∧ Dg (timesL o a b) ∧ (timesL o a b).length = o.length
  | [], b, o, _, _, ho, _, _ => by unfold timesL; exact ⟨by simp [V], ho, rfl⟩
  | x :: xs, b, o, ha, hb, ho, hl, hz => by
    have hl1 : b.length < o.length := by simp at hl; omega
    obtain ⟨i1, i2, i3⟩ := mulL_spec o b x 0 ho hb hl1 hz ha.1 (by decide)
    have hlen := mulL_len o b x 0
    unfold timesL
    generalize mulL o b x 0 = m at *
    cases m with
    | nil => simp at hlen; omega
    | cons h t =>
      obtain ⟨j1, j2, j3⟩ := timesL_spec xs b t ha.2 hb i2.2 (by simp at hl hlen; omega) (by simpa using i3)
      refine ⟨?_, ⟨i2.1, j2⟩, by simp at hlen ⊢; omega⟩
      simp only [V] at i1 ⊢
      rw [j1, Int.add_mul, Int.mul_assoc 1073741824 (V xs) (V b)]
      generalize V xs * V b = q
      generalize x * V b = u at *
      omega

/-! ### The printed functions on whole numbers do what the plain lists say -/
theorem wsm {a : Int} (h1 : -9223372036854775808 ≤ a) (h2 : a ≤ 9223372036854775807) : wrap64 a = a := by unfold wrap64; omega
theorem rd_nat (l : List Int) (i : Nat) : rd l (i : Int) = l.getD i 0 := by simp [rd]
theorem drop_rd (l : List Int) (i : Nat) (h : i < l.length) : l.drop i = rd l (i : Int) :: l.drop (i + 1) := by
  rw [rd_nat, List.drop_eq_getElem_cons h]
  simp [List.getD_eq_getElem?_getD, h]
theorem Dg_drop : ∀ (l : List Int) (i : Nat), Dg l → Dg (l.drop i)
  | [], _, _ => by simp [Dg]
  | d :: ds, 0, h => h
  | d :: ds, i + 1, h => Dg_drop ds i h.2
theorem Dg_rd {l : List Int} (h : Dg l) {i : Nat} (hi : i < l.length) : 0 ≤ rd l (i : Int) ∧ rd l (i : Int) < 1073741824 := by
  have := Dg_drop l i h
  rw [drop_rd l i hi] at this
  exact this.1
theorem ev_eq {α : Type} {g : Nat → Option α} {r s : α} (h : r = s) (e : Ev g s) : Ev g r := h ▸ e
theorem trim_ev (l : List Int) (hs : l.length ≤ 1000000) : ∀ (n : Nat), n ≤ l.length → Ev (fun k => windhoverref00_trim.l0 k l (n : Int)) (trimL (l.take n)) := by
  intro n
  induction n with
  | zero =>
    intro _
    refine Ev.step (f := fun _ => some (trimL (l.take 0))) (fun k => ?_) (Ev.now _)
    rw [windhoverref00_trim.l0, if_neg (by decide), if_pos (by decide), if_pos (by omega)]
    simp [trimL]
  | succ n ih =>
    intro hn
    have e : wrap64 (((n + 1 : Nat) : Int) - 1) = (n : Int) := by rw [wsm (by omega) (by omega)]; omega
    have ht : l.take (n + 1) = l.take n ++ [rd l (n : Int)] := by
      rw [rd_nat, List.take_succ_eq_append_getElem (by omega)]
      simp [List.getD_eq_getElem?_getD, show n < l.length from by omega]
    by_cases z : rd l (n : Int) = 0
    · refine ev_eq (by rw [ht, trimL_snoc, if_pos z]) (Ev.step (fun k => ?_) (ih (by omega)))
      rw [windhoverref00_trim.l0, if_pos (by omega), e, if_pos (by omega), if_pos (by omega), if_pos z]
    · refine Ev.step (f := fun _ => some (trimL (l.take (n + 1)))) (fun k => ?_) (Ev.now _)
      rw [windhoverref00_trim.l0, if_pos (by omega), e, if_pos (by omega), if_pos (by omega), if_neg z, if_pos (by omega), if_pos (by omega)]
      rw [ht, trimL_snoc, if_neg z, ← ht]
      rfl
theorem trimf_ev (l : List Int) (hs : l.length ≤ 1000000) : Ev (fun k => windhoverref00_trim.f k l) (trimL l) := by
  have := trim_ev l hs l.length (Nat.le_refl _)
  rw [List.take_length] at this
  exact this
theorem cmpL_at (a b : List Int) (i : Nat) (h1 : i < a.length) (h2 : i < b.length) (hz : cmpL (a.drop (i + 1)) (b.drop (i + 1)) = 0) :
    cmpL (a.drop i) (b.drop i) = if rd a i < rd b i then -1 else if rd a i > rd b i then 1 else 0 := by
  rw [drop_rd a i h1, drop_rd b i h2]
  simp only [cmpL]
  rw [if_neg (by simpa using hz)]
theorem size_ev (a b : List Int) (hl : a.length = b.length) (hs : a.length ≤ 1000) : ∀ (n : Nat), n ≤ a.length → cmpL (a.drop n) (b.drop n) = 0 →
    Ev (fun k => windhoverref00_size.l0 k a b ((n : Int) - 1)) (cmpL a b) := by
  intro n
  induction n with
  | zero =>
    intro _ hz
    rw [List.drop_zero, List.drop_zero] at hz
    rw [hz]
    refine Ev.step (f := fun _ => some 0) (fun k => ?_) (Ev.now _)
    rw [windhoverref00_size.l0, if_neg (by omega)]
  | succ n ih =>
    intro hn hz
    have e1 : (((n + 1 : Nat) : Int) - 1) = (n : Int) := by omega
    have e2 : wrap64 ((n : Int) - 1) = (n : Int) - 1 := wsm (by omega) (by omega)
    have hc := cmpL_at a b n (by omega) (by omega) hz
    rw [e1]
    by_cases h1 : rd a n < rd b n
    · rw [if_pos h1] at hc
      refine ev_eq (s := -1) ?_ (Ev.step (f := fun _ => some (-1)) (fun k => ?_) (Ev.now _))
      · rw [cmpL_drop n a b (by rw [hc]; decide), hc]
      · rw [windhoverref00_size.l0, if_pos (by omega), if_pos (by omega), if_pos (by omega), if_pos (by omega), if_pos h1]
    · rw [if_neg h1] at hc
      by_cases h2 : rd a n > rd b n
      · rw [if_pos h2] at hc
        refine ev_eq (s := 1) ?_ (Ev.step (f := fun _ => some 1) (fun k => ?_) (Ev.now _))
        · rw [cmpL_drop n a b (by rw [hc]; decide), hc]
        · rw [windhoverref00_size.l0, if_pos (by omega), if_pos (by omega), if_pos (by omega), if_pos (by omega), if_neg h1, if_pos h2]
      · rw [if_neg h2] at hc
        refine Ev.step (fun k => ?_) (ih (by omega) hc)
        rw [windhoverref00_size.l0, if_pos (by omega), if_pos (by omega), if_pos (by omega), if_pos (by omega), if_neg h1, if_neg h2, e2]
/-- Magnitudes are compared. -/
theorem sizef_ev (a b : List Int) (ha : Dg a) (hb : Dg b) (ta : Trm a) (tb : Trm b) (hs : a.length ≤ 1000) : ∃ r, Ev (fun k => windhoverref00_size.f k a b) r ∧ Sg (V a) (V b) r := by
  by_cases hl : a.length = b.length
  · refine ⟨cmpL a b, ?_, cmpL_spec a b ha hb hl⟩
    have h := size_ev a b hl hs a.length (Nat.le_refl _) (by rw [List.drop_of_length_le (Nat.le_refl _), List.drop_of_length_le (by omega)]; rfl)
    refine Ev.congr (fun k => ?_) h
    rw [windhoverref00_size.f, if_pos (by omega), wsm (by omega) (by omega)]
  · by_cases hlt : a.length < b.length
    · refine ⟨-1, Ev.congr (fun k => ?_) (Ev.now _), .inl ⟨rfl, V_lt_len a b ha hb tb hlt⟩⟩
      rw [windhoverref00_size.f, if_neg (by omega), if_pos (by omega)]
    · refine ⟨1, Ev.congr (fun k => ?_) (Ev.now _), .inr (.inr ⟨rfl, V_lt_len b a hb ha ta (by omega)⟩)⟩
      rw [windhoverref00_size.f, if_neg (by omega), if_neg (by omega)]
/-- A whole number, as its sign and its digits. -/
def W (L : Nat) (b : Bool) (d : List Int) (n : Int) : Prop := Dg d ∧ Trm d ∧ (b = true → d ≠ []) ∧ n = (if b = true then -V d else V d) ∧ d.length ≤ L
theorem W.mono {L M : Nat} {b : Bool} {d : List Int} {n : Int} (h : W L b d n) (hl : L ≤ M) : W M b d n := ⟨h.1, h.2.1, h.2.2.1, h.2.2.2.1, Nat.le_trans h.2.2.2.2 hl⟩
theorem len_of {d : List Int} (h : Dg d) (t : Trm d) : (V d < 1073741824 → d.length ≤ 1) ∧ (V d < 1152921504606846976 → d.length ≤ 2) ∧ (V d < 1237940039285380274899124224 → d.length ≤ 3) ∧ (V d < 1329227995784915872903807060280344576 → d.length ≤ 4) := by
  match d, h, t with
  | [], _, _ => exact ⟨fun _ => by simp, fun _ => by simp, fun _ => by simp, fun _ => by simp⟩
  | [a], _, _ => exact ⟨fun _ => by simp, fun _ => by simp, fun _ => by simp, fun _ => by simp⟩
  | [a, b], h, t =>
    have := h.1; have := h.2.1; have := t.2.1 rfl
    simp only [V]; exact ⟨fun _ => by omega, fun _ => by simp, fun _ => by simp, fun _ => by simp⟩
  | [a, b, c], h, t =>
    have := h.1; have := h.2.1; have := h.2.2.1; have := t.2.2.1 rfl
    simp only [V]; exact ⟨fun _ => by omega, fun _ => by omega, fun _ => by simp, fun _ => by simp⟩
  | [a, b, c, e], h, t =>
    have := h.1; have := h.2.1; have := h.2.2.1; have := h.2.2.2.1; have := t.2.2.2.1 rfl
    simp only [V]; exact ⟨fun _ => by omega, fun _ => by omega, fun _ => by omega, fun _ => by simp⟩
  | a :: b :: c :: e :: f :: ds, h, t =>
    have := h.1; have := h.2.1; have := h.2.2.1; have := h.2.2.2.1
    have := V_pos (f :: ds) h.2.2.2.2 t.2.2.2.2 (by simp)
    simp only [V] at *
    exact ⟨fun _ => by omega, fun _ => by omega, fun _ => by omega, fun _ => by omega⟩
theorem of_loop (bl : Bool) : ∀ (m : Nat) (n : Int) (out : List Int), n.natAbs ≤ m → -9223372036854775808 ≤ n → n ≤ 9223372036854775807 → (∃ c : Nat, n.natAbs * 2 ^ c ≤ 9223372036854775808 ∧ out.length ≤ c) →
    ∃ ds, Ev (fun k => windhoverref00_Of.l0 k n bl out) (bl, out ++ ds) ∧ Dg ds ∧ Trm ds ∧ V ds = n.natAbs ∧ (n = 0 → ds = []) := by
  intro m
  induction m with
  | zero =>
    intro n out hm _ _ _
    obtain rfl : n = 0 := by omega
    refine ⟨[], Ev.step (f := fun _ => some (bl, out)) (fun k => ?_) (ev_eq (by simp) (Ev.now _)), trivial, trivial, rfl, fun _ => rfl⟩
    rw [windhoverref00_Of.l0, if_pos rfl]
  | succ m ih =>
    intro n out hm h1 h2 hc
    by_cases hz : n = 0
    · subst hz
      refine ⟨[], Ev.step (f := fun _ => some (bl, out)) (fun k => ?_) (ev_eq (by simp) (Ev.now _)), trivial, trivial, rfl, fun _ => rfl⟩
      rw [windhoverref00_Of.l0, if_pos rfl]
    · obtain ⟨c, hc1, hc2⟩ := hc
      have hc63 : c ≤ 63 := by
        rcases Nat.lt_or_ge c 64 with h | h
        · omega
        · have h3 : 2 ^ 64 ≤ 2 ^ c := Nat.pow_le_pow_right (by decide) h
          have h4 : 1 * 2 ^ c ≤ n.natAbs * 2 ^ c := Nat.mul_le_mul_right _ (by omega)
          omega
      have key : ∀ q : Int, q.natAbs * 2 ≤ n.natAbs → ∃ c : Nat, q.natAbs * 2 ^ c ≤ 9223372036854775808 ∧ out.length + 1 ≤ c := by
        intro q hq
        refine ⟨c + 1, ?_, by omega⟩
        have : q.natAbs * 2 ^ (c + 1) ≤ n.natAbs * 2 ^ c := by
          rw [Nat.pow_succ, Nat.mul_comm (2 ^ c) 2, ← Nat.mul_assoc]
          exact Nat.mul_le_mul_right _ hq
        omega
      by_cases hn : 0 ≤ n
      · have e1 : Int.tmod n 1073741824 = n % 1073741824 := Int.tmod_eq_emod_of_nonneg hn
        have e2 : Int.tdiv n 1073741824 = n / 1073741824 := Int.tdiv_eq_ediv_of_nonneg hn
        obtain ⟨ds, hev, hd, ht, hv, hnil⟩ := ih (n / 1073741824) (out ++ [n % 1073741824]) (by omega) (by omega) (by omega) (by simpa using key (n / 1073741824) (by omega))
        refine ⟨n % 1073741824 :: ds, ev_eq (by simp) (Ev.step (fun k => ?_) hev), ⟨by omega, hd⟩, ⟨fun e => ?_, ht⟩, by simp only [V]; omega, fun h => absurd h hz⟩
        · rw [windhoverref00_Of.l0, if_neg hz, e1, e2, if_neg (by omega), if_pos (by omega), wsm (by omega) (by omega)]
        · rw [e] at hv; simp only [V] at hv; omega
      · obtain ⟨p, rfl⟩ : ∃ p, n = -p := ⟨-n, by omega⟩
        have hp : 0 ≤ p := by omega
        have e1 : Int.tmod (-p) 1073741824 = -(p % 1073741824) := by rw [Int.neg_tmod, Int.tmod_eq_emod_of_nonneg hp]
        have e2 : Int.tdiv (-p) 1073741824 = -(p / 1073741824) := by rw [Int.neg_tdiv, Int.tdiv_eq_ediv_of_nonneg hp]
        obtain ⟨ds, hev, hd, ht, hv, hnil⟩ := ih (-(p / 1073741824)) (out ++ [p % 1073741824]) (by omega) (by omega) (by omega) (by simpa using key (-(p / 1073741824)) (by omega))
        refine ⟨p % 1073741824 :: ds, ev_eq (by simp) (Ev.step (fun k => ?_) hev), ⟨by omega, hd⟩, ⟨fun e => ?_, ht⟩, by simp only [V]; omega, fun h => absurd h hz⟩
        · rw [windhoverref00_Of.l0, if_neg hz, e1, e2]
          by_cases z : p % 1073741824 = 0
          · rw [if_neg (by omega), if_pos (by omega), wsm (by omega) (by omega), z]; rfl
          · rw [if_pos (by omega), if_pos (by omega), wsm (a := -(p / 1073741824)) (by omega) (by omega), Int.neg_neg, wsm (by omega) (by omega)]
        · rw [e] at hv; simp only [V] at hv; omega
theorem of_ev (n : Int) (h1 : -9223372036854775808 ≤ n) (h2 : n ≤ 9223372036854775807) : ∃ b d, Ev (fun k => windhoverref00_Of.f k n) (b, d) ∧ W 3 b d n := by
  obtain ⟨ds, hev, hd, ht, hv, hnil⟩ := of_loop (decide (n < 0)) n.natAbs n [] (Nat.le_refl _) h1 h2 ⟨0, by omega, by simp⟩
  refine ⟨decide (n < 0), ds, Ev.congr (fun k => by rw [windhoverref00_Of.f]) (ev_eq (by simp) hev), hd, ht, fun h => ?_, ?_, (len_of hd ht).2.2.1 (by omega)⟩
  · intro e
    rw [e] at hv
    simp only [V] at hv
    simp at h
    omega
  · by_cases h : n < 0
    · rw [if_pos (by simpa using h)]; omega
    · rw [if_neg (by simpa using h)]; omega
theorem W_range {L : Nat} {b : Bool} {d : List Int} {n : Int} (h : W L b d n) : (b = true → n < 0) ∧ (b = false → 0 ≤ n) := by
  obtain ⟨hd, ht, hb, hn, _⟩ := h
  have h0 := V_nonneg d hd
  refine ⟨fun e => ?_, fun e => ?_⟩
  · have := V_pos d hd ht (hb e); rw [if_pos e] at hn; omega
  · rw [e, if_neg (by decide)] at hn; omega
theorem cmp_ev {L : Nat} {a b : Bool} {x y : List Int} {m n : Int} (hx : W L a x m) (hy : W L b y n) (hL : L ≤ 1000) : ∃ r, Ev (fun k => windhoverref00_Cmp.f k a x b y) r ∧ Sg m n r := by
  have rx := W_range hx
  have ry := W_range hy
  obtain ⟨dx, tx, bx, ex, lx⟩ := hx
  obtain ⟨dy, ty, by', ey, ly⟩ := hy
  by_cases hab : a = b
  · subst hab
    obtain ⟨r, hr, hs⟩ := sizef_ev x y dx dy tx ty (by omega)
    cases a
    · refine ⟨r, Ev.congr (fun k => ?_) (Ev.bind (f := fun _ t => some t) hr (Ev.now _)), ?_⟩
      · rw [windhoverref00_Cmp.f, if_neg (by decide)]; rfl
      · simp at ex ey; rw [ex, ey]; exact hs
    · refine ⟨-r, Ev.congr (fun k => ?_) (Ev.bind (f := fun _ t => some (wrap64 (-t))) hr (ev_eq ?_ (Ev.now _))), ?_⟩
      · rw [windhoverref00_Cmp.f, if_neg (by decide)]; rfl
      · rcases hs with ⟨rfl, _⟩ | ⟨rfl, _⟩ | ⟨rfl, _⟩ <;> exact (wsm (by decide) (by decide)).symm
      · simp at ex ey; unfold Sg at *; omega
  · cases a <;> cases b
    · exact absurd rfl hab
    · refine ⟨1, Ev.congr (fun k => ?_) (Ev.now _), .inr (.inr ⟨rfl, by have := rx.2 rfl; have := ry.1 rfl; omega⟩)⟩
      rw [windhoverref00_Cmp.f, if_pos (by decide), if_neg (by decide)]
    · refine ⟨-1, Ev.congr (fun k => ?_) (Ev.now _), .inl ⟨rfl, by have := rx.1 rfl; have := ry.2 rfl; omega⟩⟩
      rw [windhoverref00_Cmp.f, if_pos (by decide), if_pos rfl]
    · exact absurd rfl hab
def I64 (n : Int) : Prop := -9223372036854775808 ≤ n ∧ n ≤ 9223372036854775807
theorem mulL_cons {o y : Int} {os ys : List Int} {x c : Int} : mulL (o :: os) (y :: ys) x c = ((o + x * y + c) % 1073741824) :: mulL os ys x ((o + x * y + c) / 1073741824) := by
  conv => lhs; unfold mulL
theorem set_mid (P : List Int) (o v : Int) (os : List Int) (n : Nat) (h : P.length = n) : (P ++ o :: os).set n v = P ++ v :: os := by
  subst h
  simp [List.set_append_right]
theorem rd_mid (P : List Int) (o : Int) (os : List Int) (n : Nat) (h : P.length = n) : rd (P ++ o :: os) (n : Int) = o := by
  subst h
  rw [rd_nat]
  simp [List.getD_eq_getElem?_getD]
theorem wadd (i j : Nat) (h : i + j ≤ 1000000) : wrap64 ((i : Int) + (j : Int)) = ((i + j : Nat) : Int) := by rw [wsm (by omega) (by omega)]; omega
theorem wadd1 (i : Nat) (h : i ≤ 1000000) : wrap64 ((i : Int) + 1) = ((i + 1 : Nat) : Int) := by rw [wsm (by omega) (by omega)]; omega
theorem times_in (ab bb : Bool) (a b : List Int) (hal : a.length ≤ 400) (hbl : b.length ≤ 400) (hb : Dg b) (i : Nat) (hi : i < a.length) (ha : Dg a) (r : Bool × List Int) :
    ∀ (n j : Nat) (P o : List Int) (c : Int), b.length = j + n → P.length = i + j → n < o.length → P.length + o.length ≤ 900 → Dg o → AllZ (o.drop n) → (0 ≤ c ∧ c < 1073741824) →
    Ev (fun k => windhoverref00_Times.l0 k (P ++ mulL o (b.drop j) (rd a i) c) ((i + 1 : Nat) : Int) ab a bb b) r →
    Ev (fun k => windhoverref00_Times.l1 k (P ++ o) (i : Int) c (j : Int) ab a bb b) r := by
  intro n
  have hx := Dg_rd ha hi
  induction n with
  | zero =>
    intro j P o c hj hP ho htot hd hz hc hev
    cases o with
    | nil => simp at ho
    | cons o os =>
      have em : mulL (o :: os) [] (rd a i) c = (o + c) :: os := by unfold mulL; rfl
      rw [List.drop_of_length_le (show b.length ≤ j by omega), em] at hev
      simp only [List.drop_zero, AllZ] at hz
      have hlen : ((P ++ o :: os).length : Int) = i + j + os.length + 1 := by simp; omega
      simp only [List.length_cons] at htot
      have ho0 : o = 0 := hz.1
      clear hz hx
      have q1 : ¬ (j : Int) < (b.length : Int) := by omega
      have q2 : 0 ≤ ((i + b.length : Nat) : Int) := by omega
      have q3 : ((i + b.length : Nat) : Int) < ((P ++ o :: os).length : Int) := by omega
      have q4 : P.length = i + b.length := by omega
      have q5 : i + b.length ≤ 1000000 := by omega
      have q6 : i ≤ 1000000 := by omega
      have e3 : -9223372036854775808 ≤ o + c ∧ o + c ≤ 9223372036854775807 := by omega
      refine Ev.step (fun k => ?_) hev
      rw [windhoverref00_Times.l1, if_neg q1, wadd i b.length q5, if_pos q2, if_pos q3, wadd1 i q6, rd_mid P o os _ q4, wsm e3.1 e3.2, Int.toNat_natCast, set_mid P o (o + c) os _ q4]
  | succ n ih =>
    intro j P o c hj hP ho htot hd hz hc hev
    cases o with
    | nil => simp at ho
    | cons o os =>
      have q : j < b.length := by omega
      have hy := Dg_rd hb q
      have hm := mul_bd hx hy
      have hod := hd.1
      rw [drop_rd b j q, mulL_cons] at hev
      have hlen : ((P ++ o :: os).length : Int) = i + j + os.length + 1 := by simp; omega
      simp only [List.length_cons] at htot ho
      have q1 : (j : Int) < (b.length : Int) := by omega
      have q2 : 0 ≤ ((i + j : Nat) : Int) := by omega
      have q3 : ((i + j : Nat) : Int) < ((P ++ o :: os).length : Int) := by omega
      have q4 : P.length = i + j := by omega
      have q5 : i + j ≤ 1000000 := by omega
      have q6 : j ≤ 1000000 := by omega
      have q7 : 0 ≤ (i : Int) := by omega
      have q8 : (i : Int) < (a.length : Int) := by omega
      have q9 : 0 ≤ (j : Int) := by omega
      have r1 : b.length = j + 1 + n := by omega
      have r2 : n < os.length := by omega
      have key : ∀ t : Int, 0 ≤ t → t ≤ 1152921502459363329 → wrap64 t = t ∧ wrap64 (o + t) = o + t ∧ wrap64 (o + t + c) = o + t + c ∧ Int.tmod (o + t + c) 1073741824 = (o + t + c) % 1073741824 ∧ wrap64 (Int.tdiv (o + t + c) 1073741824) = (o + t + c) / 1073741824 ∧ (0 ≤ (o + t + c) / 1073741824 ∧ (o + t + c) / 1073741824 < 1073741824) := by
        intro t h0 h1
        refine ⟨wsm (by omega) (by omega), wsm (by omega) (by omega), wsm (by omega) (by omega), Int.tmod_eq_emod_of_nonneg (by omega), ?_, ⟨by omega, by omega⟩⟩
        rw [Int.tdiv_eq_ediv_of_nonneg (by omega), wsm (by omega) (by omega)]
      have hl2 : (P ++ [(o + rd a i * rd b j + c) % 1073741824]).length = i + (j + 1) := by simp; omega
      have hl3 : (P ++ [(o + rd a i * rd b j + c) % 1073741824]).length + os.length ≤ 900 := by simp; omega
      obtain ⟨k1, k2, k3, k4, k5, k6⟩ := key _ hm.1 hm.2
      clear key hlen htot
      have hev' := ih (j + 1) (P ++ [(o + rd a i * rd b j + c) % 1073741824]) os _ r1 hl2 r2 hl3 hd.2 hz k6 (by rw [List.append_assoc]; exact hev)
      refine Ev.step (fun k => ?_) hev'
      rw [windhoverref00_Times.l1, if_pos q1, wadd i j q5, if_pos q2, if_pos q3, if_pos q7, if_pos q8, if_pos q9, rd_mid P o os _ q4, k1, k2, k3, k4, k5, wadd1 j q6, Int.toNat_natCast, set_mid P o _ os _ q4, List.append_assoc]
      rfl
theorem timesL_step {o : List Int} {x : Int} {xs b : List Int} {h : Int} {t : List Int} (e : mulL o b x 0 = h :: t) : timesL o (x :: xs) b = h :: timesL t xs b := by
  conv => lhs; unfold timesL
  rw [e]
theorem times_out (ab bb : Bool) (a b : List Int) (hal : a.length ≤ 400) (hbl : b.length ≤ 400) (ha : Dg a) (hb : Dg b) : ∀ (n i : Nat) (P o : List Int), a.length = i + n → P.length = i → o.length = n + b.length → Dg o → AllZ (o.drop b.length) →
    Ev (fun k => windhoverref00_Times.l0 k (P ++ o) (i : Int) ab a bb b) (ab != bb, trimL (P ++ timesL o (a.drop i) b)) := by
  intro n
  induction n with
  | zero =>
    intro i P o hi hP ho hd hz
    rw [List.drop_of_length_le (show a.length ≤ i by omega)]
    have e : timesL o [] b = o := by unfold timesL; rfl
    rw [e]
    refine Ev.step (f := fun k => (windhoverref00_trim.f k (P ++ o)).bind fun t => some (ab != bb, t)) (fun k => ?_) (Ev.bind (trimf_ev _ (by simp; omega)) (Ev.now _))
    rw [windhoverref00_Times.l0, if_neg (by omega)]
  | succ n ih =>
    intro i P o hi hP ho hd hz
    have p : i < a.length := by omega
    have hx := Dg_rd ha p
    refine Ev.step (f := fun k => windhoverref00_Times.l1 k (P ++ o) (i : Int) 0 ((0 : Nat) : Int) ab a bb b) (fun k => ?_) ?_
    · rw [windhoverref00_Times.l0, if_pos (by omega)]; rfl
    · refine times_in ab bb a b hal hbl hb i p ha _ b.length 0 P o 0 (by omega) (by omega) (by omega) (by omega) hd hz (by decide) ?_
      rw [List.drop_zero, drop_rd a i p]
      obtain ⟨m1, m2, m3⟩ := mulL_spec o b (rd a i) 0 hd hb (by omega) hz hx (by decide)
      have hlen := mulL_len o b (rd a i) 0
      cases hm : mulL o b (rd a i) 0 with
      | nil => rw [hm] at hlen; simp at hlen; omega
      | cons h t =>
        rw [hm] at hlen m2 m3
        have := ih (i + 1) (P ++ [h]) t (by omega) (by simp; omega) (by simp at hlen; omega) m2.2 (by simpa using m3)
        rw [timesL_step hm]
        simpa using this
theorem AllZ_rep : ∀ n, AllZ (List.replicate n 0)
  | 0 => trivial
  | n + 1 => ⟨rfl, AllZ_rep n⟩
theorem Dg_rep : ∀ n, Dg (List.replicate n 0)
  | 0 => trivial
  | n + 1 => ⟨by decide, Dg_rep n⟩
theorem V_rep : ∀ n, V (List.replicate n 0) = 0
  | 0 => rfl
  | n + 1 => by simp only [List.replicate, V, V_rep n]; rfl
theorem times_ev {L M : Nat} {a b : Bool} {x y : List Int} {m n : Int} (hx : W L a x m) (hy : W M b y n) (hL : L ≤ 400) (hM : M ≤ 400) : ∃ c z, Ev (fun k => windhoverref00_Times.f k a x b y) (c, z) ∧ W (L + M) c z (m * n) := by
  obtain ⟨dx, tx, bx, ex, lx⟩ := hx
  obtain ⟨dy, ty, by', ey, ly⟩ := hy
  by_cases hz : x = [] ∨ y = []
  · refine ⟨false, [], ?_, trivial, trivial, by simp, ?_, by simp⟩
    · have stop : Ev (fun k => windhoverref00_Times.j0 k true a x b y) (false, []) := by
        refine Ev.step (f := fun _ => some (false, [])) (fun k => ?_) (Ev.now _)
        rw [windhoverref00_Times.j0, if_pos rfl]
      refine Ev.congr (fun k => ?_) stop
      rcases hz with rfl | rfl
      · rw [windhoverref00_Times.f, if_pos (by simp)]
      · rw [windhoverref00_Times.f]
        by_cases h : (x.length : Int) = 0
        · rw [if_pos h]
        · rw [if_neg h]; rfl
    · rcases hz with rfl | rfl
      · simp [V] at ex; subst ex; simp [V]
      · simp [V] at ey; subst ey; simp [V]
  · have hx0 : x ≠ [] := fun e => hz (.inl e)
    have hy0 : y ≠ [] := fun e => hz (.inr e)
    have lx0 := List.length_pos_iff.mpr hx0
    have ly0 := List.length_pos_iff.mpr hy0
    have vx := V_pos x dx tx hx0
    have vy := V_pos y dy ty hy0
    have hdrop : AllZ ((List.replicate (x.length + y.length) (0 : Int)).drop y.length) := by rw [List.drop_replicate]; exact AllZ_rep _
    obtain ⟨s1, s2, s3⟩ := timesL_spec x y (List.replicate (x.length + y.length) 0) dx dy (Dg_rep _) (by simp) hdrop
    rw [V_rep] at s1
    have hev := times_out a b x y (by omega) (by omega) dx dy x.length 0 [] (List.replicate (x.length + y.length) 0) (by omega) rfl (by simp) (Dg_rep _) hdrop
    rw [List.drop_zero, List.nil_append, List.nil_append] at hev
    have hpos := Int.mul_pos vx vy
    refine ⟨a != b, trimL (timesL (List.replicate (x.length + y.length) 0) x y), Ev.congr (f := fun k => windhoverref00_Times.j0 k false a x b y) (fun k => ?_) (Ev.step (fun k => ?_) hev), Dg_trimL _ s2, Trm_trimL _, fun h => ?_, ?_, ?_⟩
    · rw [windhoverref00_Times.f, if_neg (by omega), show ((y.length : Int) == 0) = false from by simp; omega]
    · rw [windhoverref00_Times.j0, if_neg (by decide), wadd x.length y.length (by omega), if_pos (by omega), Int.toNat_natCast, if_pos (by omega)]
      rfl
    · intro e
      have := V_trimL (timesL (List.replicate (x.length + y.length) 0) x y)
      rw [e, s1] at this
      simp only [V] at this
      omega
    · rw [V_trimL, s1]
      cases a <;> cases b <;> simp at ex ey ⊢ <;> rw [ex, ey] <;> simp [Int.neg_mul, Int.mul_neg]
    · have := trimL_len (timesL (List.replicate (x.length + y.length) 0) x y)
      simp at s3
      omega
theorem I64_of {a : Int} (h : (Lit.int .i64 a).wf = true) : I64 a := by
  simp [Lit.wf, IntKind.min, IntKind.max, IntKind.signed, IntKind.bits] at h
  unfold I64; omega
theorem awake_ev : Ev (fun k => windhoverlaw01_awake.f k) true := by
  have h : windhoverlaw01_awake.f 40 = some true := by decide +kernel
  exact Ev.of (fun k => windhoverlaw01_awake.mono k) h

theorem uw {a : Int} (h1 : 0 ≤ a) (h2 : a < 18446744073709551616) : IntKind.u64.wrap a = a := by rw [IntKind.wrap_u64]; omega

theorem tab_fin : ∀ i : Fin 256, 0 ≤ bt (⟨#[0, 1, 2, 2, 3, 3, 3, 3, 4, 4, 4, 4, 4, 4, 4, 4, 5, 5, 5, 5, 5, 5, 5, 5, 5, 5, 5, 5, 5, 5, 5, 5, 6, 6, 6, 6, 6, 6, 6, 6, 6, 6, 6, 6, 6, 6, 6, 6, 6, 6, 6, 6, 6, 6, 6, 6, 6, 6, 6, 6, 6, 6, 6, 6, 7, 7, 7, 7, 7, 7, 7, 7, 7, 7, 7, 7, 7, 7, 7, 7, 7, 7, 7, 7, 7, 7, 7, 7, 7, 7, 7, 7, 7, 7, 7, 7, 7, 7, 7, 7, 7, 7, 7, 7, 7, 7, 7, 7, 7, 7, 7, 7, 7, 7, 7, 7, 7, 7, 7, 7, 7, 7, 7, 7, 7, 7, 7, 7, 8, 8, 8, 8, 8, 8, 8, 8, 8, 8, 8, 8, 8, 8, 8, 8, 8, 8, 8, 8, 8, 8, 8, 8, 8, 8, 8, 8, 8, 8, 8, 8, 8, 8, 8, 8, 8, 8, 8, 8, 8, 8, 8, 8, 8, 8, 8, 8, 8, 8, 8, 8, 8, 8, 8, 8, 8, 8, 8, 8, 8, 8, 8, 8, 8, 8, 8, 8, 8, 8, 8, 8, 8, 8, 8, 8, 8, 8, 8, 8, 8, 8, 8, 8, 8, 8, 8, 8, 8, 8, 8, 8, 8, 8, 8, 8, 8, 8, 8, 8, 8, 8, 8, 8, 8, 8, 8, 8, 8, 8, 8, 8, 8, 8, 8, 8, 8, 8, 8, 8, 8, 8, 8, 8, 8, 8, 8, 8]⟩ : ByteArray) (i.val : Int) ∧ bt (⟨#[0, 1, 2, 2, 3, 3, 3, 3, 4, 4, 4, 4, 4, 4, 4, 4, 5, 5, 5, 5, 5, 5, 5, 5, 5, 5, 5, 5, 5, 5, 5, 5, 6, 6, 6, 6, 6, 6, 6, 6, 6, 6, 6, 6, 6, 6, 6, 6, 6, 6, 6, 6, 6, 6, 6, 6, 6, 6, 6, 6, 6, 6, 6, 6, 7, 7, 7, 7, 7, 7, 7, 7, 7, 7, 7, 7, 7, 7, 7, 7, 7, 7, 7, 7, 7, 7, 7, 7, 7, 7, 7, 7, 7, 7, 7, 7, 7, 7, 7, 7, 7, 7, 7, 7, 7, 7, 7, 7, 7, 7, 7, 7, 7, 7, 7, 7, 7, 7, 7, 7, 7, 7, 7, 7, 7, 7, 7, 7, 8, 8, 8, 8, 8, 8, 8, 8, 8, 8, 8, 8, 8, 8, 8, 8, 8, 8, 8, 8, 8, 8, 8, 8, 8, 8, 8, 8, 8, 8, 8, 8, 8, 8, 8, 8, 8, 8, 8, 8, 8, 8, 8, 8, 8, 8, 8, 8, 8, 8, 8, 8, 8, 8, 8, 8, 8, 8, 8, 8, 8, 8, 8, 8, 8, 8, 8, 8, 8, 8, 8, 8, 8, 8, 8, 8, 8, 8, 8, 8, 8, 8, 8, 8, 8, 8, 8, 8, 8, 8, 8, 8, 8, 8, 8, 8, 8, 8, 8, 8, 8, 8, 8, 8, 8, 8, 8, 8, 8, 8, 8, 8, 8, 8, 8, 8, 8, 8, 8, 8, 8, 8, 8, 8, 8, 8, 8, 8]⟩ : ByteArray) (i.val : Int) ≤ 8 ∧ (i.val : Int) < 2 ^ (bt (⟨#[0, 1, 2, 2, 3, 3, 3, 3, 4, 4, 4, 4, 4, 4, 4, 4, 5, 5, 5, 5, 5, 5, 5, 5, 5, 5, 5, 5, 5, 5, 5, 5, 6, 6, 6, 6, 6, 6, 6, 6, 6, 6, 6, 6, 6, 6, 6, 6, 6, 6, 6, 6, 6, 6, 6, 6, 6, 6, 6, 6, 6, 6, 6, 6, 7, 7, 7, 7, 7, 7, 7, 7, 7, 7, 7, 7, 7, 7, 7, 7, 7, 7, 7, 7, 7, 7, 7, 7, 7, 7, 7, 7, 7, 7, 7, 7, 7, 7, 7, 7, 7, 7, 7, 7, 7, 7, 7, 7, 7, 7, 7, 7, 7, 7, 7, 7, 7, 7, 7, 7, 7, 7, 7, 7, 7, 7, 7, 7, 8, 8, 8, 8, 8, 8, 8, 8, 8, 8, 8, 8, 8, 8, 8, 8, 8, 8, 8, 8, 8, 8, 8, 8, 8, 8, 8, 8, 8, 8, 8, 8, 8, 8, 8, 8, 8, 8, 8, 8, 8, 8, 8, 8, 8, 8, 8, 8, 8, 8, 8, 8, 8, 8, 8, 8, 8, 8, 8, 8, 8, 8, 8, 8, 8, 8, 8, 8, 8, 8, 8, 8, 8, 8, 8, 8, 8, 8, 8, 8, 8, 8, 8, 8, 8, 8, 8, 8, 8, 8, 8, 8, 8, 8, 8, 8, 8, 8, 8, 8, 8, 8, 8, 8, 8, 8, 8, 8, 8, 8, 8, 8, 8, 8, 8, 8, 8, 8, 8, 8, 8, 8, 8, 8, 8, 8, 8, 8]⟩ : ByteArray) (i.val : Int)).toNat := by decide +kernel
theorem tab_ok (i : Int) (h0 : 0 ≤ i) (h1 : i < 256) : ∃ m : Nat, m ≤ 8 ∧ bt (⟨#[0, 1, 2, 2, 3, 3, 3, 3, 4, 4, 4, 4, 4, 4, 4, 4, 5, 5, 5, 5, 5, 5, 5, 5, 5, 5, 5, 5, 5, 5, 5, 5, 6, 6, 6, 6, 6, 6, 6, 6, 6, 6, 6, 6, 6, 6, 6, 6, 6, 6, 6, 6, 6, 6, 6, 6, 6, 6, 6, 6, 6, 6, 6, 6, 7, 7, 7, 7, 7, 7, 7, 7, 7, 7, 7, 7, 7, 7, 7, 7, 7, 7, 7, 7, 7, 7, 7, 7, 7, 7, 7, 7, 7, 7, 7, 7, 7, 7, 7, 7, 7, 7, 7, 7, 7, 7, 7, 7, 7, 7, 7, 7, 7, 7, 7, 7, 7, 7, 7, 7, 7, 7, 7, 7, 7, 7, 7, 7, 8, 8, 8, 8, 8, 8, 8, 8, 8, 8, 8, 8, 8, 8, 8, 8, 8, 8, 8, 8, 8, 8, 8, 8, 8, 8, 8, 8, 8, 8, 8, 8, 8, 8, 8, 8, 8, 8, 8, 8, 8, 8, 8, 8, 8, 8, 8, 8, 8, 8, 8, 8, 8, 8, 8, 8, 8, 8, 8, 8, 8, 8, 8, 8, 8, 8, 8, 8, 8, 8, 8, 8, 8, 8, 8, 8, 8, 8, 8, 8, 8, 8, 8, 8, 8, 8, 8, 8, 8, 8, 8, 8, 8, 8, 8, 8, 8, 8, 8, 8, 8, 8, 8, 8, 8, 8, 8, 8, 8, 8, 8, 8, 8, 8, 8, 8, 8, 8, 8, 8, 8, 8, 8, 8, 8, 8, 8, 8]⟩ : ByteArray) i = (m : Int) ∧ i < 2 ^ m := by
  have h := tab_fin ⟨i.toNat, by omega⟩
  rw [show ((i.toNat : Nat) : Int) = i from by omega] at h
  exact ⟨(bt (⟨#[0, 1, 2, 2, 3, 3, 3, 3, 4, 4, 4, 4, 4, 4, 4, 4, 5, 5, 5, 5, 5, 5, 5, 5, 5, 5, 5, 5, 5, 5, 5, 5, 6, 6, 6, 6, 6, 6, 6, 6, 6, 6, 6, 6, 6, 6, 6, 6, 6, 6, 6, 6, 6, 6, 6, 6, 6, 6, 6, 6, 6, 6, 6, 6, 7, 7, 7, 7, 7, 7, 7, 7, 7, 7, 7, 7, 7, 7, 7, 7, 7, 7, 7, 7, 7, 7, 7, 7, 7, 7, 7, 7, 7, 7, 7, 7, 7, 7, 7, 7, 7, 7, 7, 7, 7, 7, 7, 7, 7, 7, 7, 7, 7, 7, 7, 7, 7, 7, 7, 7, 7, 7, 7, 7, 7, 7, 7, 7, 8, 8, 8, 8, 8, 8, 8, 8, 8, 8, 8, 8, 8, 8, 8, 8, 8, 8, 8, 8, 8, 8, 8, 8, 8, 8, 8, 8, 8, 8, 8, 8, 8, 8, 8, 8, 8, 8, 8, 8, 8, 8, 8, 8, 8, 8, 8, 8, 8, 8, 8, 8, 8, 8, 8, 8, 8, 8, 8, 8, 8, 8, 8, 8, 8, 8, 8, 8, 8, 8, 8, 8, 8, 8, 8, 8, 8, 8, 8, 8, 8, 8, 8, 8, 8, 8, 8, 8, 8, 8, 8, 8, 8, 8, 8, 8, 8, 8, 8, 8, 8, 8, 8, 8, 8, 8, 8, 8, 8, 8, 8, 8, 8, 8, 8, 8, 8, 8, 8, 8, 8, 8, 8, 8, 8, 8, 8, 8]⟩ : ByteArray) i).toNat, by omega, by omega, h.2.2⟩
theorem len_j {x y : Int} (hx : 0 ≤ x ∧ x < 4294967296) (hy : 0 ≤ y ∧ y ≤ 32) : ∃ m : Nat, m ≤ 32 ∧ x < 2 ^ m ∧ Ev (fun k => bits_Len64.j0 k x y) (y + m) := by
  have st : ∀ r : Int, (∀ k, bits_Len64.j0 (k + 1) x y = some r) → Ev (fun k => bits_Len64.j0 k x y) r := fun r h => Ev.step (f := fun _ => some r) h (Ev.now _)
  by_cases h1 : x ≥ 65536
  · by_cases h2 : x / 65536 ≥ 256
    · obtain ⟨m, m8, e, l⟩ := tab_ok ((x / 65536 / 256) % 256) (by omega) (by omega)
      refine ⟨m + 24, by omega, ?_, st _ fun k => ?_⟩
      · rw [Int.pow_add, show (2 : Int) ^ 24 = 16777216 from by decide]; omega
      · rw [bits_Len64.j0, if_pos h1, if_pos h2, if_pos (by omega), if_pos (by omega), e, wsm (a := y + 16) (by omega) (by omega), wsm (a := y + 16 + 8) (by omega) (by omega), wsm (a := (m : Int)) (by omega) (by omega), wsm (by omega) (by omega)]
        exact congrArg some (by clear e; omega)
    · obtain ⟨m, m8, e, l⟩ := tab_ok ((x / 65536) % 256) (by omega) (by omega)
      refine ⟨m + 16, by omega, ?_, st _ fun k => ?_⟩
      · rw [Int.pow_add, show (2 : Int) ^ 16 = 65536 from by decide]; omega
      · rw [bits_Len64.j0, if_pos h1, if_neg h2, if_pos (by omega), if_pos (by omega), e, wsm (a := y + 16) (by omega) (by omega), wsm (a := (m : Int)) (by omega) (by omega), wsm (by omega) (by omega)]
        exact congrArg some (by clear e; omega)
  · by_cases h2 : x ≥ 256
    · obtain ⟨m, m8, e, l⟩ := tab_ok ((x / 256) % 256) (by omega) (by omega)
      refine ⟨m + 8, by omega, ?_, st _ fun k => ?_⟩
      · rw [Int.pow_add, show (2 : Int) ^ 8 = 256 from by decide]; omega
      · rw [bits_Len64.j0, if_neg h1, if_pos h2, if_pos (by omega), if_pos (by omega), e, wsm (a := y + 8) (by omega) (by omega), wsm (a := (m : Int)) (by omega) (by omega), wsm (by omega) (by omega)]
        exact congrArg some (by clear e; omega)
    · obtain ⟨m, m8, e, l⟩ := tab_ok (x % 256) (by omega) (by omega)
      refine ⟨m, by omega, by omega, st _ fun k => ?_⟩
      rw [bits_Len64.j0, if_neg h1, if_neg h2, if_pos (by omega), if_pos (by omega), e, wsm (a := (m : Int)) (by omega) (by omega), wsm (by omega) (by omega)]
theorem len_ev {x : Int} (hx : 0 ≤ x ∧ x < 18446744073709551616) : ∃ m : Nat, m ≤ 64 ∧ x < 2 ^ m ∧ Ev (fun k => bits_Len64.f k x) (m : Int) := by
  by_cases h : x ≥ 4294967296
  · obtain ⟨m, m1, l, e⟩ := len_j (x := x / 4294967296) (y := 32) (by omega) (by omega)
    refine ⟨m + 32, by omega, ?_, Ev.congr (fun k => by rw [bits_Len64.f, if_pos h]) (ev_eq (by omega) e)⟩
    rw [Int.pow_add, show (2 : Int) ^ 32 = 4294967296 from by decide]; omega
  · obtain ⟨m, m1, l, e⟩ := len_j (x := x) (y := 0) (by omega) (by omega)
    exact ⟨m, by omega, l, Ev.congr (fun k => by rw [bits_Len64.f, if_neg h]) (ev_eq (by omega) e)⟩

theorem shl_fin : ∀ e : Fin 33, shl .i64 1 (e.val : Int) = 2 ^ e.val := by decide +kernel
theorem pow_bd (e : Nat) (h : e ≤ 32) : (1 : Int) ≤ 2 ^ e ∧ (2 : Int) ^ e ≤ 4294967296 := by
  have : ∀ e : Fin 33, (1 : Int) ≤ 2 ^ e.val ∧ (2 : Int) ^ e.val ≤ 4294967296 := by decide +kernel
  exact this ⟨e, by omega⟩
theorem sq_mono {x y : Int} (hx : 0 ≤ x) (h : x ≤ y) : x * x ≤ y * y := Int.le_trans (Int.mul_le_mul_of_nonneg_left h hx) (Int.mul_le_mul_of_nonneg_right h (by omega))
theorem sq_four (x q : Int) : 4 * (x * (q + 1)) ≤ (x + q + 1) * (x + q + 1) := by
  have h : 0 ≤ (x - (q + 1)) * (x - (q + 1)) := by
    by_cases g : 0 ≤ x - (q + 1)
    · exact Int.mul_nonneg g g
    · rw [show (x - (q + 1)) * (x - (q + 1)) = (-(x - (q + 1))) * (-(x - (q + 1))) from by rw [Int.neg_mul_neg]]
      exact Int.mul_nonneg (by omega) (by omega)
  simp only [Int.mul_add, Int.add_mul, Int.mul_sub, Int.sub_mul, Int.mul_one, Int.one_mul] at *
  rw [Int.mul_comm q x] at *
  omega
theorem sqrt_loop (a : Int) (ha : 1 ≤ a ∧ a ≤ 9223372036854775807) : ∀ (n : Nat) (x : Int), x.toNat ≤ n → 1 ≤ x → x ≤ 4294967296 → a < (x + 1) * (x + 1) →
    ∃ t, Ev (fun k => fix_Sqrt.l0 k a x) t ∧ 0 ≤ t ∧ t * t ≤ a ∧ a < (t + 1) * (t + 1) := by
  intro n
  induction n with
  | zero => intro x h1 h2; omega
  | succ n ih =>
    intro x h1 h2 h3 h4
    have eq : Int.tdiv a x = a / x := Int.tdiv_eq_ediv_of_nonneg (by omega)
    have x1 : a = x * (a / x) + a % x := (Int.mul_ediv_add_emod a x).symm
    have x2 := Int.emod_nonneg a (show x ≠ 0 by omega)
    have x3 := Int.emod_lt_of_pos a (show 0 < x by omega)
    have q0 : 0 ≤ a / x := Int.ediv_nonneg (by omega) (by omega)
    have q1 : a / x ≤ x * (a / x) := by have := Int.mul_le_mul_of_nonneg_right h2 q0; omega
    have e1 : wrap64 (Int.tdiv a x) = a / x := by rw [eq, wsm (by omega) (by omega)]
    have q2 : a / x ≤ 9223372036854775807 := by omega
    have sm : x + a / x ≤ 9223372036854775807 := by
      by_cases g : x = 1
      · rw [g]; rw [g] at h4; omega
      · have := Int.mul_le_mul_of_nonneg_right (show 2 ≤ x by omega) q0; omega
    have e2 : wrap64 (x + a / x) = x + a / x := wsm (by omega) sm
    have e3 : Int.tdiv (x + a / x) 2 = (x + a / x) / 2 := Int.tdiv_eq_ediv_of_nonneg (by omega)
    have e4 : wrap64 ((x + a / x) / 2) = (x + a / x) / 2 := wsm (by omega) (by omega)
    by_cases g : (x + a / x) / 2 ≥ x
    · refine ⟨x, Ev.step (f := fun _ => some x) (fun k => ?_) (Ev.now _), by omega, ?_, h4⟩
      · rw [fix_Sqrt.l0, if_neg (by omega), e1, e2, e3, e4, if_pos g]
      · have := Int.mul_le_mul_of_nonneg_left (show x ≤ a / x by omega) (show 0 ≤ x by omega); omega
    · have f4 := sq_four x (a / x)
      have f5 : (x + a / x + 1) * (x + a / x + 1) ≤ (2 * ((x + a / x) / 2 + 1)) * (2 * ((x + a / x) / 2 + 1)) := sq_mono (by omega) (by omega)
      have f6 : x * (a / x + 1) = x * (a / x) + x := by rw [Int.mul_add, Int.mul_one]
      have f7 : ∀ z : Int, (2 * z) * (2 * z) = 4 * (z * z) := by intro z; rw [Int.mul_assoc, Int.mul_left_comm z 2 z]; omega
      rw [f7] at f5
      have f8 : a < ((x + a / x) / 2 + 1) * ((x + a / x) / 2 + 1) := by
        generalize ((x + a / x) / 2 + 1) * ((x + a / x) / 2 + 1) = u at *
        generalize (x + a / x + 1) * (x + a / x + 1) = v at *
        omega
      have f9 : 1 ≤ (x + a / x) / 2 := by
        by_cases z : (x + a / x) / 2 = 0
        · rw [z] at f8; omega
        · omega
      obtain ⟨t, ev, r⟩ := ih ((x + a / x) / 2) (by omega) f9 (by omega) f8
      refine ⟨t, Ev.step (fun k => ?_) ev, r⟩
      rw [fix_Sqrt.l0, if_neg (by omega), e1, e2, e3, e4, if_neg g]
theorem half_shl (m : Nat) (h : m ≤ 64) : wrap64 (Int.tdiv (wrap64 ((m : Int) + 1)) 2) = (((m + 1) / 2 : Nat) : Int) ∧ shl .i64 1 (((m + 1) / 2 : Nat) : Int) = 2 ^ ((m + 1) / 2) := by
  refine ⟨?_, shl_fin ⟨(m + 1) / 2, by omega⟩⟩
  rw [wsm (a := (m : Int) + 1) (by omega) (by omega), Int.tdiv_eq_ediv_of_nonneg (by omega), wsm (by omega) (by omega)]; omega
theorem sq_pow (m : Nat) (h : m ≤ 64) : (2 : Int) ^ m ≤ 2 ^ ((m + 1) / 2) * 2 ^ ((m + 1) / 2) := by
  have : ∀ m : Fin 65, (2 : Int) ^ m.val ≤ 2 ^ ((m.val + 1) / 2) * 2 ^ ((m.val + 1) / 2) := by decide +kernel
  exact this ⟨m, by omega⟩
theorem sqrt_ev {a : Int} (ha : 1 ≤ a ∧ a ≤ 9223372036854775807) : ∃ t, Ev (fun k => fix_Sqrt.f k a) t ∧ 0 ≤ t ∧ t * t ≤ a ∧ a < (t + 1) * (t + 1) := by
  obtain ⟨m, m1, l, ev⟩ := len_ev (x := a) (by omega)
  have hs := half_shl m m1
  have b := pow_bd ((m + 1) / 2) (by omega)
  have hm := Int.lt_of_lt_of_le l (sq_pow m m1)
  generalize (2 : Int) ^ ((m + 1) / 2) = p at *
  obtain ⟨t, ev2, r⟩ := sqrt_loop a ha p.toNat p (Nat.le_refl _) b.1 b.2 (by
    clear l
    exact Int.lt_of_lt_of_le hm (sq_mono (by omega) (by omega)))
  refine ⟨t, ?_, r⟩
  clear l
  refine Ev.congr (fun k => by rw [fix_Sqrt.f, if_neg (by omega), uw (by omega) (by omega)]) ?_
  refine Ev.bind (a := (m : Int)) (Ev.congr (fun k => by rw [bits_Len.f]) (Ev.bind ev (Ev.now _))) ?_
  exact Ev.congr (fun k => by rw [hs.1, if_pos (by omega), hs.2]) ev2

theorem FixRoots : windhoverlaw01_FixRoots.Pure := by
  intro a ha
  have A := I64_of ha
  apply Ev.rounds
  have hs : ∃ t, Ev (fun k => fix_Sqrt.f k a) t ∧ (a < 0 → t = 0) ∧ (0 ≤ a → 0 ≤ t ∧ t * t ≤ a ∧ a < (t + 1) * (t + 1)) := by
    by_cases h : a ≤ 0
    · refine ⟨0, Ev.congr (fun k => by rw [fix_Sqrt.f, if_pos h]) (Ev.now _), fun _ => rfl, fun _ => ⟨by omega, by omega, by omega⟩⟩
    · obtain ⟨t, e, r⟩ := sqrt_ev (a := a) ⟨by omega, A.2⟩
      exact ⟨t, e, fun _ => by omega, fun _ => r⟩
  obtain ⟨t, ev, r1, r2⟩ := hs
  refine Ev.congr (fun k => by rw [windhoverlaw01_FixRoots.f]) (Ev.bind ev ?_)
  by_cases h : a < 0
  · exact Ev.congr (fun k => by rw [if_pos h, if_pos (r1 h)]) (Ev.bind awake_ev (Ev.now _))
  obtain ⟨t0, t1, t2⟩ := r2 (by omega)
  unfold I64 at A
  have tb : t ≤ 3037000499 := by
    apply Int.not_lt.mp
    intro g
    have := sq_mono (x := 3037000500) (y := t) (by decide) (by omega)
    omega
  have tn : 0 ≤ t * t := Int.mul_nonneg t0 t0
  have w : wrap64 (t * t) = t * t := wsm (by omega) (by omega)
  have w1 : wrap64 (t + 1) = t + 1 := wsm (by omega) (by omega)
  obtain ⟨b1, d1, o1, w1'⟩ := of_ev (t + 1) (by omega) (by omega)
  obtain ⟨b2, d2, o2, w2⟩ := of_ev a A.1 A.2
  obtain ⟨c1, z1, p1, v1⟩ := times_ev w1' w1' (by decide) (by decide)
  obtain ⟨r, q, sg⟩ := cmp_ev v1 (w2.mono (by decide)) (by decide)
  have hr : r > 0 := by unfold Sg at sg; omega
  refine Ev.congr (fun k => by rw [if_neg h, if_neg (by omega), if_neg (by omega), w, show decide (t * t > a) = false from by simp; omega]) ?_
  refine Ev.step (fun k => by rw [windhoverlaw01_FixRoots.j0, if_neg (by decide), w1]) ?_
  exact Ev.bind o1 (Ev.bind o1 (Ev.bind p1 (Ev.bind o2 (Ev.bind q (Ev.congr (fun k => by rw [if_pos hr]) (Ev.bind awake_ev (Ev.now _)))))))

end Go.Proofs.Ytmjhhcalcpodjaa.Pure
