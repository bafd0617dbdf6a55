/- The angle of any direction is the document's. -/
import Derived.Test.YtplfcbbaanjdgaaPTrigAtansx7
namespace Go.Proofs.Ytplfcbbaanjdgaa.Pure
open Go.RowKit Go.Proofs.Ytplfcbbaanjdgaa.PTrigAtans Go.Proofs.YtplfcbbaanjdgaaW.PrintWords Go.Proofs.YtplfcbbaanjdgaaW.PrintLast

set_option linter.unusedVariables false
set_option linter.unusedSimpArgs false
theorem Ev.now {α : Type} (r : α) : Ev (fun _ => some r) r := ⟨0, fun _ _ => rfl⟩

/-! ### Whole numbers of any length, by digits of 2^30: the plain lists -/
def V : List Int → Int
  | [] => 0
  | d :: ds => d + 1073741824 * V ds
def Dg : List Int → Prop
  | [] => True
  | d :: ds => (0 ≤ d ∧ d < 1073741824) ∧ Dg ds
def Trm : List Int → Prop
  | [] => True
  | d :: ds => (ds = [] → d ≠ 0) ∧ Trm ds
theorem V_nonneg : ∀ l, Dg l → 0 ≤ V l
  | [], _ => Int.le_refl _
  | d :: ds, h => by have := V_nonneg ds h.2; have := h.1; simp only [V]; omega
theorem V_pos : ∀ l, Dg l → Trm l → l ≠ [] → 0 < V l
  | [], _, _, h => absurd rfl h
  | d :: ds, h, t, _ => by
    have hn := V_nonneg ds h.2
    have := h.1
    simp only [V]
    by_cases e : ds = []
    · have := t.1 e; omega
    · have := V_pos ds h.2 t.2 e; omega
theorem V_lt_len : ∀ a b, Dg a → Dg b → Trm b → a.length < b.length → V a < V b
  | [], b, _, hb, tb, h => V_pos b hb tb (by intro e; simp [e] at h)
  | x :: xs, [], _, _, _, h => by simp at h
  | x :: xs, y :: ys, ha, hb, tb, h => by
    have := V_lt_len xs ys ha.2 hb.2 tb.2 (by simpa using h)
    have := ha.1; have := hb.1
    simp only [V]; omega
def Sg (x y r : Int) : Prop := (r = -1 ∧ x < y) ∨ (r = 0 ∧ x = y) ∨ (r = 1 ∧ x > y)
def cmpL : List Int → List Int → Int
  | x :: xs, y :: ys => if cmpL xs ys ≠ 0 then cmpL xs ys else if x < y then -1 else if x > y then 1 else 0
  | _, _ => 0
theorem cmpL_spec : ∀ a b, Dg a → Dg b → a.length = b.length → Sg (V a) (V b) (cmpL a b)
  | [], [], _, _, _ => by simp [cmpL, Sg]
  | [], y :: ys, _, _, h => by simp at h
  | x :: xs, [], _, _, h => by simp at h
  | x :: xs, y :: ys, ha, hb, h => by
    have ih := cmpL_spec xs ys ha.2 hb.2 (by simpa using h)
    have := ha.1; have := hb.1
    unfold Sg at *
    simp only [V, cmpL]
    by_cases e : cmpL xs ys ≠ 0
    · rw [if_pos e]; omega
    · rw [if_neg e]
      by_cases l : x < y
      · rw [if_pos l]; omega
      · rw [if_neg l]
        by_cases g : x > y
        · rw [if_pos g]; omega
        · rw [if_neg g]; omega
theorem cmpL_drop : ∀ (n : Nat) (a b : List Int), cmpL (a.drop n) (b.drop n) ≠ 0 → cmpL a b = cmpL (a.drop n) (b.drop n)
  | 0, _, _, _ => rfl
  | n + 1, [], b, h => by simp [cmpL] at h
  | n + 1, x :: xs, [], h => by simp [cmpL] at h
  | n + 1, x :: xs, y :: ys, h => by
    have ih := cmpL_drop n xs ys h
    simp only [List.drop_succ_cons] at *
    rw [← ih] at h ⊢
    simp only [cmpL, if_pos h]
def trimL : List Int → List Int
  | [] => []
  | d :: ds => if trimL ds = [] then (if d = 0 then [] else [d]) else d :: trimL ds
theorem V_trimL : ∀ l, V (trimL l) = V l
  | [] => rfl
  | d :: ds => by
    have ih := V_trimL ds
    unfold trimL
    by_cases e : trimL ds = []
    · rw [if_pos e]
      rw [e] at ih
      simp only [V] at ih
      by_cases z : d = 0
      · rw [if_pos z]; simp only [V]; omega
      · rw [if_neg z]; simp only [V]; omega
    · rw [if_neg e]; simp only [V]; omega
theorem Dg_trimL : ∀ l, Dg l → Dg (trimL l)
  | [], _ => trivial
  | d :: ds, h => by
    have ih := Dg_trimL ds h.2
    unfold trimL
    split
    · split
      · exact trivial
      · exact ⟨h.1, trivial⟩
    · exact ⟨h.1, ih⟩
theorem Trm_trimL : ∀ l, Trm (trimL l)
  | [] => trivial
  | d :: ds => by
    have ih := Trm_trimL ds
    unfold trimL
    split
    · split
      · exact trivial
      · next z => exact ⟨fun _ => z, trivial⟩
    · next e => exact ⟨fun q => absurd q e, ih⟩
theorem trimL_len : ∀ l, (trimL l).length ≤ l.length
  | [] => Nat.le_refl _
  | d :: ds => by
    have ih := trimL_len ds
    unfold trimL
    split
    · split <;> simp
    · simpa using ih
theorem trimL_snoc : ∀ (xs : List Int) (x : Int), trimL (xs ++ [x]) = if x = 0 then trimL xs else xs ++ [x]
  | [], x => by simp [trimL]
  | d :: ds, x => by
    have ih := trimL_snoc ds x
    simp only [List.cons_append, trimL, ih]
    by_cases z : x = 0
    · simp only [if_pos z]
    · simp only [if_neg z]; simp
theorem mul_bd {x y : Int} (hx : 0 ≤ x ∧ x < 1073741824) (hy : 0 ≤ y ∧ y < 1073741824) : 0 ≤ x * y ∧ x * y ≤ 1152921502459363329 := by
  refine ⟨Int.mul_nonneg hx.1 hy.1, ?_⟩
  have := Int.mul_le_mul (show x ≤ 1073741823 by omega) (show y ≤ 1073741823 by omega) hy.1 (by decide)
  omega
def mulL : List Int → List Int → Int → Int → List Int
  | [], _, _, _ => []
  | o :: os, [], _, c => (o + c) :: os
  | o :: os, y :: ys, x, c => ((o + x * y + c) % 1073741824) :: mulL os ys x ((o + x * y + c) / 1073741824)
theorem mulL_len : ∀ o b x c, (mulL o b x c).length = o.length
  | [], _, _, _ => by unfold mulL; rfl
  | o :: os, [], _, _ => by unfold mulL; rfl
  | o :: os, y :: ys, x, c => by unfold mulL; simp [mulL_len os ys]
def AllZ : List Int → Prop
  | [] => True
  | d :: ds => d = 0 ∧ AllZ ds
theorem mulL_spec : ∀ o b x c, Dg o → Dg b → b.length < o.length → AllZ (o.drop b.length) → 0 ≤ x ∧ x < 1073741824 → 0 ≤ c ∧ c < 1073741824 →
    V (mulL o b x c) = V o + x * V b + c ∧ Dg (mulL o b x c) ∧ AllZ ((mulL o b x c).drop (b.length + 1))
  | [], _, _, _, _, _, h, _, _, _ => by simp at h
  | o :: os, [], x, c, ho, _, _, hz, hx, hc => by
    simp only [List.length_nil, List.drop_zero, AllZ] at hz
    unfold mulL
    refine ⟨by simp [V]; omega, ⟨by omega, ho.2⟩, by simpa using hz.2⟩
  | o :: os, y :: ys, x, c, ho, hb, hl, hz, hx, hc => by
    have hm := mul_bd hx hb.1
    have := ho.1
    obtain ⟨i1, i2, i3⟩ := mulL_spec os ys x ((o + x * y + c) / 1073741824) ho.2 hb.2 (by simpa using hl) (by simpa using hz) hx (by omega)
    unfold mulL
    refine ⟨?_, ⟨by omega, i2⟩, by simpa using i3⟩
    simp only [V, i1]
    rw [Int.mul_add x y, Int.mul_left_comm x 1073741824 (V ys)]
    generalize x * V ys = t
    generalize x * y = u at *
    omega
def timesL : List Int → List Int → List Int → List Int
  | o, [], _ => o
  | o, x :: xs, b => match mulL o b x 0 with
    | [] => []
    | h :: t => h :: timesL t xs b
theorem timesL_spec : ∀ a b o, Dg a → Dg b → Dg o → o.length = a.length + b.length → AllZ (o.drop b.length) → V (timesL o a b) = V o + V a * V b ∧ Dg (timesL o a b) ∧ (timesL o a b).length = o.length
  | [], b, o, _, _, ho, _, _ => by unfold timesL; exact ⟨by simp [V], ho, rfl⟩
  | x :: xs, b, o, ha, hb, ho, hl, hz => by
    have hl1 : b.length < o.length := by simp at hl; omega
    obtain ⟨i1, i2, i3⟩ := mulL_spec o b x 0 ho hb hl1 hz ha.1 (by decide)
    have hlen := mulL_len o b x 0
    unfold timesL
    generalize mulL o b x 0 = m at *
    cases m with
    | nil => simp at hlen; omega
    | cons h t =>
      obtain ⟨j1, j2, j3⟩ := timesL_spec xs b t ha.2 hb i2.2 (by simp at hl hlen; omega) (by simpa using i3)
      refine ⟨?_, ⟨i2.1, j2⟩, by simp at hlen ⊢; omega⟩
      simp only [V] at i1 ⊢
      rw [j1, Int.add_mul, Int.mul_assoc 1073741824 (V xs) (V b)]
      generalize V xs * V b = q
      generalize x * V b = u at *
      omega

/-! ### The printed functions on whole numbers do what the plain lists say -/
theorem wsm {a : Int} (h1 : -9223372036854775808 ≤ a) (h2 : a ≤ 9223372036854775807) : wrap64 a = a := by unfold wrap64; omega
theorem rd_nat (l : List Int) (i : Nat) : rd l (i : Int) = l.getD i 0 := by simp [rd]
theorem drop_rd (l : List Int) (i : Nat) (h : i < l.length) : l.drop i = rd l (i : Int) :: l.drop (i + 1) := by
  rw [rd_nat, List.drop_eq_getElem_cons h]
  simp [List.getD_eq_getElem?_getD, h]
theorem Dg_drop : ∀ (l : List Int) (i : Nat), Dg l → Dg (l.drop i)
  | [], _, _ => by simp [Dg]
  | d :: ds, 0, h => h
  | d :: ds, i + 1, h => Dg_drop ds i h.2
theorem Dg_rd {l : List Int} (h : Dg l) {i : Nat} (hi : i < l.length) : 0 ≤ rd l (i : Int) ∧ rd l (i : Int) < 1073741824 := by
  have := Dg_drop l i h
  rw [drop_rd l i hi] at this
  exact this.1
theorem ev_eq {α : Type} {g : Nat → Option α} {r s : α} (h : r = s) (e : Ev g s) : Ev g r := h ▸ e
theorem trim_ev (l : List Int) (hs : l.length ≤ 1000000) : ∀ (n : Nat), n ≤ l.length → Ev (fun k => windhoverref00_trim.l0 k l (n : Int)) (trimL (l.take n)) := by
  intro n
  induction n with
  | zero =>
    intro _
    refine Ev.step (f := fun _ => some (trimL (l.take 0))) (fun k => ?_) (Ev.now _)
    rw [windhoverref00_trim.l0, if_neg (by decide), if_pos (by decide), if_pos (by omega)]
    simp [trimL]
  | succ n ih =>
    intro hn
    have e : wrap64 (((n + 1 : Nat) : Int) - 1) = (n : Int) := by rw [wsm (by omega) (by omega)]; omega
    have ht : l.take (n + 1) = l.take n ++ [rd l (n : Int)] := by
      rw [rd_nat, List.take_succ_eq_append_getElem (by omega)]
      simp [List.getD_eq_getElem?_getD, show n < l.length from by omega]
    by_cases z : rd l (n : Int) = 0
    · refine ev_eq (by rw [ht, trimL_snoc, if_pos z]) (Ev.step (fun k => ?_) (ih (by omega)))
      rw [windhoverref00_trim.l0, if_pos (by omega), e, if_pos (by omega), if_pos (by omega), if_pos z]
    · refine Ev.step (f := fun _ => some (trimL (l.take (n + 1)))) (fun k => ?_) (Ev.now _)
      rw [windhoverref00_trim.l0, if_pos (by omega), e, if_pos (by omega), if_pos (by omega), if_neg z, if_pos (by omega), if_pos (by omega)]
      rw [ht, trimL_snoc, if_neg z, ← ht]
      rfl
theorem trimf_ev (l : List Int) (hs : l.length ≤ 1000000) : Ev (fun k => windhoverref00_trim.f k l) (trimL l) := by
  have := trim_ev l hs l.length (Nat.le_refl _)
  rw [List.take_length] at this
  exact this
theorem cmpL_at (a b : List Int) (i : Nat) (h1 : i < a.length) (h2 : i < b.length) (hz : cmpL (a.drop (i + 1)) (b.drop (i + 1)) = 0) :
    cmpL (a.drop i) (b.drop i) = if rd a i < rd b i then -1 else if rd a i > rd b i then 1 else 0 := by
  rw [drop_rd a i h1, drop_rd b i h2]
  simp only [cmpL]
  rw [if_neg (by simpa using hz)]
theorem size_ev (a b : List Int) (hl : a.length = b.length) (hs : a.length ≤ 1000) : ∀ (n : Nat), n ≤ a.length → cmpL (a.drop n) (b.drop n) = 0 →
    Ev (fun k => windhoverref00_size.l0 k a b ((n : Int) - 1)) (cmpL a b) := by
  intro n
  induction n with
  | zero =>
    intro _ hz
    rw [List.drop_zero, List.drop_zero] at hz
    rw [hz]
    refine Ev.step (f := fun _ => some 0) (fun k => ?_) (Ev.now _)
    rw [windhoverref00_size.l0, if_neg (by omega)]
  | succ n ih =>
    intro hn hz
    have e1 : (((n + 1 : Nat) : Int) - 1) = (n : Int) := by omega
    have e2 : wrap64 ((n : Int) - 1) = (n : Int) - 1 := wsm (by omega) (by omega)
    have hc := cmpL_at a b n (by omega) (by omega) hz
    rw [e1]
    by_cases h1 : rd a n < rd b n
    · rw [if_pos h1] at hc
      refine ev_eq (s := -1) ?_ (Ev.step (f := fun _ => some (-1)) (fun k => ?_) (Ev.now _))
      · rw [cmpL_drop n a b (by rw [hc]; decide), hc]
      · rw [windhoverref00_size.l0, if_pos (by omega), if_pos (by omega), if_pos (by omega), if_pos (by omega), if_pos h1]
    · rw [if_neg h1] at hc
      by_cases h2 : rd a n > rd b n
      · rw [if_pos h2] at hc
        refine ev_eq (s := 1) ?_ (Ev.step (f := fun _ => some 1) (fun k => ?_) (Ev.now _))
        · rw [cmpL_drop n a b (by rw [hc]; decide), hc]
        · rw [windhoverref00_size.l0, if_pos (by omega), if_pos (by omega), if_pos (by omega), if_pos (by omega), if_neg h1, if_pos h2]
      · rw [if_neg h2] at hc
        refine Ev.step (fun k => ?_) (ih (by omega) hc)
        rw [windhoverref00_size.l0, if_pos (by omega), if_pos (by omega), if_pos (by omega), if_pos (by omega), if_neg h1, if_neg h2, e2]
/-- Magnitudes are compared. -/
theorem sizef_ev (a b : List Int) (ha : Dg a) (hb : Dg b) (ta : Trm a) (tb : Trm b) (hs : a.length ≤ 1000) : ∃ r, Ev (fun k => windhoverref00_size.f k a b) r ∧ Sg (V a) (V b) r := by
  by_cases hl : a.length = b.length
  · refine ⟨cmpL a b, ?_, cmpL_spec a b ha hb hl⟩
    have h := size_ev a b hl hs a.length (Nat.le_refl _) (by rw [List.drop_of_length_le (Nat.le_refl _), List.drop_of_length_le (by omega)]; rfl)
    refine Ev.congr (fun k => ?_) h
    rw [windhoverref00_size.f, if_pos (by omega), wsm (by omega) (by omega)]
  · by_cases hlt : a.length < b.length
    · refine ⟨-1, Ev.congr (fun k => ?_) (Ev.now _), .inl ⟨rfl, V_lt_len a b ha hb tb hlt⟩⟩
      rw [windhoverref00_size.f, if_neg (by omega), if_pos (by omega)]
    · refine ⟨1, Ev.congr (fun k => ?_) (Ev.now _), .inr (.inr ⟨rfl, V_lt_len b a hb ha ta (by omega)⟩)⟩
      rw [windhoverref00_size.f, if_neg (by omega), if_neg (by omega)]
/-- A whole number, as its sign and its digits. -/
def W (L : Nat) (b : Bool) (d : List Int) (n : Int) : Prop := Dg d ∧ Trm d ∧ (b = true → d ≠ []) ∧ n = (if b = true then -V d else V d) ∧ d.length ≤ L
theorem W.mono {L M : Nat} {b : Bool} {d : List Int} {n : Int} (h : W L b d n) (hl : L ≤ M) : W M b d n := ⟨h.1, h.2.1, h.2.2.1, h.2.2.2.1, Nat.le_trans h.2.2.2.2 hl⟩
theorem len_of {d : List Int} (h : Dg d) (t : Trm d) : (V d < 1073741824 → d.length ≤ 1) ∧ (V d < 1152921504606846976 → d.length ≤ 2) ∧ (V d < 1237940039285380274899124224 → d.length ≤ 3) ∧ (V d < 1329227995784915872903807060280344576 → d.length ≤ 4) := by
  match d, h, t with
  | [], _, _ => exact ⟨fun _ => by simp, fun _ => by simp, fun _ => by simp, fun _ => by simp⟩
  | [a], _, _ => exact ⟨fun _ => by simp, fun _ => by simp, fun _ => by simp, fun _ => by simp⟩
  | [a, b], h, t =>
    have := h.1; have := h.2.1; have := t.2.1 rfl
    simp only [V]; exact ⟨fun _ => by omega, fun _ => by simp, fun _ => by simp, fun _ => by simp⟩
  | [a, b, c], h, t =>
    have := h.1; have := h.2.1; have := h.2.2.1; have := t.2.2.1 rfl
    simp only [V]; exact ⟨fun _ => by omega, fun _ => by omega, fun _ => by simp, fun _ => by simp⟩
  | [a, b, c, e], h, t =>
    have := h.1; have := h.2.1; have := h.2.2.1; have := h.2.2.2.1; have := t.2.2.2.1 rfl
    simp only [V]; exact ⟨fun _ => by omega, fun _ => by omega, fun _ => by omega, fun _ => by simp⟩
  | a :: b :: c :: e :: f :: ds, h, t =>
    have := h.1; have := h.2.1; have := h.2.2.1; have := h.2.2.2.1
    have := V_pos (f :: ds) h.2.2.2.2 t.2.2.2.2 (by simp)
    simp only [V] at *
    exact ⟨fun _ => by omega, fun _ => by omega, fun _ => by omega, fun _ => by omega⟩
theorem of_loop (bl : Bool) : ∀ (m : Nat) (n : Int) (out : List Int), n.natAbs ≤ m → -9223372036854775808 ≤ n → n ≤ 9223372036854775807 → (∃ c : Nat, n.natAbs * 2 ^ c ≤ 9223372036854775808 ∧ out.length ≤ c) →
    ∃ ds, Ev (fun k => windhoverref00_Of.l0 k n bl out) (bl, out ++ ds) ∧ Dg ds ∧ Trm ds ∧ V ds = n.natAbs ∧ (n = 0 → ds = []) := by
  intro m
  induction m with
  | zero =>
    intro n out hm _ _ _
    obtain rfl : n = 0 := by omega
    refine ⟨[], Ev.step (f := fun _ => some (bl, out)) (fun k => ?_) (ev_eq (by simp) (Ev.now _)), trivial, trivial, rfl, fun _ => rfl⟩
    rw [windhoverref00_Of.l0, if_pos rfl]
  | succ m ih =>
    intro n out hm h1 h2 hc
    by_cases hz : n = 0
    · subst hz
      refine ⟨[], Ev.step (f := fun _ => some (bl, out)) (fun k => ?_) (ev_eq (by simp) (Ev.now _)), trivial, trivial, rfl, fun _ => rfl⟩
      rw [windhoverref00_Of.l0, if_pos rfl]
    · obtain ⟨c, hc1, hc2⟩ := hc
      have hc63 : c ≤ 63 := by
        rcases Nat.lt_or_ge c 64 with h | h
        · omega
        · have h3 : 2 ^ 64 ≤ 2 ^ c := Nat.pow_le_pow_right (by decide) h
          have h4 : 1 * 2 ^ c ≤ n.natAbs * 2 ^ c := Nat.mul_le_mul_right _ (by omega)
          omega
      have key : ∀ q : Int, q.natAbs * 2 ≤ n.natAbs → ∃ c : Nat, q.natAbs * 2 ^ c ≤ 9223372036854775808 ∧ out.length + 1 ≤ c := by
        intro q hq
        refine ⟨c + 1, ?_, by omega⟩
        have : q.natAbs * 2 ^ (c + 1) ≤ n.natAbs * 2 ^ c := by
          rw [Nat.pow_succ, Nat.mul_comm (2 ^ c) 2, ← Nat.mul_assoc]
          exact Nat.mul_le_mul_right _ hq
        omega
      by_cases hn : 0 ≤ n
      · have e1 : Int.tmod n 1073741824 = n % 1073741824 := Int.tmod_eq_emod_of_nonneg hn
        have e2 : Int.tdiv n 1073741824 = n / 1073741824 := Int.tdiv_eq_ediv_of_nonneg hn
        obtain ⟨ds, hev, hd, ht, hv, hnil⟩ := ih (n / 1073741824) (out ++ [n % 1073741824]) (by omega) (by omega) (by omega) (by simpa using key (n / 1073741824) (by omega))
        refine ⟨n % 1073741824 :: ds, ev_eq (by simp) (Ev.step (fun k => ?_) hev), ⟨by omega, hd⟩, ⟨fun e => ?_, ht⟩, by simp only [V]; omega, fun h => absurd h hz⟩
        · rw [windhoverref00_Of.l0, if_neg hz, e1, e2, if_neg (by omega), if_pos (by omega), wsm (by omega) (by omega)]
        · rw [e] at hv; simp only [V] at hv; omega
      · obtain ⟨p, rfl⟩ : ∃ p, n = -p := ⟨-n, by omega⟩
        have hp : 0 ≤ p := by omega
        have e1 : Int.tmod (-p) 1073741824 = -(p % 1073741824) := by rw [Int.neg_tmod, Int.tmod_eq_emod_of_nonneg hp]
        have e2 : Int.tdiv (-p) 1073741824 = -(p / 1073741824) := by rw [Int.neg_tdiv, Int.tdiv_eq_ediv_of_nonneg hp]
        obtain ⟨ds, hev, hd, ht, hv, hnil⟩ := ih (-(p / 1073741824)) (out ++ [p % 1073741824]) (by omega) (by omega) (by omega) (by simpa using key (-(p / 1073741824)) (by omega))
        refine ⟨p % 1073741824 :: ds, ev_eq (by simp) (Ev.step (fun k => ?_) hev), ⟨by omega, hd⟩, ⟨fun e => ?_, ht⟩, by simp only [V]; omega, fun h => absurd h hz⟩
        · rw [windhoverref00_Of.l0, if_neg hz, e1, e2]
          by_cases z : p % 1073741824 = 0
          · rw [if_neg (by omega), if_pos (by omega), wsm (by omega) (by omega), z]; rfl
          · rw [if_pos (by omega), if_pos (by omega), wsm (a := -(p / 1073741824)) (by omega) (by omega), Int.neg_neg, wsm (by omega) (by omega)]
        · rw [e] at hv; simp only [V] at hv; omega
theorem of_ev (n : Int) (h1 : -9223372036854775808 ≤ n) (h2 : n ≤ 9223372036854775807) : ∃ b d, Ev (fun k => windhoverref00_Of.f k n) (b, d) ∧ W 3 b d n := by
  obtain ⟨ds, hev, hd, ht, hv, hnil⟩ := of_loop (decide (n < 0)) n.natAbs n [] (Nat.le_refl _) h1 h2 ⟨0, by omega, by simp⟩
  refine ⟨decide (n < 0), ds, Ev.congr (fun k => by rw [windhoverref00_Of.f]) (ev_eq (by simp) hev), hd, ht, fun h => ?_, ?_, (len_of hd ht).2.2.1 (by omega)⟩
  · intro e
    rw [e] at hv
    simp only [V] at hv
    simp at h
    omega
  · by_cases h : n < 0
    · rw [if_pos (by simpa using h)]; omega
    · rw [if_neg (by simpa using h)]; omega
theorem W_range {L : Nat} {b : Bool} {d : List Int} {n : Int} (h : W L b d n) : (b = true → n < 0) ∧ (b = false → 0 ≤ n) := by
  obtain ⟨hd, ht, hb, hn, _⟩ := h
  have h0 := V_nonneg d hd
  refine ⟨fun e => ?_, fun e => ?_⟩
  · have := V_pos d hd ht (hb e); rw [if_pos e] at hn; omega
  · rw [e, if_neg (by decide)] at hn; omega
theorem cmp_ev {L : Nat} {a b : Bool} {x y : List Int} {m n : Int} (hx : W L a x m) (hy : W L b y n) (hL : L ≤ 1000) : ∃ r, Ev (fun k => windhoverref00_Cmp.f k a x b y) r ∧ Sg m n r := by
  have rx := W_range hx
  have ry := W_range hy
  obtain ⟨dx, tx, bx, ex, lx⟩ := hx
  obtain ⟨dy, ty, by', ey, ly⟩ := hy
  by_cases hab : a = b
  · subst hab
    obtain ⟨r, hr, hs⟩ := sizef_ev x y dx dy tx ty (by omega)
    cases a
    · refine ⟨r, Ev.congr (fun k => ?_) (Ev.bind (f := fun _ t => some t) hr (Ev.now _)), ?_⟩
      · rw [windhoverref00_Cmp.f, if_neg (by decide)]; rfl
      · simp at ex ey; rw [ex, ey]; exact hs
    · refine ⟨-r, Ev.congr (fun k => ?_) (Ev.bind (f := fun _ t => some (wrap64 (-t))) hr (ev_eq ?_ (Ev.now _))), ?_⟩
      · rw [windhoverref00_Cmp.f, if_neg (by decide)]; rfl
      · rcases hs with ⟨rfl, _⟩ | ⟨rfl, _⟩ | ⟨rfl, _⟩ <;> exact (wsm (by decide) (by decide)).symm
      · simp at ex ey; unfold Sg at *; omega
  · cases a <;> cases b
    · exact absurd rfl hab
    · refine ⟨1, Ev.congr (fun k => ?_) (Ev.now _), .inr (.inr ⟨rfl, by have := rx.2 rfl; have := ry.1 rfl; omega⟩)⟩
      rw [windhoverref00_Cmp.f, if_pos (by decide), if_neg (by decide)]
    · refine ⟨-1, Ev.congr (fun k => ?_) (Ev.now _), .inl ⟨rfl, by have := rx.1 rfl; have := ry.2 rfl; omega⟩⟩
      rw [windhoverref00_Cmp.f, if_pos (by decide), if_pos rfl]
    · exact absurd rfl hab
def I64 (n : Int) : Prop := -9223372036854775808 ≤ n ∧ n ≤ 9223372036854775807
theorem mulL_cons {o y : Int} {os ys : List Int} {x c : Int} : mulL (o :: os) (y :: ys) x c = ((o + x * y + c) % 1073741824) :: mulL os ys x ((o + x * y + c) / 1073741824) := by
  conv => lhs; unfold mulL
theorem set_mid (P : List Int) (o v : Int) (os : List Int) (n : Nat) (h : P.length = n) : (P ++ o :: os).set n v = P ++ v :: os := by
  subst h
  simp [List.set_append_right]
theorem rd_mid (P : List Int) (o : Int) (os : List Int) (n : Nat) (h : P.length = n) : rd (P ++ o :: os) (n : Int) = o := by
  subst h
  rw [rd_nat]
  simp [List.getD_eq_getElem?_getD]
theorem wadd (i j : Nat) (h : i + j ≤ 1000000) : wrap64 ((i : Int) + (j : Int)) = ((i + j : Nat) : Int) := by rw [wsm (by omega) (by omega)]; omega
theorem wadd1 (i : Nat) (h : i ≤ 1000000) : wrap64 ((i : Int) + 1) = ((i + 1 : Nat) : Int) := by rw [wsm (by omega) (by omega)]; omega
theorem times_in (ab bb : Bool) (a b : List Int) (hal : a.length ≤ 400) (hbl : b.length ≤ 400) (hb : Dg b) (i : Nat) (hi : i < a.length) (ha : Dg a) (r : Bool × List Int) :
    ∀ (n j : Nat) (P o : List Int) (c : Int), b.length = j + n → P.length = i + j → n < o.length → P.length + o.length ≤ 900 → Dg o → AllZ (o.drop n) → (0 ≤ c ∧ c < 1073741824) →
    Ev (fun k => windhoverref00_Times.l0 k (P ++ mulL o (b.drop j) (rd a i) c) ((i + 1 : Nat) : Int) ab a bb b) r →
    Ev (fun k => windhoverref00_Times.l1 k (P ++ o) (i : Int) c (j : Int) ab a bb b) r := by
  intro n
  have hx := Dg_rd ha hi
  induction n with
  | zero =>
    intro j P o c hj hP ho htot hd hz hc hev
    cases o with
    | nil => simp at ho
    | cons o os =>
      have em : mulL (o :: os) [] (rd a i) c = (o + c) :: os := by unfold mulL; rfl
      rw [List.drop_of_length_le (show b.length ≤ j by omega), em] at hev
      simp only [List.drop_zero, AllZ] at hz
      have hlen : ((P ++ o :: os).length : Int) = i + j + os.length + 1 := by simp; omega
      simp only [List.length_cons] at htot
      have ho0 : o = 0 := hz.1
      clear hz hx
      have q1 : ¬ (j : Int) < (b.length : Int) := by omega
      have q2 : 0 ≤ ((i + b.length : Nat) : Int) := by omega
      have q3 : ((i + b.length : Nat) : Int) < ((P ++ o :: os).length : Int) := by omega
      have q4 : P.length = i + b.length := by omega
      have q5 : i + b.length ≤ 1000000 := by omega
      have q6 : i ≤ 1000000 := by omega
      have e3 : -9223372036854775808 ≤ o + c ∧ o + c ≤ 9223372036854775807 := by omega
      refine Ev.step (fun k => ?_) hev
      rw [windhoverref00_Times.l1, if_neg q1, wadd i b.length q5, if_pos q2, if_pos q3, wadd1 i q6, rd_mid P o os _ q4, wsm e3.1 e3.2, Int.toNat_natCast, set_mid P o (o + c) os _ q4]
  | succ n ih =>
    intro j P o c hj hP ho htot hd hz hc hev
    cases o with
    | nil => simp at ho
    | cons o os =>
      have q : j < b.length := by omega
      have hy := Dg_rd hb q
      have hm := mul_bd hx hy
      have hod := hd.1
      rw [drop_rd b j q, mulL_cons] at hev
      have hlen : ((P ++ o :: os).length : Int) = i + j + os.length + 1 := by simp; omega
      simp only [List.length_cons] at htot ho
      have q1 : (j : Int) < (b.length : Int) := by omega
      have q2 : 0 ≤ ((i + j : Nat) : Int) := by omega
      have q3 : ((i + j : Nat) : Int) < ((P ++ o :: os).length : Int) := by omega
      have q4 : P.length = i + j := by omega
      have q5 : i + j ≤ 1000000 := by omega
      have q6 : j ≤ 1000000 := by omega
      have q7 : 0 ≤ (i : Int) := by omega
      have q8 : (i : Int) < (a.length : Int) := by omega
      have q9 : 0 ≤ (j : Int) := by omega
      have r1 : b.length = j + 1 + n := by omega
      have r2 : n < os.length := by omega
      have key : ∀ t : Int, 0 ≤ t → t ≤ 1152921502459363329 → wrap64 t = t ∧ wrap64 (o + t) = o + t ∧ wrap64 (o + t + c) = o + t + c ∧ Int.tmod (o + t + c) 1073741824 = (o + t + c) % 1073741824 ∧ wrap64 (Int.tdiv (o + t + c) 1073741824) = (o + t + c) / 1073741824 ∧ (0 ≤ (o + t + c) / 1073741824 ∧ (o + t + c) / 1073741824 < 1073741824) := by
        intro t h0 h1
        refine ⟨wsm (by omega) (by omega), wsm (by omega) (by omega), wsm (by omega) (by omega), Int.tmod_eq_emod_of_nonneg (by omega), ?_, ⟨by omega, by omega⟩⟩
        rw [Int.tdiv_eq_ediv_of_nonneg (by omega), wsm (by omega) (by omega)]
      have hl2 : (P ++ [(o + rd a i * rd b j + c) % 1073741824]).length = i + (j + 1) := by simp; omega
      have hl3 : (P ++ [(o + rd a i * rd b j + c) % 1073741824]).length + os.length ≤ 900 := by simp; omega
      obtain ⟨k1, k2, k3, k4, k5, k6⟩ := key _ hm.1 hm.2
      clear key hlen htot
      have hev' := ih (j + 1) (P ++ [(o + rd a i * rd b j + c) % 1073741824]) os _ r1 hl2 r2 hl3 hd.2 hz k6 (by rw [List.append_assoc]; exact hev)
      refine Ev.step (fun k => ?_) hev'
      rw [windhoverref00_Times.l1, if_pos q1, wadd i j q5, if_pos q2, if_pos q3, if_pos q7, if_pos q8, if_pos q9, rd_mid P o os _ q4, k1, k2, k3, k4, k5, wadd1 j q6, Int.toNat_natCast, set_mid P o _ os _ q4, List.append_assoc]
      rfl
theorem timesL_step {o : List Int} {x : Int} {xs b : List Int} {h : Int} {t : List Int} (e : mulL o b x 0 = h :: t) : timesL o (x :: xs) b = h :: timesL t xs b := by
  conv => lhs; unfold timesL
  rw [e]
theorem times_out (ab bb : Bool) (a b : List Int) (hal : a.length ≤ 400) (hbl : b.length ≤ 400) (ha : Dg a) (hb : Dg b) : ∀ (n i : Nat) (P o : List Int), a.length = i + n → P.length = i → o.length = n + b.length → Dg o → AllZ (o.drop b.length) →
    Ev (fun k => windhoverref00_Times.l0 k (P ++ o) (i : Int) ab a bb b) (ab != bb, trimL (P ++ timesL o (a.drop i) b)) := by
  intro n
  induction n with
  | zero =>
    intro i P o hi hP ho hd hz
    rw [List.drop_of_length_le (show a.length ≤ i by omega)]
    have e : timesL o [] b = o := by unfold timesL; rfl
    rw [e]
    refine Ev.step (f := fun k => (windhoverref00_trim.f k (P ++ o)).bind fun t => some (ab != bb, t)) (fun k => ?_) (Ev.bind (trimf_ev _ (by simp; omega)) (Ev.now _))
    rw [windhoverref00_Times.l0, if_neg (by omega)]
  | succ n ih =>
    intro i P o hi hP ho hd hz
    have p : i < a.length := by omega
    have hx := Dg_rd ha p
    refine Ev.step (f := fun k => windhoverref00_Times.l1 k (P ++ o) (i : Int) 0 ((0 : Nat) : Int) ab a bb b) (fun k => ?_) ?_
    · rw [windhoverref00_Times.l0, if_pos (by omega)]; rfl
    · refine times_in ab bb a b hal hbl hb i p ha _ b.length 0 P o 0 (by omega) (by omega) (by omega) (by omega) hd hz (by decide) ?_
      rw [List.drop_zero, drop_rd a i p]
      obtain ⟨m1, m2, m3⟩ := mulL_spec o b (rd a i) 0 hd hb (by omega) hz hx (by decide)
      have hlen := mulL_len o b (rd a i) 0
      cases hm : mulL o b (rd a i) 0 with
      | nil => rw [hm] at hlen; simp at hlen; omega
      | cons h t =>
        rw [hm] at hlen m2 m3
        have := ih (i + 1) (P ++ [h]) t (by omega) (by simp; omega) (by simp at hlen; omega) m2.2 (by simpa using m3)
        rw [timesL_step hm]
        simpa using this
theorem AllZ_rep : ∀ n, AllZ (List.replicate n 0)
  | 0 => trivial
  | n + 1 => ⟨rfl, AllZ_rep n⟩
theorem Dg_rep : ∀ n, Dg (List.replicate n 0)
  | 0 => trivial
  | n + 1 => ⟨by decide, Dg_rep n⟩
theorem V_rep : ∀ n, V (List.replicate n 0) = 0
  | 0 => rfl
  | n + 1 => by simp only [List.replicate, V, V_rep n]; rfl
theorem times_ev {L M : Nat} {a b : Bool} {x y : List Int} {m n : Int} (hx : W L a x m) (hy : W M b y n) (hL : L ≤ 400) (hM : M ≤ 400) : ∃ c z, Ev (fun k => windhoverref00_Times.f k a x b y) (c, z) ∧ W (L + M) c z (m * n) := by
  obtain ⟨dx, tx, bx, ex, lx⟩ := hx
  obtain ⟨dy, ty, by', ey, ly⟩ := hy
  by_cases hz : x = [] ∨ y = []
  · refine ⟨false, [], ?_, trivial, trivial, by simp, ?_, by simp⟩
    · have stop : Ev (fun k => windhoverref00_Times.j0 k true a x b y) (false, []) := by
        refine Ev.step (f := fun _ => some (false, [])) (fun k => ?_) (Ev.now _)
        rw [windhoverref00_Times.j0, if_pos rfl]
      refine Ev.congr (fun k => ?_) stop
      rcases hz with rfl | rfl
      · rw [windhoverref00_Times.f, if_pos (by simp)]
      · rw [windhoverref00_Times.f]
        by_cases h : (x.length : Int) = 0
        · rw [if_pos h]
        · rw [if_neg h]; rfl
    · rcases hz with rfl | rfl
      · simp [V] at ex; subst ex; simp [V]
      · simp [V] at ey; subst ey; simp [V]
  · have hx0 : x ≠ [] := fun e => hz (.inl e)
    have hy0 : y ≠ [] := fun e => hz (.inr e)
    have lx0 := List.length_pos_iff.mpr hx0
    have ly0 := List.length_pos_iff.mpr hy0
    have vx := V_pos x dx tx hx0
    have vy := V_pos y dy ty hy0
    have hdrop : AllZ ((List.replicate (x.length + y.length) (0 : Int)).drop y.length) := by rw [List.drop_replicate]; exact AllZ_rep _
    obtain ⟨s1, s2, s3⟩ := timesL_spec x y (List.replicate (x.length + y.length) 0) dx dy (Dg_rep _) (by simp) hdrop
    rw [V_rep] at s1
    have hev := times_out a b x y (by omega) (by omega) dx dy x.length 0 [] (List.replicate (x.length + y.length) 0) (by omega) rfl (by simp) (Dg_rep _) hdrop
    rw [List.drop_zero, List.nil_append, List.nil_append] at hev
    have hpos := Int.mul_pos vx vy
    refine ⟨a != b, trimL (timesL (List.replicate (x.length + y.length) 0) x y), Ev.congr (f := fun k => windhoverref00_Times.j0 k false a x b y) (fun k => ?_) (Ev.step (fun k => ?_) hev), Dg_trimL _ s2, Trm_trimL _, fun h => ?_, ?_, ?_⟩
    · rw [windhoverref00_Times.f, if_neg (by omega), show ((y.length : Int) == 0) = false from by simp; omega]
    · rw [windhoverref00_Times.j0, if_neg (by decide), wadd x.length y.length (by omega), if_pos (by omega), Int.toNat_natCast, if_pos (by omega)]
      rfl
    · intro e
      have := V_trimL (timesL (List.replicate (x.length + y.length) 0) x y)
      rw [e, s1] at this
      simp only [V] at this
      omega
    · rw [V_trimL, s1]
      cases a <;> cases b <;> simp at ex ey ⊢ <;> rw [ex, ey] <;> simp [Int.neg_mul, Int.mul_neg]
    · have := trimL_len (timesL (List.replicate (x.length + y.length) 0) x y)
      simp at s3
      omega
theorem I64_of {a : Int} (h : (Lit.int .i64 a).wf = true) : I64 a := by
  simp [Lit.wf, IntKind.min, IntKind.max, IntKind.signed, IntKind.bits] at h
  unfold I64; omega
theorem awake_ev : Ev (fun k => windhoverlaw02_awake.f k) true := by
  have h : windhoverlaw02_awake.f 40 = some true := by decide +kernel
  exact Ev.of (fun k => windhoverlaw02_awake.mono k) h
theorem and_low (a : Int) (n : Nat) (h : n ≤ 62) : Go.bits .and .i64 a (2 ^ n - 1) = a % 2 ^ n := by
  have pw : ∀ n : Fin 63, (2 : Int) ^ n.val = ((2 ^ n.val : Nat) : Int) ∧ (2 ^ n.val : Nat) ≤ 4611686018427387904 ∧ 18446744073709551616 % (2 ^ n.val : Nat) = 0 := by decide +kernel
  obtain ⟨p1, p2, p3⟩ := pw ⟨n, by omega⟩
  have p4 : 0 < (2 ^ n : Nat) := Nat.two_pow_pos n
  have h1 : (BitVec.ofInt 64 (2 ^ n - 1)).toNat = 2 ^ n - 1 := by
    rw [BitVec.toNat_ofInt, p1]
    simp only at p2
    generalize (2 ^ n : Nat) = P at *
    omega
  show Go.IntKind.i64.wrap ((BitVec.ofInt 64 a &&& BitVec.ofInt 64 (2 ^ n - 1)).toNat : Int) = _
  rw [BitVec.toNat_and, h1, Nat.and_two_pow_sub_one_eq_mod, BitVec.toNat_ofInt, p1]
  simp only at p2 p3
  have d : ((2 ^ n : Nat) : Int) ∣ 18446744073709551616 := by
    have : (2 ^ n : Nat) ∣ 18446744073709551616 := Nat.dvd_of_mod_eq_zero p3
    exact Int.natCast_dvd_natCast.mpr this
  have e : (((a % ((2 ^ 64 : Nat) : Int)).toNat % 2 ^ n : Nat) : Int) = a % ((2 ^ n : Nat) : Int) := by
    rw [Int.natCast_emod, Int.toNat_of_nonneg (Int.emod_nonneg _ (by decide))]
    exact Int.emod_emod_of_dvd a d
  rw [e, IntKind.wrap_i64]
  have q0 := Int.emod_nonneg a (show ((2 ^ n : Nat) : Int) ≠ 0 by omega)
  have q1 := Int.emod_lt_of_pos a (show (0 : Int) < ((2 ^ n : Nat) : Int) by omega)
  generalize a % ((2 ^ n : Nat) : Int) = z at *
  omega
theorem and_16 (a : Int) : Go.bits .and .i64 a 65535 = a % 65536 := and_low a 16 (by decide)
theorem uw {a : Int} (h1 : 0 ≤ a) (h2 : a < 18446744073709551616) : IntKind.u64.wrap a = a := by rw [IntKind.wrap_u64]; omega
theorem and32 {a : Int} (h1 : 0 ≤ a) (h2 : a < 18446744073709551616) : Go.bits .and .u64 a 4294967295 = a % 4294967296 := by
  have := bits_mask .u64 64 (by decide) (fun n h0 h1 => by rw [IntKind.wrap_u64]; omega) 32 (by decide) a h1 (by omega)
  simpa using this
theorem prod32 {x y : Int} (hx : 0 ≤ x ∧ x ≤ 4294967295) (hy : 0 ≤ y ∧ y ≤ 4294967295) : 0 ≤ x * y ∧ x * y ≤ 18446744065119617025 := by
  refine ⟨Int.mul_nonneg hx.1 hy.1, ?_⟩
  have := Int.mul_le_mul hx.2 hy.2 hy.1 (by decide)
  omega
/-- The 128 bits of a product. -/
theorem mul64_f {a b : Int} (ha : 0 ≤ a ∧ a < 18446744073709551616) (hb : 0 ≤ b ∧ b < 18446744073709551616) : bits_Mul64.f a b = some (a * b / 18446744073709551616, a * b % 18446744073709551616) := by
  obtain ⟨p, q, rfl, hp, hq⟩ : ∃ p q : Int, a = p * 4294967296 + q ∧ (0 ≤ p ∧ p ≤ 4294967295) ∧ (0 ≤ q ∧ q ≤ 4294967295) := ⟨a / 4294967296, a % 4294967296, by omega, by omega, by omega⟩
  obtain ⟨r, s, rfl, hr, hs⟩ : ∃ r s : Int, b = r * 4294967296 + s ∧ (0 ≤ r ∧ r ≤ 4294967295) ∧ (0 ≤ s ∧ s ≤ 4294967295) := ⟨b / 4294967296, b % 4294967296, by omega, by omega, by omega⟩
  have e1 : (p * 4294967296 + q) / 4294967296 = p := by omega
  have e2 : (r * 4294967296 + s) / 4294967296 = r := by omega
  have e3 : Go.bits .and .u64 (p * 4294967296 + q) 4294967295 = q := by rw [and32 ha.1 ha.2]; omega
  have e4 : Go.bits .and .u64 (r * 4294967296 + s) 4294967295 = s := by rw [and32 hb.1 hb.2]; omega
  have hpr := prod32 hp hr
  have hps := prod32 hp hs
  have hqr := prod32 hq hr
  have hqs := prod32 hq hs
  have hx : (p * 4294967296 + q) * (r * 4294967296 + s) = p * r * 18446744073709551616 + (p * s + q * r) * 4294967296 + q * s := by
    rw [Int.add_mul, Int.mul_add, Int.mul_add]
    have a1 : p * 4294967296 * (r * 4294967296) = p * r * 18446744073709551616 := by rw [Int.mul_assoc, Int.mul_comm r, ← Int.mul_assoc 4294967296, Int.mul_comm _ r, ← Int.mul_assoc]; omega
    have a2 : p * 4294967296 * s = p * s * 4294967296 := by rw [Int.mul_assoc, Int.mul_comm 4294967296 s, ← Int.mul_assoc]
    have a3 : q * (r * 4294967296) = q * r * 4294967296 := by rw [Int.mul_assoc]
    rw [a1, a2, a3]; omega
  unfold bits_Mul64.f
  rw [e1, e2, e3, e4, hx]
  generalize p * r = A at *
  generalize p * s = B at *
  generalize q * r = C at *
  generalize q * s = D at *
  clear e1 e2 e3 e4 hx ha hb
  rw [uw (a := D) (by omega) (by omega), uw (a := B) (by omega) (by omega), uw (a := A) (by omega) (by omega), uw (a := C) (by omega) (by omega), uw (a := B + D / 4294967296) (by omega) (by omega), and32 (a := B + D / 4294967296) (by omega) (by omega), uw (a := A + _) (by omega) (by omega), uw (a := (B + D / 4294967296) % 4294967296 + C) (by omega) (by omega), uw (by omega) (by omega), IntKind.wrap_u64]
  congr 2
  omega

theorem tab_fin2 : ∀ i : Fin 256, 0 ≤ bt (⟨#[0, 1, 2, 2, 3, 3, 3, 3, 4, 4, 4, 4, 4, 4, 4, 4, 5, 5, 5, 5, 5, 5, 5, 5, 5, 5, 5, 5, 5, 5, 5, 5, 6, 6, 6, 6, 6, 6, 6, 6, 6, 6, 6, 6, 6, 6, 6, 6, 6, 6, 6, 6, 6, 6, 6, 6, 6, 6, 6, 6, 6, 6, 6, 6, 7, 7, 7, 7, 7, 7, 7, 7, 7, 7, 7, 7, 7, 7, 7, 7, 7, 7, 7, 7, 7, 7, 7, 7, 7, 7, 7, 7, 7, 7, 7, 7, 7, 7, 7, 7, 7, 7, 7, 7, 7, 7, 7, 7, 7, 7, 7, 7, 7, 7, 7, 7, 7, 7, 7, 7, 7, 7, 7, 7, 7, 7, 7, 7, 8, 8, 8, 8, 8, 8, 8, 8, 8, 8, 8, 8, 8, 8, 8, 8, 8, 8, 8, 8, 8, 8, 8, 8, 8, 8, 8, 8, 8, 8, 8, 8, 8, 8, 8, 8, 8, 8, 8, 8, 8, 8, 8, 8, 8, 8, 8, 8, 8, 8, 8, 8, 8, 8, 8, 8, 8, 8, 8, 8, 8, 8, 8, 8, 8, 8, 8, 8, 8, 8, 8, 8, 8, 8, 8, 8, 8, 8, 8, 8, 8, 8, 8, 8, 8, 8, 8, 8, 8, 8, 8, 8, 8, 8, 8, 8, 8, 8, 8, 8, 8, 8, 8, 8, 8, 8, 8, 8, 8, 8, 8, 8, 8, 8, 8, 8, 8, 8, 8, 8, 8, 8, 8, 8, 8, 8, 8, 8]⟩ : ByteArray) (i.val : Int) ∧ bt (⟨#[0, 1, 2, 2, 3, 3, 3, 3, 4, 4, 4, 4, 4, 4, 4, 4, 5, 5, 5, 5, 5, 5, 5, 5, 5, 5, 5, 5, 5, 5, 5, 5, 6, 6, 6, 6, 6, 6, 6, 6, 6, 6, 6, 6, 6, 6, 6, 6, 6, 6, 6, 6, 6, 6, 6, 6, 6, 6, 6, 6, 6, 6, 6, 6, 7, 7, 7, 7, 7, 7, 7, 7, 7, 7, 7, 7, 7, 7, 7, 7, 7, 7, 7, 7, 7, 7, 7, 7, 7, 7, 7, 7, 7, 7, 7, 7, 7, 7, 7, 7, 7, 7, 7, 7, 7, 7, 7, 7, 7, 7, 7, 7, 7, 7, 7, 7, 7, 7, 7, 7, 7, 7, 7, 7, 7, 7, 7, 7, 8, 8, 8, 8, 8, 8, 8, 8, 8, 8, 8, 8, 8, 8, 8, 8, 8, 8, 8, 8, 8, 8, 8, 8, 8, 8, 8, 8, 8, 8, 8, 8, 8, 8, 8, 8, 8, 8, 8, 8, 8, 8, 8, 8, 8, 8, 8, 8, 8, 8, 8, 8, 8, 8, 8, 8, 8, 8, 8, 8, 8, 8, 8, 8, 8, 8, 8, 8, 8, 8, 8, 8, 8, 8, 8, 8, 8, 8, 8, 8, 8, 8, 8, 8, 8, 8, 8, 8, 8, 8, 8, 8, 8, 8, 8, 8, 8, 8, 8, 8, 8, 8, 8, 8, 8, 8, 8, 8, 8, 8, 8, 8, 8, 8, 8, 8, 8, 8, 8, 8, 8, 8, 8, 8, 8, 8, 8, 8]⟩ : ByteArray) (i.val : Int) ≤ 8 ∧ (i.val : Int) < 2 ^ (bt (⟨#[0, 1, 2, 2, 3, 3, 3, 3, 4, 4, 4, 4, 4, 4, 4, 4, 5, 5, 5, 5, 5, 5, 5, 5, 5, 5, 5, 5, 5, 5, 5, 5, 6, 6, 6, 6, 6, 6, 6, 6, 6, 6, 6, 6, 6, 6, 6, 6, 6, 6, 6, 6, 6, 6, 6, 6, 6, 6, 6, 6, 6, 6, 6, 6, 7, 7, 7, 7, 7, 7, 7, 7, 7, 7, 7, 7, 7, 7, 7, 7, 7, 7, 7, 7, 7, 7, 7, 7, 7, 7, 7, 7, 7, 7, 7, 7, 7, 7, 7, 7, 7, 7, 7, 7, 7, 7, 7, 7, 7, 7, 7, 7, 7, 7, 7, 7, 7, 7, 7, 7, 7, 7, 7, 7, 7, 7, 7, 7, 8, 8, 8, 8, 8, 8, 8, 8, 8, 8, 8, 8, 8, 8, 8, 8, 8, 8, 8, 8, 8, 8, 8, 8, 8, 8, 8, 8, 8, 8, 8, 8, 8, 8, 8, 8, 8, 8, 8, 8, 8, 8, 8, 8, 8, 8, 8, 8, 8, 8, 8, 8, 8, 8, 8, 8, 8, 8, 8, 8, 8, 8, 8, 8, 8, 8, 8, 8, 8, 8, 8, 8, 8, 8, 8, 8, 8, 8, 8, 8, 8, 8, 8, 8, 8, 8, 8, 8, 8, 8, 8, 8, 8, 8, 8, 8, 8, 8, 8, 8, 8, 8, 8, 8, 8, 8, 8, 8, 8, 8, 8, 8, 8, 8, 8, 8, 8, 8, 8, 8, 8, 8, 8, 8, 8, 8, 8, 8]⟩ : ByteArray) (i.val : Int)).toNat ∧ (1 ≤ (i.val : Int) → 2 ^ (bt (⟨#[0, 1, 2, 2, 3, 3, 3, 3, 4, 4, 4, 4, 4, 4, 4, 4, 5, 5, 5, 5, 5, 5, 5, 5, 5, 5, 5, 5, 5, 5, 5, 5, 6, 6, 6, 6, 6, 6, 6, 6, 6, 6, 6, 6, 6, 6, 6, 6, 6, 6, 6, 6, 6, 6, 6, 6, 6, 6, 6, 6, 6, 6, 6, 6, 7, 7, 7, 7, 7, 7, 7, 7, 7, 7, 7, 7, 7, 7, 7, 7, 7, 7, 7, 7, 7, 7, 7, 7, 7, 7, 7, 7, 7, 7, 7, 7, 7, 7, 7, 7, 7, 7, 7, 7, 7, 7, 7, 7, 7, 7, 7, 7, 7, 7, 7, 7, 7, 7, 7, 7, 7, 7, 7, 7, 7, 7, 7, 7, 8, 8, 8, 8, 8, 8, 8, 8, 8, 8, 8, 8, 8, 8, 8, 8, 8, 8, 8, 8, 8, 8, 8, 8, 8, 8, 8, 8, 8, 8, 8, 8, 8, 8, 8, 8, 8, 8, 8, 8, 8, 8, 8, 8, 8, 8, 8, 8, 8, 8, 8, 8, 8, 8, 8, 8, 8, 8, 8, 8, 8, 8, 8, 8, 8, 8, 8, 8, 8, 8, 8, 8, 8, 8, 8, 8, 8, 8, 8, 8, 8, 8, 8, 8, 8, 8, 8, 8, 8, 8, 8, 8, 8, 8, 8, 8, 8, 8, 8, 8, 8, 8, 8, 8, 8, 8, 8, 8, 8, 8, 8, 8, 8, 8, 8, 8, 8, 8, 8, 8, 8, 8, 8, 8, 8, 8, 8, 8]⟩ : ByteArray) (i.val : Int)).toNat ≤ 2 * (i.val : Int)) := by decide +kernel
theorem tab_ok2 (i : Int) (h0 : 0 ≤ i) (h1 : i < 256) : ∃ m : Nat, m ≤ 8 ∧ bt (⟨#[0, 1, 2, 2, 3, 3, 3, 3, 4, 4, 4, 4, 4, 4, 4, 4, 5, 5, 5, 5, 5, 5, 5, 5, 5, 5, 5, 5, 5, 5, 5, 5, 6, 6, 6, 6, 6, 6, 6, 6, 6, 6, 6, 6, 6, 6, 6, 6, 6, 6, 6, 6, 6, 6, 6, 6, 6, 6, 6, 6, 6, 6, 6, 6, 7, 7, 7, 7, 7, 7, 7, 7, 7, 7, 7, 7, 7, 7, 7, 7, 7, 7, 7, 7, 7, 7, 7, 7, 7, 7, 7, 7, 7, 7, 7, 7, 7, 7, 7, 7, 7, 7, 7, 7, 7, 7, 7, 7, 7, 7, 7, 7, 7, 7, 7, 7, 7, 7, 7, 7, 7, 7, 7, 7, 7, 7, 7, 7, 8, 8, 8, 8, 8, 8, 8, 8, 8, 8, 8, 8, 8, 8, 8, 8, 8, 8, 8, 8, 8, 8, 8, 8, 8, 8, 8, 8, 8, 8, 8, 8, 8, 8, 8, 8, 8, 8, 8, 8, 8, 8, 8, 8, 8, 8, 8, 8, 8, 8, 8, 8, 8, 8, 8, 8, 8, 8, 8, 8, 8, 8, 8, 8, 8, 8, 8, 8, 8, 8, 8, 8, 8, 8, 8, 8, 8, 8, 8, 8, 8, 8, 8, 8, 8, 8, 8, 8, 8, 8, 8, 8, 8, 8, 8, 8, 8, 8, 8, 8, 8, 8, 8, 8, 8, 8, 8, 8, 8, 8, 8, 8, 8, 8, 8, 8, 8, 8, 8, 8, 8, 8, 8, 8, 8, 8, 8, 8]⟩ : ByteArray) i = (m : Int) ∧ i < 2 ^ m ∧ (1 ≤ i → 2 ^ m ≤ 2 * i) := by
  have h := tab_fin2 ⟨i.toNat, by omega⟩
  rw [show ((i.toNat : Nat) : Int) = i from by omega] at h
  exact ⟨(bt (⟨#[0, 1, 2, 2, 3, 3, 3, 3, 4, 4, 4, 4, 4, 4, 4, 4, 5, 5, 5, 5, 5, 5, 5, 5, 5, 5, 5, 5, 5, 5, 5, 5, 6, 6, 6, 6, 6, 6, 6, 6, 6, 6, 6, 6, 6, 6, 6, 6, 6, 6, 6, 6, 6, 6, 6, 6, 6, 6, 6, 6, 6, 6, 6, 6, 7, 7, 7, 7, 7, 7, 7, 7, 7, 7, 7, 7, 7, 7, 7, 7, 7, 7, 7, 7, 7, 7, 7, 7, 7, 7, 7, 7, 7, 7, 7, 7, 7, 7, 7, 7, 7, 7, 7, 7, 7, 7, 7, 7, 7, 7, 7, 7, 7, 7, 7, 7, 7, 7, 7, 7, 7, 7, 7, 7, 7, 7, 7, 7, 8, 8, 8, 8, 8, 8, 8, 8, 8, 8, 8, 8, 8, 8, 8, 8, 8, 8, 8, 8, 8, 8, 8, 8, 8, 8, 8, 8, 8, 8, 8, 8, 8, 8, 8, 8, 8, 8, 8, 8, 8, 8, 8, 8, 8, 8, 8, 8, 8, 8, 8, 8, 8, 8, 8, 8, 8, 8, 8, 8, 8, 8, 8, 8, 8, 8, 8, 8, 8, 8, 8, 8, 8, 8, 8, 8, 8, 8, 8, 8, 8, 8, 8, 8, 8, 8, 8, 8, 8, 8, 8, 8, 8, 8, 8, 8, 8, 8, 8, 8, 8, 8, 8, 8, 8, 8, 8, 8, 8, 8, 8, 8, 8, 8, 8, 8, 8, 8, 8, 8, 8, 8, 8, 8, 8, 8, 8, 8]⟩ : ByteArray) i).toNat, by omega, by omega, h.2.2⟩
theorem len_j2 {x y : Int} (hx : 0 ≤ x ∧ x < 4294967296) (hy : 0 ≤ y ∧ y ≤ 32) : ∃ m : Nat, m ≤ 32 ∧ x < 2 ^ m ∧ (1 ≤ x → 2 ^ m ≤ 2 * x) ∧ Ev (fun k => bits_Len64.j0 k x y) (y + m) := by
  have st : ∀ r : Int, (∀ k, bits_Len64.j0 (k + 1) x y = some r) → Ev (fun k => bits_Len64.j0 k x y) r := fun r h => Ev.step (f := fun _ => some r) h (Ev.now _)
  by_cases h1 : x ≥ 65536
  · by_cases h2 : x / 65536 ≥ 256
    · obtain ⟨m, m8, e, l, l'⟩ := tab_ok2 ((x / 65536 / 256) % 256) (by omega) (by omega)
      refine ⟨m + 24, by omega, ?_, ?_, st _ fun k => ?_⟩
      · rw [Int.pow_add, show (2 : Int) ^ 24 = 16777216 from by decide]; omega
      · rw [Int.pow_add, show (2 : Int) ^ 24 = 16777216 from by decide]; omega
      · rw [bits_Len64.j0, if_pos h1, if_pos h2, if_pos (by omega), if_pos (by omega), e, wsm (a := y + 16) (by omega) (by omega), wsm (a := y + 16 + 8) (by omega) (by omega), wsm (a := (m : Int)) (by omega) (by omega), wsm (by omega) (by omega)]
        exact congrArg some (by clear e; omega)
    · obtain ⟨m, m8, e, l, l'⟩ := tab_ok2 ((x / 65536) % 256) (by omega) (by omega)
      refine ⟨m + 16, by omega, ?_, ?_, st _ fun k => ?_⟩
      · rw [Int.pow_add, show (2 : Int) ^ 16 = 65536 from by decide]; omega
      · rw [Int.pow_add, show (2 : Int) ^ 16 = 65536 from by decide]; omega
      · rw [bits_Len64.j0, if_pos h1, if_neg h2, if_pos (by omega), if_pos (by omega), e, wsm (a := y + 16) (by omega) (by omega), wsm (a := (m : Int)) (by omega) (by omega), wsm (by omega) (by omega)]
        exact congrArg some (by clear e; omega)
  · by_cases h2 : x ≥ 256
    · obtain ⟨m, m8, e, l, l'⟩ := tab_ok2 ((x / 256) % 256) (by omega) (by omega)
      refine ⟨m + 8, by omega, ?_, ?_, st _ fun k => ?_⟩
      · rw [Int.pow_add, show (2 : Int) ^ 8 = 256 from by decide]; omega
      · rw [Int.pow_add, show (2 : Int) ^ 8 = 256 from by decide]; omega
      · rw [bits_Len64.j0, if_neg h1, if_pos h2, if_pos (by omega), if_pos (by omega), e, wsm (a := y + 8) (by omega) (by omega), wsm (a := (m : Int)) (by omega) (by omega), wsm (by omega) (by omega)]
        exact congrArg some (by clear e; omega)
    · obtain ⟨m, m8, e, l, l'⟩ := tab_ok2 (x % 256) (by omega) (by omega)
      refine ⟨m, by omega, by omega, by omega, st _ fun k => ?_⟩
      rw [bits_Len64.j0, if_neg h1, if_neg h2, if_pos (by omega), if_pos (by omega), e, wsm (a := (m : Int)) (by omega) (by omega), wsm (by omega) (by omega)]
theorem len_ev2 {x : Int} (hx : 0 ≤ x ∧ x < 18446744073709551616) : ∃ m : Nat, m ≤ 64 ∧ x < 2 ^ m ∧ (1 ≤ x → 2 ^ m ≤ 2 * x) ∧ Ev (fun k => bits_Len64.f k x) (m : Int) := by
  by_cases h : x ≥ 4294967296
  · obtain ⟨m, m1, l, l', e⟩ := len_j2 (x := x / 4294967296) (y := 32) (by omega) (by omega)
    refine ⟨m + 32, by omega, ?_, ?_, Ev.congr (fun k => by rw [bits_Len64.f, if_pos h]) (ev_eq (by omega) e)⟩
    · rw [Int.pow_add, show (2 : Int) ^ 32 = 4294967296 from by decide]; omega
    · rw [Int.pow_add, show (2 : Int) ^ 32 = 4294967296 from by decide]; omega
  · obtain ⟨m, m1, l, l', e⟩ := len_j2 (x := x) (y := 0) (by omega) (by omega)
    exact ⟨m, by omega, l, l', Ev.congr (fun k => by rw [bits_Len64.f, if_neg h]) (ev_eq (by omega) e)⟩

theorem kn_gt {q Q D N : Int} (hD : 0 < D) (h1 : Q * D ≤ N) (h : N < q * D) : Q < q := by
  apply Int.not_le.mp; intro g
  have := Int.mul_le_mul_of_nonneg_right g (show 0 ≤ D by omega); omega
theorem kn_le {q Q D N : Int} (hD : 0 < D) (h2 : N < (Q + 1) * D) (h : q * D ≤ N) : q ≤ Q := by
  apply Int.not_lt.mp; intro g
  have := Int.mul_le_mul_of_nonneg_right (show Q + 1 ≤ q by omega) (show 0 ≤ D by omega); omega
theorem div_l0 {y s y1 y0 U c Q : Int} {e : Int} {res : Int × Int} (hy1 : 2147483648 ≤ y1 ∧ y1 < 4294967296) (hy0 : 0 ≤ y0 ∧ y0 < 4294967296) (hy : y = y1 * 4294967296 + y0) (hc : 0 ≤ c ∧ c < 4294967296) (hQ : 0 ≤ Q ∧ Q < 4294967296)
    (h1 : Q * y ≤ U * 4294967296 + c) (h2 : U * 4294967296 + c < (Q + 1) * y) (hk : Ev (fun k => bits_Div64.j2 k y s y1 y0 U c e Q) res) :
    ∀ (n : Nat) (q r : Int), (4294967296 - r).toNat ≤ n → 0 ≤ r → r < 4294967296 → r = U - q * y1 → Q ≤ q → q ≤ 4294967297 → Ev (fun k => bits_Div64.l0 k y s y1 y0 U c e q r) res := by
  intro n
  induction n with
  | zero => intro q r h0 h3 h4; omega
  | succ n ih =>
    intro q r h0 h3 h4 h5 h6 h7
    have a : q * y = q * y1 * 4294967296 + q * y0 := by rw [hy, Int.mul_add, Int.mul_assoc]
    have a' : (q - 1) * y = q * y - y := by rw [Int.sub_mul, Int.one_mul]
    have b : (q - 1) * y1 = q * y1 - y1 := by rw [Int.sub_mul, Int.one_mul]
    have b0 : (q - 1) * y0 = q * y0 - y0 := by rw [Int.sub_mul, Int.one_mul]
    have p0 : 0 ≤ q * y0 := Int.mul_nonneg (by omega) hy0.1
    have yp : 0 < y := by omega
    have back : Q < q → Ev (fun k => bits_Div64.j1 k y s y1 y0 U c e q r true) res := by
      intro g
      have w1 : IntKind.u64.wrap (r + y1) = r + y1 := uw (by omega) (by omega)
      have w2 : IntKind.u64.wrap (q - 1) = q - 1 := uw (by omega) (by omega)
      by_cases t : r + y1 ≥ 4294967296
      · have m : (q - 1) * y0 ≤ 4294967296 * 4294967295 := Int.le_trans (Int.mul_le_mul_of_nonneg_right (show q - 1 ≤ 4294967296 by omega) hy0.1) (Int.mul_le_mul_of_nonneg_left (show y0 ≤ 4294967295 by omega) (by decide))
        have e : q - 1 = Q := by
          have := kn_le (q := q - 1) yp h2 (by rw [a', a]; omega)
          omega
        exact Ev.step (fun k => by rw [bits_Div64.j1, if_pos rfl, w1, if_pos t, w2, e]) hk
      · refine Ev.step (fun k => by rw [bits_Div64.j1, if_pos rfl, w1, if_neg t, w2]) (ih (q - 1) (r + y1) (by omega) (by omega) (by omega) (by omega) (by omega) (by omega))
    by_cases g1 : q ≥ 4294967296
    · exact Ev.step (fun k => by rw [bits_Div64.l0, if_pos g1]) (back (by omega))
    · have p1 : q * y0 ≤ 4294967295 * 4294967295 := Int.le_trans (Int.mul_le_mul_of_nonneg_right (show q ≤ 4294967295 by omega) hy0.1) (Int.mul_le_mul_of_nonneg_left (show y0 ≤ 4294967295 by omega) (by decide))
      have w3 : IntKind.u64.wrap (q * y0) = q * y0 := uw p0 (by omega)
      have w4 : IntKind.u64.wrap (4294967296 * r) = 4294967296 * r := uw (by omega) (by omega)
      have w5 : IntKind.u64.wrap (4294967296 * r + c) = 4294967296 * r + c := uw (by omega) (by omega)
      by_cases g2 : q * y0 > 4294967296 * r + c
      · exact Ev.step (fun k => by rw [bits_Div64.l0, if_neg g1, w3, w4, w5, decide_eq_true g2]) (back (kn_gt yp h1 (by rw [a]; omega)))
      · have e : q = Q := by
          have := kn_le (q := q) yp h2 (by rw [a]; omega)
          omega
        refine Ev.step (fun k => by rw [bits_Div64.l0, if_neg g1, w3, w4, w5, decide_eq_false g2]) ?_
        exact Ev.step (fun k => by rw [bits_Div64.j1, if_neg (by decide), e]) hk
theorem div_l1 {y s y1 y0 U c Q : Int} {Z : Int} {res : Int × Int} (hy1 : 2147483648 ≤ y1 ∧ y1 < 4294967296) (hy0 : 0 ≤ y0 ∧ y0 < 4294967296) (hy : y = y1 * 4294967296 + y0) (hc : 0 ≤ c ∧ c < 4294967296) (hQ : 0 ≤ Q ∧ Q < 4294967296)
    (h1 : Q * y ≤ U * 4294967296 + c) (h2 : U * 4294967296 + c < (Q + 1) * y) (hs : 0 ≤ s) (hk : res = (IntKind.u64.wrap ((IntKind.u64.wrap (Z * 4294967296)) + Q), shr .u64 (IntKind.u64.wrap ((IntKind.u64.wrap ((IntKind.u64.wrap (U * 4294967296)) + c)) - (IntKind.u64.wrap (Q * y)))) s)) :
    ∀ (n : Nat) (q r : Int), (4294967296 - r).toNat ≤ n → 0 ≤ r → r < 4294967296 → r = U - q * y1 → Q ≤ q → q ≤ 4294967297 → Ev (fun k => bits_Div64.l1 k y s y1 y0 c Z r U q) res := by
  intro n
  induction n with
  | zero => intro q r h0 h3 h4; omega
  | succ n ih =>
    intro q r h0 h3 h4 h5 h6 h7
    have a : q * y = q * y1 * 4294967296 + q * y0 := by rw [hy, Int.mul_add, Int.mul_assoc]
    have a' : (q - 1) * y = q * y - y := by rw [Int.sub_mul, Int.one_mul]
    have b : (q - 1) * y1 = q * y1 - y1 := by rw [Int.sub_mul, Int.one_mul]
    have b0 : (q - 1) * y0 = q * y0 - y0 := by rw [Int.sub_mul, Int.one_mul]
    have p0 : 0 ≤ q * y0 := Int.mul_nonneg (by omega) hy0.1
    have yp : 0 < y := by omega
    have back : Q < q → Ev (fun k => bits_Div64.j4 k y s y1 y0 c Z r U q true) res := by
      intro g
      have w1 : IntKind.u64.wrap (r + y1) = r + y1 := uw (by omega) (by omega)
      have w2 : IntKind.u64.wrap (q - 1) = q - 1 := uw (by omega) (by omega)
      by_cases t : r + y1 ≥ 4294967296
      · have m : (q - 1) * y0 ≤ 4294967296 * 4294967295 := Int.le_trans (Int.mul_le_mul_of_nonneg_right (show q - 1 ≤ 4294967296 by omega) hy0.1) (Int.mul_le_mul_of_nonneg_left (show y0 ≤ 4294967295 by omega) (by decide))
        have e : q - 1 = Q := by
          have := kn_le (q := q - 1) yp h2 (by rw [a', a]; omega)
          omega
        exact Ev.step (fun k => by rw [bits_Div64.j4, if_pos rfl, w1, if_pos t, if_pos hs, w2, e, ← hk]) (Ev.now res)
      · refine Ev.step (fun k => by rw [bits_Div64.j4, if_pos rfl, w1, if_neg t, w2]) (ih (q - 1) (r + y1) (by omega) (by omega) (by omega) (by omega) (by omega) (by omega))
    by_cases g1 : q ≥ 4294967296
    · exact Ev.step (fun k => by rw [bits_Div64.l1, if_pos g1]) (back (by omega))
    · have p1 : q * y0 ≤ 4294967295 * 4294967295 := Int.le_trans (Int.mul_le_mul_of_nonneg_right (show q ≤ 4294967295 by omega) hy0.1) (Int.mul_le_mul_of_nonneg_left (show y0 ≤ 4294967295 by omega) (by decide))
      have w3 : IntKind.u64.wrap (q * y0) = q * y0 := uw p0 (by omega)
      have w4 : IntKind.u64.wrap (4294967296 * r) = 4294967296 * r := uw (by omega) (by omega)
      have w5 : IntKind.u64.wrap (4294967296 * r + c) = 4294967296 * r + c := uw (by omega) (by omega)
      by_cases g2 : q * y0 > 4294967296 * r + c
      · exact Ev.step (fun k => by rw [bits_Div64.l1, if_neg g1, w3, w4, w5, decide_eq_true g2]) (back (kn_gt yp h1 (by rw [a]; omega)))
      · have e : q = Q := by
          have := kn_le (q := q) yp h2 (by rw [a]; omega)
          omega
        refine Ev.step (fun k => by rw [bits_Div64.l1, if_neg g1, w3, w4, w5, decide_eq_false g2]) ?_
        exact Ev.step (fun k => by rw [bits_Div64.j4, if_neg (by decide), if_pos hs, e, ← hk]) (Ev.now res)
theorem u64_eq (a : Int) : IntKind.u64.wrap a = a % 18446744073709551616 := by rw [IntKind.wrap_u64]
theorem step_facts {D N c U : Int} (hD : 0 < D) (hU : 0 ≤ U ∧ U < D) (hc : 0 ≤ c ∧ c < 4294967296) (hN : N = U * 4294967296 + c) : 0 ≤ N / D ∧ N / D < 4294967296 ∧ N / D * D ≤ N ∧ N < (N / D + 1) * D ∧ 0 ≤ N % D ∧ N % D < D ∧ N = N / D * D + N % D := by
  have e := Int.mul_ediv_add_emod N D
  have r0 := Int.emod_nonneg N (show D ≠ 0 by omega)
  have r1 := Int.emod_lt_of_pos N hD
  rw [Int.mul_comm] at e
  have f : (N / D + 1) * D = N / D * D + D := by rw [Int.add_mul, Int.one_mul]
  refine ⟨Int.ediv_nonneg (by omega) (by omega), Int.ediv_lt_of_lt_mul hD ?_, by omega, by omega, r0, r1, by omega⟩
  rw [Int.mul_comm]
  have : D * 4294967296 ≥ (U + 1) * 4294967296 := Int.mul_le_mul_of_nonneg_right (by omega) (by decide)
  omega
theorem first_q {y1 y0 Y U : Int} (hy1 : 2147483648 ≤ y1 ∧ y1 < 4294967296) (hy0 : 0 ≤ y0 ∧ y0 < 4294967296) (hy : Y = y1 * 4294967296 + y0) (hU : 0 ≤ U ∧ U < Y) :
    IntKind.u64.wrap (Int.tdiv U y1) = U / y1 ∧ IntKind.u64.wrap (U - IntKind.u64.wrap (U / y1 * y1)) = U % y1 ∧ U % y1 = U - U / y1 * y1 ∧ 0 ≤ U % y1 ∧ U % y1 < y1 ∧ 0 ≤ U / y1 ∧ U / y1 ≤ 4294967297 := by
  have e := Int.mul_ediv_add_emod U y1
  have r0 := Int.emod_nonneg U (show y1 ≠ 0 by omega)
  have r1 := Int.emod_lt_of_pos U (show 0 < y1 by omega)
  have q0 : 0 ≤ U / y1 := Int.ediv_nonneg (by omega) (by omega)
  have q1 : U / y1 ≤ 4294967297 := by
    apply Int.lt_add_one_iff.mp
    exact Int.ediv_lt_of_lt_mul (by omega) (by omega)
  rw [Int.mul_comm] at e
  refine ⟨?_, ?_, by omega, r0, r1, q0, q1⟩
  · rw [Int.tdiv_eq_ediv_of_nonneg hU.1, uw q0 (by omega)]
  · rw [uw (a := U / y1 * y1) (Int.mul_nonneg q0 (by omega)) (by omega), uw (by omega) (by omega)]; omega
theorem div_core {Y s y1 y0 U c e : Int} (hs : 0 ≤ s) (hy1 : 2147483648 ≤ y1 ∧ y1 < 4294967296) (hy0 : 0 ≤ y0 ∧ y0 < 4294967296) (hy : Y = y1 * 4294967296 + y0) (hU : 0 ≤ U ∧ U < Y) (hc : 0 ≤ c ∧ c < 4294967296) (he : 0 ≤ e ∧ e < 4294967296) :
    ∃ q r, Ev (fun k => bits_Div64.l0 k Y s y1 y0 U c e (IntKind.u64.wrap (Int.tdiv U y1)) (IntKind.u64.wrap (U - IntKind.u64.wrap (IntKind.u64.wrap (Int.tdiv U y1) * y1)))) (q, shr .u64 r s) ∧ U * 18446744073709551616 + (c * 4294967296 + e) = q * Y + r ∧ 0 ≤ r ∧ r < Y ∧ 0 ≤ q ∧ q < 18446744073709551616 := by
  obtain ⟨a1, a2, a3, a4, a5, a6, a7⟩ := first_q hy1 hy0 hy hU
  obtain ⟨b1, b2, b3, b4, b5, b6, b7⟩ := step_facts (show 0 < Y by omega) hU hc rfl
  rw [a1, a2]
  generalize hQ : (U * 4294967296 + c) / Y = Q at *
  generalize hR : (U * 4294967296 + c) % Y = R at *
  obtain ⟨c1, c2, c3, c4, c5, c6, c7⟩ := first_q hy1 hy0 hy ⟨b5, b6⟩
  obtain ⟨d1, d2, d3, d4, d5, d6, d7⟩ := step_facts (show 0 < Y by omega) ⟨b5, b6⟩ he rfl
  generalize hQ2 : (R * 4294967296 + e) / Y = Q2 at *
  generalize hR2 : (R * 4294967296 + e) % Y = R2 at *
  refine ⟨Q * 4294967296 + Q2, R2, ?_, ?_, d5, d6, by omega, by omega⟩
  · refine div_l0 hy1 hy0 hy hc ⟨b1, b2⟩ b3 b4 ?_ (4294967296 : Int).toNat _ _ (by omega) a4 (by omega) a3 ?_ a7
    · have w : IntKind.u64.wrap ((IntKind.u64.wrap ((IntKind.u64.wrap (U * 4294967296)) + c)) - (IntKind.u64.wrap (Q * Y))) = R := by
        rw [u64_eq, u64_eq, u64_eq, u64_eq]
        generalize Q * Y = p at *
        clear a1 a2 a3 c1 c2 c3
        omega
      have w2 : IntKind.u64.wrap ((IntKind.u64.wrap ((IntKind.u64.wrap (R * 4294967296)) + e)) - (IntKind.u64.wrap (Q2 * Y))) = R2 := by
        rw [u64_eq, u64_eq, u64_eq, u64_eq]
        generalize Q2 * Y = p at *
        generalize Q * Y = p' at *
        clear a1 a2 a3 c1 c2 c3
        omega
      refine Ev.step (fun k => by rw [bits_Div64.j2, if_neg (by omega), w, c1, c2]) ?_
      refine div_l1 hy1 hy0 hy he ⟨d1, d2⟩ d3 d4 hs ?_ (4294967296 : Int).toNat _ _ (by omega) c4 (by omega) c3 ?_ c7
      · rw [w2, uw (a := Q * 4294967296) (by omega) (by omega), uw (by omega) (by omega)]
      · have x : (R / y1 + 1) * y1 = R / y1 * y1 + y1 := by rw [Int.add_mul, Int.one_mul]
        have x2 : (R / y1 + 1) * Y = (R / y1 + 1) * y1 * 4294967296 + (R / y1 + 1) * y0 := by rw [hy, Int.mul_add, Int.mul_assoc]
        have x3 : 0 ≤ (R / y1 + 1) * y0 := Int.mul_nonneg (by omega) hy0.1
        have := kn_gt (q := R / y1 + 1) (show 0 < Y by omega) d3 (by rw [x2, x]; omega)
        omega
    · have x : (U / y1 + 1) * y1 = U / y1 * y1 + y1 := by rw [Int.add_mul, Int.one_mul]
      have x2 : (U / y1 + 1) * Y = (U / y1 + 1) * y1 * 4294967296 + (U / y1 + 1) * y0 := by rw [hy, Int.mul_add, Int.mul_assoc]
      have x3 : 0 ≤ (U / y1 + 1) * y0 := Int.mul_nonneg (by omega) hy0.1
      have := kn_gt (q := U / y1 + 1) (show 0 < Y by omega) b3 (by rw [x2, x]; omega)
      omega
  · have z : (Q * 4294967296 + Q2) * Y = Q * Y * 4294967296 + Q2 * Y := by rw [Int.add_mul, Int.mul_assoc, Int.mul_comm 4294967296 Y, ← Int.mul_assoc]
    rw [z]
    generalize Q2 * Y = p at *
    generalize Q * Y = p' at *
    clear a1 a2 a3 c1 c2 c3
    omega

theorem pw64 (m : Nat) (h : m ≤ 64) : (2 : Int) ^ m * 2 ^ (64 - m) = 18446744073709551616 ∧ 1 ≤ (2 : Int) ^ m ∧ 1 ≤ (2 : Int) ^ (64 - m) := by
  have : ∀ m : Fin 65, (2 : Int) ^ m.val * 2 ^ (64 - m.val) = 18446744073709551616 ∧ 1 ≤ (2 : Int) ^ m.val ∧ 1 ≤ (2 : Int) ^ (64 - m.val) := by decide +kernel
  exact this ⟨m, by omega⟩
theorem shl_u (x : Int) (n : Nat) (h : n ≤ 64) : shl .u64 x (n : Int) = (x * 2 ^ n) % 18446744073709551616 := by
  unfold shl
  rw [Int.toNat_natCast, show IntKind.u64.bits = 64 from rfl, Nat.min_eq_left h, u64_eq]
theorem shr_u (x : Int) (n : Nat) (h : n ≤ 64) : shr .u64 x (n : Int) = x / 2 ^ n := by
  unfold shr
  rw [Int.toNat_natCast, show IntKind.u64.bits = 64 from rfl, Nat.min_eq_left h]
theorem or_add {a b : Int} (n : Nat) (ha : 0 ≤ a) (hb : 0 ≤ b ∧ b < 2 ^ n) (h : a * 2 ^ n + b < 18446744073709551616) : Go.bits .or .u64 (a * 2 ^ n) b = a * 2 ^ n + b := by
  obtain ⟨A, rfl⟩ := Int.eq_ofNat_of_zero_le ha
  obtain ⟨B, rfl⟩ := Int.eq_ofNat_of_zero_le hb.1
  have e : (A : Int) * 2 ^ n = ((A * 2 ^ n : Nat) : Int) := by simp
  have hb2 : B < 2 ^ n := by
    have := hb.2
    rw [show (2 : Int) ^ n = ((2 ^ n : Nat) : Int) from by simp] at this
    omega
  rw [e] at h ⊢
  have o := Nat.shiftLeft_add_eq_or_of_lt hb2 A
  rw [Nat.shiftLeft_eq] at o
  generalize A * 2 ^ n = C at *
  show IntKind.u64.wrap ((BitVec.ofInt 64 (C : Int) ||| BitVec.ofInt 64 (B : Int)).toNat : Int) = _
  rw [BitVec.toNat_or, BitVec.toNat_ofInt, BitVec.toNat_ofInt]
  rw [show ((C : Int) % ((2 ^ 64 : Nat) : Int)).toNat = C from by omega, show ((B : Int) % ((2 ^ 64 : Nat) : Int)).toNat = B from by omega, ← o, u64_eq]
  omega
theorem div64_ev {hi lo y : Int} (hlo : 0 ≤ lo ∧ lo < 18446744073709551616) (hhi : 0 ≤ hi ∧ hi < y) (hy : y < 18446744073709551616) :
    Ev (fun k => bits_Div64.f k hi lo y) ((hi * 18446744073709551616 + lo) / y, (hi * 18446744073709551616 + lo) % y) := by
  by_cases h0 : hi = 0
  · subst h0
    have q0 : 0 ≤ lo / y := Int.ediv_nonneg hlo.1 (by omega)
    have q1 : lo / y ≤ lo := Int.ediv_le_self _ hlo.1
    rw [show (0 : Int) * 18446744073709551616 + lo = lo from by omega]
    exact Ev.congr (fun k => by rw [bits_Div64.f, if_neg (by omega), if_neg (by omega), if_pos rfl, Int.tdiv_eq_ediv_of_nonneg hlo.1, Int.tmod_eq_emod_of_nonneg hlo.1, uw q0 (by omega)]) (Ev.now _)
  obtain ⟨m, m1, l, l', ev⟩ := len_ev2 (x := y) (by omega)
  have l' := l' (by omega)
  obtain ⟨n, hn⟩ : ∃ n : Nat, n = 64 - m := ⟨_, rfl⟩
  have pw := pw64 m m1
  rw [← hn] at pw
  obtain ⟨pw1, pw2, pw3⟩ := pw
  -- the shifted divisor
  have Y0 : y * 2 ^ n < 18446744073709551616 := by
    rw [← pw1]
    have := Int.mul_le_mul_of_nonneg_right (show y + 1 ≤ 2 ^ m by omega) (show 0 ≤ (2 : Int) ^ n by omega)
    rw [Int.add_mul, Int.one_mul] at this
    omega
  have Y1 : 9223372036854775808 ≤ y * 2 ^ n := by
    have := Int.mul_le_mul_of_nonneg_right l' (show 0 ≤ (2 : Int) ^ n by omega)
    rw [pw1, Int.mul_assoc] at this
    omega
  have sY : shl .u64 y (n : Int) = y * 2 ^ n := by rw [shl_u _ _ (by omega)]; exact Int.emod_eq_of_lt (by omega) Y0
  -- the shifted number
  have H0 : hi * 2 ^ n + 2 ^ n ≤ y * 2 ^ n := by
    have := Int.mul_le_mul_of_nonneg_right (show hi + 1 ≤ y by omega) (show 0 ≤ (2 : Int) ^ n by omega)
    rw [Int.add_mul, Int.one_mul] at this
    exact this
  have H1 : 0 ≤ hi * 2 ^ n := Int.mul_nonneg hhi.1 (by omega)
  have T0 : 0 ≤ lo / 2 ^ m := Int.ediv_nonneg hlo.1 (by omega)
  have T1 : lo / 2 ^ m < 2 ^ n := Int.ediv_lt_of_lt_mul (by omega) (by rw [Int.mul_comm, pw1]; omega)
  have sH : shl .u64 hi (n : Int) = hi * 2 ^ n := by rw [shl_u _ _ (by omega)]; exact Int.emod_eq_of_lt H1 (by omega)
  have sU : Go.bits .or .u64 (hi * 2 ^ n) (lo / 2 ^ m) = hi * 2 ^ n + lo / 2 ^ m := or_add n hhi.1 ⟨T0, T1⟩ (by omega)
  have sL : shl .u64 lo (n : Int) = (lo * 2 ^ n) % 18446744073709551616 := shl_u _ _ (by omega)
  have dL : lo * 2 ^ n / 18446744073709551616 = lo / 2 ^ m := by rw [← pw1, Int.mul_ediv_mul_of_pos_left _ _ (by omega)]
  have eL : lo * 2 ^ n = lo / 2 ^ m * 18446744073709551616 + lo * 2 ^ n % 18446744073709551616 := by rw [← dL]; omega
  have N1 : (hi * 18446744073709551616 + lo) * 2 ^ n = (hi * 2 ^ n + lo / 2 ^ m) * 18446744073709551616 + lo * 2 ^ n % 18446744073709551616 := by
    rw [Int.add_mul, Int.mul_assoc, Int.mul_comm 18446744073709551616, ← Int.mul_assoc]; omega
  generalize hL : lo * 2 ^ n % 18446744073709551616 = L at *
  have L0 : 0 ≤ L ∧ L < 18446744073709551616 := by omega
  generalize hU : hi * 2 ^ n + lo / 2 ^ m = U at *
  have U0 : 0 ≤ U ∧ U < y * 2 ^ n := by omega
  have lz : Ev (fun k => bits_LeadingZeros64.f k y) (n : Int) := by
    refine Ev.congr (fun k => by rw [bits_LeadingZeros64.f]) (Ev.bind ev ?_)
    have : wrap64 (64 - (m : Int)) = (n : Int) := by
      clear pw1 pw2 pw3 l l' N1 eL dL
      rw [wsm (by omega) (by omega)]; omega
    rw [this]; exact Ev.now _
  generalize hY : y * 2 ^ n = Y at *
  obtain ⟨q, r, ev2, f1, f2, f3, f4, f5⟩ := div_core (Y := Y) (s := (n : Int)) (y1 := Y / 4294967296) (y0 := Y % 4294967296) (U := U) (c := L / 4294967296) (e := L % 4294967296) (by omega) (by omega) (by omega) (by omega) U0 (by omega) (by omega)
  -- the answer
  have A1 : (hi * 18446744073709551616 + lo - q * y) * 2 ^ n = r := by
    rw [Int.sub_mul, N1, Int.mul_assoc, hY]; omega
  have A2 : r / 2 ^ n = hi * 18446744073709551616 + lo - q * y := by rw [← A1]; exact Int.mul_ediv_cancel _ (by omega)
  have A3 : 0 ≤ r / 2 ^ n := Int.ediv_nonneg f2 (by omega)
  have A4 : r / 2 ^ n < y := Int.ediv_lt_of_lt_mul (by omega) (by rw [hY]; exact f3)
  have D1 : (hi * 18446744073709551616 + lo) / y = q := by
    rw [show hi * 18446744073709551616 + lo = r / 2 ^ n + y * q from by rw [A2, Int.mul_comm y q]; omega, Int.add_mul_ediv_left _ _ (by omega), Int.ediv_eq_zero_of_lt A3 A4]; omega
  have D2 : (hi * 18446744073709551616 + lo) % y = r / 2 ^ n := by
    rw [show hi * 18446744073709551616 + lo = r / 2 ^ n + y * q from by rw [A2, Int.mul_comm y q]; omega, Int.add_mul_emod_self_left, Int.emod_eq_of_lt A3 A4]
  rw [shr_u _ _ (by omega)] at ev2
  rw [D1, D2]
  refine Ev.congr (fun k => by rw [bits_Div64.f, if_neg (by omega), if_neg (by omega), if_neg h0]) (Ev.bind lz ?_)
  have w1 : IntKind.u64.wrap (n : Int) = (n : Int) := uw (by omega) (by clear pw1 pw2 pw3 l l' N1 eL dL; omega)
  have w2 : IntKind.u64.wrap (64 - (n : Int)) = (m : Int) := by
    clear pw1 pw2 pw3 l l' N1 eL dL
    rw [uw (by omega) (by omega)]; omega
  refine Ev.congr (fun k => by rw [w1, w2, if_pos (by omega), if_pos (by omega), sY, sH, sL, shr_u _ _ m1, sU, and32 (by omega) (by omega), and32 L0.1 L0.2, if_neg (by omega)]) ev2

def Ta (i : Int) : Int := rd trig_angle.ns i
theorem tba_all : ∀ i : Fin 65, 0 ≤ Ta i.val ∧ Ta i.val ≤ Ta (mn ((i.val : Int) + 1) 64) ∧ Ta (mn ((i.val : Int) + 1) 64) ≤ 16384 := by decide +kernel
theorem tba_at (i : Int) (h0 : 0 ≤ i) (h1 : i < 65) : 0 ≤ Ta i ∧ Ta i ≤ Ta (mn (i + 1) 64) ∧ Ta (mn (i + 1) 64) ≤ 16384 := by
  have := tba_all ⟨i.toNat, by omega⟩
  rw [show ((i.toNat : Nat) : Int) = i from by omega] at this
  exact this
def Ang (r : Int) : Int := Ta (r / 256) + ((Ta (mn (r / 256 + 1) 64) - Ta (r / 256)) * (r % 256) + 128) / 256
theorem A_in {r : Int} (h0 : 0 ≤ r) (h1 : r ≤ 16384) : 0 ≤ Ang r ∧ Ang r ≤ 16384 ∧ 0 ≤ (Ta (mn (r / 256 + 1) 64) - Ta (r / 256)) * (r % 256) ∧ (Ta (mn (r / 256 + 1) 64) - Ta (r / 256)) * (r % 256) ≤ 16384 * 255 := by
  obtain ⟨t0, t1, t2⟩ := tba_at (r / 256) (by omega) (by omega)
  unfold Ang
  generalize Ta (mn (r / 256 + 1) 64) = B at *
  generalize Ta (r / 256) = A at *
  have m1 : (B - A) * (r % 256) ≤ (B - A) * 255 := Int.mul_le_mul_of_nonneg_left (by omega) (by omega)
  have m0 : 0 ≤ (B - A) * (r % 256) := Int.mul_nonneg (by omega) (by omega)
  generalize (B - A) * (r % 256) = p at *
  omega
theorem angle_f {r : Int} (h0 : 0 ≤ r) (h1 : r ≤ 16384) : trig_angle.f r = some (Ang r) := by
  obtain ⟨t0, t1, t2⟩ := tba_at (r / 256) (by omega) (by omega)
  obtain ⟨s0, s1, s2, s3⟩ := A_in h0 h1
  rw [trig_angle.f, if_pos ⟨h0, h1⟩, trig_between.f]
  unfold Ang at s0 s1 ⊢
  show some (wrap64 (wrap64 (Ta (r / 256)) + wrap64 (wrap64 (wrap64 (IntKind.u16.wrap (Ta (mn (r / 256 + 1) 64) - Ta (r / 256))) * (r % 256)) + 128) / 256)) = _
  generalize Ta (mn (r / 256 + 1) 64) = B at *
  generalize Ta (r / 256) = A at *
  have u : IntKind.u16.wrap (B - A) = B - A := by rw [IntKind.wrap_u16]; omega
  rw [u, wsm (a := A) (by omega) (by omega), wsm (a := B - A) (by omega) (by omega)]
  generalize (B - A) * (r % 256) = p at *
  rw [wsm (a := p) (by omega) (by omega), wsm (a := p + 128) (by omega) (by omega), wsm (by omega) (by omega)]
def sz (a : Int) : Int := if a < 0 then -a else a
theorem size_t {a : Int} (A : I64 a) : trig_size.f a = some (sz a) := by
  unfold I64 at A
  rw [trig_size.f]
  unfold sz
  by_cases h : a < 0
  · rw [if_pos h, if_pos h, IntKind.wrap_u64, IntKind.wrap_u64]; congr 1; omega
  · rw [if_neg h, if_neg h, IntKind.wrap_u64]; congr 1; omega
def quad (y x b : Int) : Int := if y ≥ 0 ∧ x < 0 then 32768 - b else if y < 0 ∧ x < 0 then b + 32768 else if y < 0 then (-b) % 65536 else b
theorem quad_ev (y x : Int) {b : Int} (hb : 0 ≤ b ∧ b ≤ 16384) : Ev (fun k => trig_Atan2.j2 k y x b) (quad y x b, true) := by
  have w1 : wrap64 (32768 - b) = 32768 - b := wsm (by omega) (by omega)
  have w2 : wrap64 (b + 32768) = b + 32768 := wsm (by omega) (by omega)
  have w3 : wrap64 (-b) = -b := wsm (by omega) (by omega)
  unfold quad
  by_cases h1 : y ≥ 0
  · by_cases h2 : x < 0
    · rw [if_pos ⟨h1, h2⟩]
      refine Ev.step (fun k => by rw [trig_Atan2.j2, if_pos h1, decide_eq_true h2]) ?_
      exact Ev.step (fun k => by rw [trig_Atan2.j3, if_pos rfl, w1]) (Ev.now _)
    · rw [if_neg (by omega), if_neg (by omega), if_neg (by omega)]
      refine Ev.step (fun k => by rw [trig_Atan2.j2, if_pos h1, decide_eq_false h2]) ?_
      refine Ev.step (fun k => by rw [trig_Atan2.j3, if_neg (by decide), if_neg (by omega)]) ?_
      exact Ev.step (fun k => by rw [trig_Atan2.j4, if_neg (by decide), if_neg (by omega)]) (Ev.now _)
  · rw [if_neg (by omega)]
    by_cases h2 : x < 0
    · rw [if_pos ⟨by omega, h2⟩]
      refine Ev.step (fun k => by rw [trig_Atan2.j2, if_neg h1]) ?_
      refine Ev.step (fun k => by rw [trig_Atan2.j3, if_neg (by decide), if_pos (by omega), decide_eq_true h2]) ?_
      exact Ev.step (fun k => by rw [trig_Atan2.j4, if_pos rfl, w2]) (Ev.now _)
    · rw [if_neg (by omega), if_pos (by omega)]
      refine Ev.step (fun k => by rw [trig_Atan2.j2, if_neg h1]) ?_
      refine Ev.step (fun k => by rw [trig_Atan2.j3, if_neg (by decide), if_pos (by omega), decide_eq_false h2]) ?_
      exact Ev.step (fun k => by rw [trig_Atan2.j4, if_neg (by decide), if_pos (by omega), w3, and_16]) (Ev.now _)
def tan (l g : Int) : Int := if l < g then l * 16384 / g else 16384
theorem tan_in {l g : Int} (hl : 0 ≤ l) (hg : l ≤ g) : 0 ≤ tan l g ∧ tan l g ≤ 16384 := by
  unfold tan
  by_cases h : l < g
  · rw [if_pos h]
    refine ⟨Int.ediv_nonneg (by omega) (by omega), ?_⟩
    apply Int.lt_add_one_iff.mp
    exact Int.ediv_lt_of_lt_mul (by omega) (by omega)
  · rw [if_neg h]; decide
def atn (y x : Int) : Int × Bool :=
  if sz y > sz x then (quad y x (16384 - Ang (tan (sz x) (sz y))), true)
  else if sz x = 0 then (0, false) else (quad y x (Ang (tan (sz y) (sz x))), true)
theorem j0_ev (y x : Int) {l g : Int} (s : Bool) (hl : 0 ≤ l) (hlg : l ≤ g) (hg : 0 < g ∧ g < 18446744073709551616) : Ev (fun k => trig_Atan2.j0 k y x l g s) (quad y x (if s = true then 16384 - Ang (tan l g) else Ang (tan l g)), true) := by
  have ti := tan_in hl hlg
  have ai := A_in ti.1 ti.2
  have af := angle_f ti.1 ti.2
  have wt : wrap64 (tan l g) = tan l g := wsm (by omega) (by omega)
  have w2 : wrap64 (16384 - Ang (tan l g)) = 16384 - Ang (tan l g) := wsm (by omega) (by omega)
  have nx : Ev (fun k => trig_Atan2.j1 k y x s (tan l g)) (quad y x (if s = true then 16384 - Ang (tan l g) else Ang (tan l g)), true) := by
    refine Ev.step (fun k => by rw [trig_Atan2.j1, wt, af]) ?_
    refine Ev.bind (f := fun k t => _) (Ev.now _) ?_
    cases s
    · refine Ev.congr (fun k => by rw [if_neg (by decide)]) ?_
      rw [if_neg (by decide)]
      exact quad_ev y x ⟨ai.1, ai.2.1⟩
    · refine Ev.congr (fun k => by rw [if_pos rfl, w2]) ?_
      rw [if_pos rfl]
      exact quad_ev y x (by omega)
  by_cases h : l < g
  · have m := mul64_f (a := l) (b := 16384) ⟨hl, by omega⟩ ⟨by decide, by decide⟩
    have dv := div64_ev (hi := l * 16384 / 18446744073709551616) (lo := l * 16384 % 18446744073709551616) (y := g) ⟨by omega, by omega⟩ ⟨by omega, by omega⟩ hg.2
    rw [show l * 16384 / 18446744073709551616 * 18446744073709551616 + l * 16384 % 18446744073709551616 = l * 16384 from by omega] at dv
    have te : tan l g = l * 16384 / g := by unfold tan; rw [if_pos h]
    refine Ev.step (fun k => by rw [trig_Atan2.j0, if_neg (by omega), if_pos h, m]) ?_
    refine Ev.bind (f := fun k t => _) (Ev.now _) (Ev.bind dv ?_)
    rw [← te]; exact nx
  · have te : tan l g = 16384 := by unfold tan; rw [if_neg h]
    refine Ev.step (fun k => by rw [trig_Atan2.j0, if_neg (by omega), if_neg h]) ?_
    rw [te] at nx ⊢; exact nx
theorem atan_ev {y x : Int} (Y : I64 y) (X : I64 x) : Ev (fun k => trig_Atan2.f k y x) (atn y x) := by
  have sy := size_t Y
  have sx := size_t X
  have by' : 0 ≤ sz y ∧ sz y ≤ 9223372036854775808 := by unfold I64 at Y; unfold sz; split <;> omega
  have bx : 0 ≤ sz x ∧ sz x ≤ 9223372036854775808 := by unfold I64 at X; unfold sz; split <;> omega
  refine Ev.congr (fun k => by rw [trig_Atan2.f, sy, sx]) ?_
  refine Ev.bind (f := fun k t => _) (Ev.now _) (Ev.bind (f := fun k t => _) (Ev.now _) ?_)
  unfold atn
  by_cases h : sz y > sz x
  · rw [if_pos h]
    refine Ev.congr (fun k => by rw [if_pos h, decide_eq_true h]) ?_
    have := j0_ev y x (l := sz x) (g := sz y) true bx.1 (by omega) (by omega)
    rw [if_pos rfl] at this
    exact this
  · rw [if_neg h]
    refine Ev.congr (fun k => by rw [if_neg h, decide_eq_false h]) ?_
    by_cases g : sz x = 0
    · rw [if_pos g]
      exact Ev.step (fun k => by rw [trig_Atan2.j0, if_pos g]) (Ev.now _)
    · rw [if_neg g]
      have := j0_ev y x (l := sz y) (g := sz x) false by'.1 (by omega) (by omega)
      rw [if_neg (by decide)] at this
      exact this

theorem rsz_ev {a : Int} (A : I64 a) : ∃ d, Ev (fun k => windhoverref02_size.f k a) (false, d) ∧ W 3 false d (sz a) := by
  obtain ⟨b, d, o, w⟩ := of_ev a A.1 A.2
  refine ⟨d, ?_, w.1, w.2.1, (fun h => by cases h), ?_, w.2.2.2.2⟩
  · refine Ev.congr (fun k => by rw [windhoverref02_size.f]) ?_
    exact Ev.bind o (Ev.now _)
  · have v := V_nonneg d w.1
    have e := w.2.2.2.1
    unfold sz
    cases b
    · simp at e ⊢; rw [e]; split <;> omega
    · simp at e ⊢; rw [e]; split <;> omega
theorem part_loop {Ln Ld : Nat} {bn bd : Bool} {xn xd : List Int} {N D : Int} (wn : W Ln bn xn N) (wd : W Ld bd xd D) (hLn : Ln ≤ 20) (hLd : Ld ≤ 20) (hD : 1 ≤ D) :
    ∀ (n : Nat) (lo hi : Int), (hi - lo).toNat ≤ n → 0 ≤ lo → hi ≤ 16384 → lo ≤ N / D → N / D ≤ hi → Ev (fun k => windhoverref02_part.l0 k lo hi bd xd bn xn) (N / D) := by
  intro n
  induction n with
  | zero =>
    intro lo hi h0 A B h1 h2
    exact Ev.step (fun k => by rw [windhoverref02_part.l0, if_neg (by omega)]) (ev_eq (by omega) (Ev.now lo))
  | succ n ih =>
    intro lo hi h0 A B h1 h2
    by_cases g : lo < hi
    · have w : wrap64 (Int.tdiv (wrap64 (wrap64 (lo + hi) + 1)) 2) = (lo + hi + 1) / 2 := by
        rw [wsm (a := lo + hi) (by omega) (by omega), wsm (a := lo + hi + 1) (by omega) (by omega), Int.tdiv_eq_ediv_of_nonneg (by omega), wsm (by omega) (by omega)]
      have w' : wrap64 ((lo + hi + 1) / 2 - 1) = (lo + hi + 1) / 2 - 1 := wsm (by omega) (by omega)
      obtain ⟨b1, d1, o1, w1⟩ := of_ev ((lo + hi + 1) / 2) (by omega) (by omega)
      obtain ⟨c, z, p, v⟩ := times_ev w1 wd (by decide) (by omega)
      obtain ⟨r, q, sg⟩ := cmp_ev (v.mono (show 3 + Ld ≤ 40 by omega)) (wn.mono (show Ln ≤ 40 by omega)) (by decide)
      refine Ev.step (fun k => by rw [windhoverref02_part.l0, if_pos g, w, w']) ?_
      refine Ev.bind o1 (Ev.bind p (Ev.bind q ?_))
      unfold Sg at sg
      by_cases t : r ≤ 0
      · have : (lo + hi + 1) / 2 ≤ N / D := Int.le_ediv_of_mul_le (by omega) (by omega)
        refine Ev.congr (fun k => by rw [if_pos t]) (ih _ _ (by omega) (by omega) B this h2)
      · have : N / D < (lo + hi + 1) / 2 := Int.ediv_lt_of_lt_mul (by omega) (by omega)
        refine Ev.congr (fun k => by rw [if_neg t]) (ih _ _ (by omega) A (by omega) h1 (by omega))
    · exact Ev.step (fun k => by rw [windhoverref02_part.l0, if_neg g]) (ev_eq (by omega) (Ev.now lo))
theorem part_ev {xl xg : List Int} {l g : Int} (wl : W 3 false xl l) (wg : W 3 false xg g) (hl : 0 ≤ l) (hlg : l ≤ g) (hg : 0 < g) : Ev (fun k => windhoverref02_part.f k false xl false xg) (tan l g) := by
  have e : tan l g = l * 16384 / g := by
    unfold tan
    by_cases h : l < g
    · rw [if_pos h]
    · rw [if_neg h, show l = g by omega, Int.mul_ediv_cancel_left _ (by omega)]
  have ti := tan_in hl hlg
  rw [e] at ti ⊢
  obtain ⟨b1, d1, o1, w1⟩ := of_ev 16384 (by decide) (by decide)
  obtain ⟨c, z, p, v⟩ := times_ev wl w1 (by decide) (by decide)
  refine Ev.congr (fun k => by rw [windhoverref02_part.f]) ?_
  refine Ev.bind o1 (Ev.bind p ?_)
  exact part_loop v wg (by decide) (by decide) (by omega) _ 0 16384 (Nat.le_refl _) (by decide) (by decide) ti.1 ti.2
theorem ata_f {r : Int} (h0 : 0 ≤ r) (h1 : r ≤ 16384) : windhoverref02_at.f trig_angle.ns r = some (Ang r) := by
  obtain ⟨t0, t1, t2⟩ := tba_at (r / 256) (by omega) (by omega)
  obtain ⟨s0, s1, s2, s3⟩ := A_in h0 h1
  have l : (trig_angle.ns.length : Int) = 65 := rfl
  have e1 : Int.tdiv r 256 = r / 256 := Int.tdiv_eq_ediv_of_nonneg h0
  have e2 : Int.tmod r 256 = r % 256 := Int.tmod_eq_emod_of_nonneg h0
  have e3 : wrap64 (r / 256) = r / 256 := wsm (by omega) (by omega)
  have e4 : wrap64 (r / 256 + 1) = r / 256 + 1 := wsm (by omega) (by omega)
  rw [windhoverref02_at.f, l, e1, e2, e3, e4]
  unfold Ang at s0 s1 ⊢
  by_cases g : r % 256 = 0
  · rw [if_pos g, if_pos (by omega), if_pos (by omega), g]
    show some (Ta (r / 256)) = _
    rw [Int.mul_zero]; congr 1; omega
  · rw [if_neg g, if_pos (by omega), if_pos (by omega), if_pos (by omega), if_pos (by omega)]
    have m : mn (r / 256 + 1) 64 = r / 256 + 1 := by unfold mn; rw [if_neg (by omega)]
    rw [m] at s0 s1 s2 s3 t1 t2 ⊢
    show some (wrap64 (Ta (r / 256) + wrap64 (Int.tdiv (wrap64 (wrap64 (wrap64 (Ta (r / 256 + 1) - Ta (r / 256)) * (r % 256)) + 128)) 256))) = _
    generalize Ta (r / 256 + 1) = B at *
    generalize Ta (r / 256) = A at *
    rw [wsm (a := B - A) (by omega) (by omega)]
    generalize (B - A) * (r % 256) = p at *
    rw [wsm (a := p) (by omega) (by omega), wsm (a := p + 128) (by omega) (by omega), Int.tdiv_eq_ediv_of_nonneg (by omega), wsm (a := (p + 128) / 256) (by omega) (by omega), wsm (by omega) (by omega)]
theorem rquad_ev (y x : Int) {b : Int} (hb : 0 ≤ b ∧ b ≤ 16384) : Ev (fun k => windhoverref02_Atan2.j2 k y x b) (quad y x b, true) := by
  have w1 : wrap64 (32768 - b) = 32768 - b := wsm (by omega) (by omega)
  have w2 : wrap64 (32768 + b) = b + 32768 := by rw [wsm (by omega) (by omega)]; omega
  have w3 : wrap64 (65536 - b) = 65536 - b := wsm (by omega) (by omega)
  have w4 : Int.tmod (65536 - b) 65536 = (-b) % 65536 := by rw [Int.tmod_eq_emod_of_nonneg (by omega)]; omega
  unfold quad
  by_cases h2 : x ≥ 0
  · by_cases h1 : y ≥ 0
    · rw [if_neg (by omega), if_neg (by omega), if_neg (by omega)]
      refine Ev.step (fun k => by rw [windhoverref02_Atan2.j2, if_pos h2, decide_eq_true h1]) ?_
      exact Ev.step (fun k => by rw [windhoverref02_Atan2.j3, if_pos rfl]) (Ev.now _)
    · rw [if_neg (by omega), if_neg (by omega), if_pos (by omega)]
      refine Ev.step (fun k => by rw [windhoverref02_Atan2.j2, if_pos h2, decide_eq_false h1]) ?_
      exact Ev.step (fun k => by rw [windhoverref02_Atan2.j3, if_neg (by decide), if_neg h1, if_neg (by omega), w3, w4]) (Ev.now _)
  · refine Ev.step (fun k => by rw [windhoverref02_Atan2.j2, if_neg h2]) ?_
    by_cases h1 : y ≥ 0
    · rw [if_pos ⟨h1, by omega⟩]
      exact Ev.step (fun k => by rw [windhoverref02_Atan2.j3, if_neg (by decide), if_pos h1, w1]) (Ev.now _)
    · rw [if_neg (by omega), if_pos ⟨by omega, by omega⟩]
      exact Ev.step (fun k => by rw [windhoverref02_Atan2.j3, if_neg (by decide), if_neg h1, if_pos (by omega), w2]) (Ev.now _)
theorem rj1_ev (y x : Int) {l g : Int} {xl xg : List Int} (s : Bool) (wl : W 3 false xl l) (wg : W 3 false xg g) (hl : 0 ≤ l) (hlg : l ≤ g) (hg : 0 < g) : Ev (fun k => windhoverref02_Atan2.j1 k y x s false xl false xg) (quad y x (if s = true then 16384 - Ang (tan l g) else Ang (tan l g)), true) := by
  have ti := tan_in hl hlg
  have ai := A_in ti.1 ti.2
  have af := ata_f ti.1 ti.2
  have w2 : wrap64 (16384 - Ang (tan l g)) = 16384 - Ang (tan l g) := wsm (by omega) (by omega)
  have an : windhoverref02_angles.f = some trig_angle.ns := rfl
  refine Ev.step (fun k => by rw [windhoverref02_Atan2.j1, an]) ?_
  refine Ev.bind (f := fun k t => _) (Ev.now _) (Ev.bind (part_ev wl wg hl hlg hg) ?_)
  refine Ev.congr (fun k => by rw [af]) (Ev.bind (f := fun k t => _) (Ev.now _) ?_)
  cases s
  · refine Ev.congr (fun k => by rw [if_neg (by decide)]) ?_
    rw [if_neg (by decide)]
    exact rquad_ev y x ⟨ai.1, ai.2.1⟩
  · refine Ev.congr (fun k => by rw [if_pos rfl, w2]) ?_
    rw [if_pos rfl]
    exact rquad_ev y x (by omega)
theorem ratan_ev {y x : Int} (Y : I64 y) (X : I64 x) : Ev (fun k => windhoverref02_Atan2.f k y x) (atn y x) := by
  obtain ⟨dy, oy, wy⟩ := rsz_ev Y
  obtain ⟨dx, ox, wx⟩ := rsz_ev X
  have by' : 0 ≤ sz y ∧ (sz y = 0 ↔ y = 0) := by unfold sz; split <;> omega
  have bx : 0 ≤ sz x ∧ (sz x = 0 ↔ x = 0) := by unfold sz; split <;> omega
  by_cases z : x = 0 ∧ y = 0
  · obtain ⟨rfl, rfl⟩ := z
    refine Ev.congr (fun k => by rw [windhoverref02_Atan2.f, if_pos rfl, show ((0 : Int) == 0) = true from rfl]) ?_
    exact Ev.step (fun k => by rw [windhoverref02_Atan2.j0, if_pos rfl]) (ev_eq (by decide) (Ev.now (0, false)))
  have st : Ev (fun k => windhoverref02_Atan2.j0 k y x false) (atn y x) := by
    obtain ⟨r, q, sg⟩ := cmp_ev wy wx (by decide)
    refine Ev.step (fun k => by rw [windhoverref02_Atan2.j0, if_neg (by decide)]) ?_
    refine Ev.bind oy (Ev.bind ox (Ev.bind q ?_))
    unfold Sg at sg
    unfold atn
    by_cases h : sz y > sz x
    · have hr : r > 0 := by omega
      rw [if_pos h]
      refine Ev.congr (fun k => by rw [if_pos hr, decide_eq_true hr]) (Ev.bind ox (Ev.bind oy ?_))
      have := rj1_ev y x true wx wy bx.1 (by omega) (by omega)
      rw [if_pos rfl] at this
      exact this
    · have hr : ¬ r > 0 := by omega
      rw [if_neg h, if_neg (by omega)]
      refine Ev.congr (fun k => by rw [if_neg hr, decide_eq_false hr]) ?_
      have := rj1_ev y x false wy wx by'.1 (by omega) (by omega)
      rw [if_neg (by decide)] at this
      exact this
  by_cases h : x = 0
  · exact Ev.congr (fun k => by rw [windhoverref02_Atan2.f, if_pos h, show (y == 0) = false from by simp; omega]) st
  · exact Ev.congr (fun k => by rw [windhoverref02_Atan2.f, if_neg h]) st
theorem TrigAtans : windhoverlaw02_TrigAtans.Pure := by
  intro y x hy hx
  have Y := I64_of hy
  have X := I64_of hx
  apply Ev.rounds
  refine Ev.congr (fun k => by rw [windhoverlaw02_TrigAtans.f]) ?_
  refine Ev.bind (atan_ev Y X) (Ev.bind (ratan_ev Y X) (Ev.bind awake_ev ?_))
  refine Ev.congr (fun k => ?_) (Ev.now true)
  simp

end Go.Proofs.Ytplfcbbaanjdgaa.Pure
