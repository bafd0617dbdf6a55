/- The plain law of ParamsSets. -/
import Derived.Test.YtaabdnamofmfcaaPParamsSetsx8
namespace Go.Proofs.Ytaabdnamofmfcaa.Pure
open Go.RowKit Go.Proofs.Ytaabdnamofmfcaa.PParamsSets Go.Proofs.YtaabdnamofmfcaaW.PrintWords Go.Proofs.YtaabdnamofmfcaaW.PrintLast

set_option linter.unusedVariables false
set_option linter.unusedSimpArgs false
theorem Ev.now {α : Type} (r : α) : Ev (fun _ => some r) r := ⟨0, fun _ _ => rfl⟩

theorem wsm {a : Int} (h1 : -9223372036854775808 ≤ a) (h2 : a ≤ 9223372036854775807) : wrap64 a = a := by unfold wrap64; omega
theorem ev_eq {α : Type} {g : Nat → Option α} {r s : α} (h : r = s) (e : Ev g s) : Ev g r := h ▸ e
/-! ### params.Check and the document's -/
def RulesW (l : List Int) : Prop := ¬ (wrap64 ((wrap64 ((wrap64 ((rd l 0) + (rd l 6))) + (wrap64 (2 * (mx (rd l 2) (rd l 4)))))) + 4)) > 64 ∧ ¬ (rd l 12) < (wrap64 ((wrap64 (8 * (mx (rd l 1) (rd l 3)))) + 100)) ∧ ¬ (rd l 11) > (rd l 10)
def InRows (l : List Int) (i : Int) : Prop := ∀ j, i ≤ j → j < 24 → rd params_Check.tb0_0 j ≤ rd l j ∧ rd l j ≤ rd params_Check.tb0_1 j
open Classical in
noncomputable def cval (l : List Int) (i : Int) : Int := if InRows l i then (if RulesW l then 0 else 80) else 5
def Sound (l : List Int) : Prop := l.length = 24 ∧ InRows l 0 ∧ RulesW l
open Classical in
noncomputable def chv (l : List Int) : Int := if l.length = 24 then cval l 0 else 3
theorem inrows_last (l : List Int) : InRows l 24 := fun j h2 h3 => by omega
theorem cval_end (l : List Int) : cval l 24 = 0 ∧ RulesW l ∨ cval l 24 = 80 ∧ ¬ RulesW l := by
  unfold cval
  rw [if_pos (inrows_last l)]
  by_cases h : RulesW l
  · exact .inl ⟨if_pos h, h⟩
  · exact .inr ⟨if_neg h, h⟩
theorem cval_out {l : List Int} {i : Int} (hi : i < 24) (h : rd l i < rd params_Check.tb0_0 i ∨ rd l i > rd params_Check.tb0_1 i) : cval l i = 5 := by
  unfold cval
  rw [if_neg]
  intro g
  have := g i (Int.le_refl _) hi
  omega
theorem cval_on {l : List Int} {i : Int} (h1 : ¬ rd l i < rd params_Check.tb0_0 i) (h2 : ¬ rd l i > rd params_Check.tb0_1 i) : cval l i = cval l (i + 1) := by
  unfold cval
  have e : InRows l i ↔ InRows l (i + 1) := by
    refine ⟨fun h j a b => h j (by omega) b, fun h j a b => ?_⟩
    by_cases hj : j = i
    · subst hj; exact ⟨by omega, by omega⟩
    · exact h j (by omega) b
  by_cases g : InRows l i
  · rw [if_pos g, if_pos (e.1 g)]
  · rw [if_neg g, if_neg (fun h => g (e.2 h))]
theorem chv_zero {l : List Int} : chv l = 0 ↔ Sound l := by
  unfold chv cval Sound
  by_cases h : l.length = 24
  · by_cases g : InRows l 0
    · by_cases q : RulesW l
      · rw [if_pos h, if_pos g, if_pos q]; exact ⟨fun _ => ⟨h, g, q⟩, fun _ => rfl⟩
      · rw [if_pos h, if_pos g, if_neg q]; exact ⟨fun h => absurd h (by decide), fun h => absurd h.2.2 q⟩
    · rw [if_pos h, if_neg g]; exact ⟨fun h => absurd h (by decide), fun h => absurd h.2.1 g⟩
  · rw [if_neg h]; exact ⟨fun h => absurd h (by decide), fun g => absurd g.1 h⟩
theorem pchk_loop {l : List Int} (hl : l.length = 24) : ∀ (n : Nat) (i : Int), 0 ≤ i → i + n = 24 → Ev (fun k => params_Check.l0 k l i) (cval l i) := by
  have hL : (l.length : Int) = 24 := by omega
  intro n
  induction n with
  | zero =>
    intro i h0 h1
    have hi : i = 24 := by omega
    subst hi
    have hR : RulesW l = RulesW l := rfl
    conv at hR => rhs; unfold RulesW
    by_cases c1 : (wrap64 ((wrap64 ((wrap64 ((rd l 0) + (rd l 6))) + (wrap64 (2 * (mx (rd l 2) (rd l 4)))))) + 4)) > 64
    · have e : cval l 24 = 80 := by rcases cval_end l with h | h; exact absurd c1 (hR ▸ h.2).1; exact h.1
      exact Ev.step (f := fun _ => some (cval l 24)) (fun k => by rw [params_Check.l0, hL, e]; simp only [if_neg (show ¬ (24 : Int) < 24 by decide), if_pos (show (2 : Int) < 24 by decide), if_pos (show (4 : Int) < 24 by decide), if_pos (show (1 : Int) < 24 by decide), if_pos (show (3 : Int) < 24 by decide), if_pos (show (0 : Int) < 24 by decide), if_pos (show (6 : Int) < 24 by decide), if_pos c1]) (Ev.now _)
    · by_cases c2 : (rd l 12) < (wrap64 ((wrap64 (8 * (mx (rd l 1) (rd l 3)))) + 100))
      · have e : cval l 24 = 80 := by rcases cval_end l with h | h; exact absurd c2 (hR ▸ h.2).2.1; exact h.1
        exact Ev.step (f := fun _ => some (cval l 24)) (fun k => by rw [params_Check.l0, hL, e]; simp only [if_neg (show ¬ (24 : Int) < 24 by decide), if_pos (show (2 : Int) < 24 by decide), if_pos (show (4 : Int) < 24 by decide), if_pos (show (1 : Int) < 24 by decide), if_pos (show (3 : Int) < 24 by decide), if_pos (show (0 : Int) < 24 by decide), if_pos (show (6 : Int) < 24 by decide), if_neg c1, if_pos (show (12 : Int) < 24 by decide), if_pos c2]) (Ev.now _)
      · by_cases c3 : (rd l 11) > (rd l 10)
        · have e : cval l 24 = 80 := by rcases cval_end l with h | h; exact absurd c3 (hR ▸ h.2).2.2; exact h.1
          exact Ev.step (f := fun _ => some (cval l 24)) (fun k => by rw [params_Check.l0, hL, e]; simp only [if_neg (show ¬ (24 : Int) < 24 by decide), if_pos (show (2 : Int) < 24 by decide), if_pos (show (4 : Int) < 24 by decide), if_pos (show (1 : Int) < 24 by decide), if_pos (show (3 : Int) < 24 by decide), if_pos (show (0 : Int) < 24 by decide), if_pos (show (6 : Int) < 24 by decide), if_neg c1, if_pos (show (12 : Int) < 24 by decide), if_neg c2, if_pos (show (11 : Int) < 24 by decide), if_pos (show (10 : Int) < 24 by decide), if_pos c3]) (Ev.now _)
        · have e : cval l 24 = 0 := by
            rcases cval_end l with h | h
            · exact h.1
            · exact absurd (by rw [hR]; exact ⟨c1, c2, c3⟩) h.2
          exact Ev.step (f := fun _ => some (cval l 24)) (fun k => by rw [params_Check.l0, hL, e]; simp only [if_neg (show ¬ (24 : Int) < 24 by decide), if_pos (show (2 : Int) < 24 by decide), if_pos (show (4 : Int) < 24 by decide), if_pos (show (1 : Int) < 24 by decide), if_pos (show (3 : Int) < 24 by decide), if_pos (show (0 : Int) < 24 by decide), if_pos (show (6 : Int) < 24 by decide), if_neg c1, if_pos (show (12 : Int) < 24 by decide), if_neg c2, if_pos (show (11 : Int) < 24 by decide), if_pos (show (10 : Int) < 24 by decide), if_neg c3]) (Ev.now _)
  | succ n ih =>
    intro i h0 h1
    have hi : i < 24 := by omega
    have w : wrap64 (i + 1) = i + 1 := wsm (by omega) (by omega)
    have e1 := ih (i + 1) (by omega) (by omega)
    by_cases c1 : rd l i < rd params_Check.tb0_0 i
    · exact ev_eq (cval_out hi (.inl c1)) (Ev.step (f := fun _ => some 5) (fun k => by rw [params_Check.l0, hL, if_pos hi, if_pos h0, if_pos hi, if_pos c1]) (Ev.now 5))
    · by_cases c2 : rd l i > rd params_Check.tb0_1 i
      · exact ev_eq (cval_out hi (.inr c2)) (Ev.step (f := fun _ => some 5) (fun k => by rw [params_Check.l0, hL, if_pos hi, if_pos h0, if_pos hi, if_neg c1, if_pos c2]) (Ev.now 5))
      · exact ev_eq (cval_on c1 c2) (Ev.step (f := fun k => params_Check.l0 k l (i + 1)) (fun k => by rw [params_Check.l0, hL, if_pos hi, if_pos h0, if_pos hi, if_neg c1, if_neg c2, w]) e1)
theorem pcheck_ev (l : List Int) : Ev (fun k => params_Check.f k l) (chv l) := by
  by_cases hl : l.length = 24
  · refine ev_eq (if_pos hl) (Ev.congr (fun k => by rw [params_Check.f, if_pos (by omega)]) ?_)
    exact Ev.bind (Ev.now _) (pchk_loop hl 24 0 (by omega) (by omega))
  · exact ev_eq (if_neg hl) (Ev.congr (fun k => by rw [params_Check.f, if_neg (by omega)]) (Ev.now 3))
theorem rules_ev {l : List Int} (hl : l.length = 24) : (RulesW l → windhoverref08_rules.f l = some true) ∧ (¬ RulesW l → windhoverref08_rules.f l = some false) := by
  have hL : (l.length : Int) = 24 := by omega
  rw [windhoverref08_rules.f, hL]
  simp only [if_pos (show (2 : Int) < 24 by decide), if_pos (show (4 : Int) < 24 by decide), if_pos (show (1 : Int) < 24 by decide), if_pos (show (3 : Int) < 24 by decide), if_pos (show (0 : Int) < 24 by decide), if_pos (show (6 : Int) < 24 by decide), if_pos (show (12 : Int) < 24 by decide), if_pos (show (11 : Int) < 24 by decide), if_pos (show (10 : Int) < 24 by decide)]
  unfold RulesW
  generalize (wrap64 ((wrap64 ((wrap64 ((rd l 0) + (rd l 6))) + (wrap64 (2 * (mx (rd l 2) (rd l 4)))))) + 4)) = A
  generalize (wrap64 ((wrap64 (8 * (mx (rd l 1) (rd l 3)))) + 100)) = B
  refine ⟨fun h => ?_, fun h => ?_⟩
  · rw [if_pos (by omega), if_pos (by omega), decide_eq_true (by omega)]
  · by_cases c1 : A ≤ 64
    · rw [if_pos c1]
      by_cases c2 : (rd l 12) ≥ B
      · rw [if_pos c2, decide_eq_false (fun h3 => h ⟨by omega, by omega, by omega⟩)]
      · rw [if_neg c2]
    · rw [if_neg c1]
theorem rchk_loop {l : List Int} (hl : l.length = 24) : ∀ (n : Nat) (i : Int), 0 ≤ i → i + n = 24 → Ev (fun k => windhoverref08_Check.l0 k l i) (cval l i) := by
  have hL : (l.length : Int) = 24 := by omega
  intro n
  induction n with
  | zero =>
    intro i h0 h1
    have hi : i = 24 := by omega
    subst hi
    obtain ⟨r1, r2⟩ := rules_ev hl
    rcases cval_end l with h | h
    · exact ev_eq h.1 (Ev.step (f := fun _ => some 0) (fun k => by rw [windhoverref08_Check.l0, if_neg (by decide), r1 h.2]; rfl) (Ev.now 0))
    · exact ev_eq h.1 (Ev.step (f := fun _ => some 80) (fun k => by rw [windhoverref08_Check.l0, if_neg (by decide), r2 h.2]; rfl) (Ev.now 80))
  | succ n ih =>
    intro i h0 h1
    have hi : i < 24 := by omega
    have w : wrap64 (i + 1) = i + 1 := wsm (by omega) (by omega)
    have e1 := ih (i + 1) (by omega) (by omega)
    have f : ∀ k, windhoverref08_Check.l0 (k + 1) l i = if rd l i < rd params_Check.tb0_0 i then some 5 else if rd l i > rd params_Check.tb0_1 i then some 5 else windhoverref08_Check.l0 k l (i + 1) := fun k => by
      rw [windhoverref08_Check.l0, hL, if_pos hi, if_pos h0, if_pos hi, w, windhoverref08_lows.f, windhoverref08_highs.f]
      simp only [Option.bind_some]
      rw [show (params_Check.tb0_0 : List Int) = [0, 1, 0, 1, 0, 0, 4, 1600, 1600, 2000, 1000, 500, 200, 100, 40, 40, 1, 0, 0, 0, 0, 1, 0, 16] from rfl, show (params_Check.tb0_1 : List Int) = [16, 200, 16, 200, 16, 4, 32, 64000, 32000, 16000, 120000, 120000, 10000, 10000, 40000, 40000, 40, 1000000000, 1000000, 1000, 1000, 10000, 16384, 3200] from rfl]
      have hi2 : i < (([0, 1, 0, 1, 0, 0, 4, 1600, 1600, 2000, 1000, 500, 200, 100, 40, 40, 1, 0, 0, 0, 0, 1, 0, 16] : List Int).length : Int) := hi
      have hi3 : i < (([16, 200, 16, 200, 16, 4, 32, 64000, 32000, 16000, 120000, 120000, 10000, 10000, 40000, 40000, 40, 1000000000, 1000000, 1000, 1000, 10000, 16384, 3200] : List Int).length : Int) := hi
      rw [if_pos hi2, if_pos hi3]
    by_cases c1 : rd l i < rd params_Check.tb0_0 i
    · exact ev_eq (cval_out hi (.inl c1)) (Ev.step (f := fun _ => some 5) (fun k => by rw [f, if_pos c1]) (Ev.now 5))
    · by_cases c2 : rd l i > rd params_Check.tb0_1 i
      · exact ev_eq (cval_out hi (.inr c2)) (Ev.step (f := fun _ => some 5) (fun k => by rw [f, if_neg c1, if_pos c2]) (Ev.now 5))
      · exact ev_eq (cval_on c1 c2) (Ev.step (f := fun k => windhoverref08_Check.l0 k l (i + 1)) (fun k => by rw [f, if_neg c1, if_neg c2]) e1)
theorem rcheck_ev (l : List Int) : Ev (fun k => windhoverref08_Check.f k l) (chv l) := by
  by_cases hl : l.length = 24
  · exact ev_eq (if_pos hl) (Ev.congr (fun k => by rw [windhoverref08_Check.f, if_pos (by omega)]) (rchk_loop hl 24 0 (by omega) (by omega)))
  · exact ev_eq (if_neg hl) (Ev.congr (fun k => by rw [windhoverref08_Check.f, if_neg (by omega)]) (Ev.now 3))

theorem awake8_ev : Ev (fun k => windhoverlaw08_awake.f k) true := by
  have h : windhoverlaw08_awake.f 60 = some true := by decide +kernel
  exact Ev.of (fun k => windhoverlaw08_awake.mono k) h

theorem same_loop {l : List Int} (hl : l.length ≤ 4611686018427387904) : ∀ (n i : Nat), i + n = l.length → Ev (fun k => windhoverref00_SameInts.l0 k l l (i : Int)) true := by
  intro n
  induction n with
  | zero => intro i h; exact Ev.step (f := fun _ => some true) (fun k => by rw [windhoverref00_SameInts.l0, if_neg (by omega)]) (Ev.now _)
  | succ n ih =>
    intro i h
    have w : wrap64 ((i : Int) + 1) = ((i + 1 : Nat) : Int) := by rw [wsm (by omega) (by omega)]; omega
    exact Ev.step (f := fun k => windhoverref00_SameInts.l0 k l l ((i + 1 : Nat) : Int)) (fun k => by rw [windhoverref00_SameInts.l0, if_pos (by omega), if_pos (by omega), if_pos (by omega), if_pos rfl, w]) (ih (i + 1) (by omega))
theorem same_ev {l : List Int} (hl : l.length ≤ 4611686018427387904) : Ev (fun k => windhoverref00_SameInts.f k l l) true :=
  Ev.congr (fun k => by rw [windhoverref00_SameInts.f, if_pos rfl]; rfl) (same_loop hl l.length 0 (by omega))

theorem lent_w4 {n : Nat} (h : n ≤ 17592186043904) : wrap64 ((n : Int) + 4) = (n : Int) + 4 := wsm (by omega) (by omega)
theorem lent_exit {x0 x3 : List Int} (h : x0.length ≤ x3.length) : Ev (fun k => windhoverkeep_Lent.l0 k x0 x3 4) x3 :=
  Ev.step (f := fun _ => some x3) (fun k => by rw [windhoverkeep_Lent.l0, if_neg (by decide), if_pos (by omega), if_pos (by omega)]) (Ev.now _)
theorem lent_round {x0 x3 : List Int} {i j : Int} {r : List Int} (hi : i < 4) (hj : wrap64 (i + 1) = j) (hl : x3.length < 17592186044416) (h : Ev (fun k => windhoverkeep_Lent.l0 k x0 (x3 ++ [-7770777]) j) r) : Ev (fun k => windhoverkeep_Lent.l0 k x0 x3 i) r :=
  Ev.step (f := fun k => windhoverkeep_Lent.l0 k x0 (x3 ++ [-7770777]) j) (fun k => by rw [windhoverkeep_Lent.l0, if_pos hi, if_pos hl, hj]) h
theorem lent_ev {l : List Int} (h : l.length ≤ 17592186043904) : Ev (fun k => windhoverkeep_Lent.f k l) (l ++ [-7770777, -7770777, -7770777, -7770777]) := by
  have e : l ++ [-7770777, -7770777, -7770777, -7770777] = (((l ++ [-7770777]) ++ [-7770777]) ++ [-7770777]) ++ [-7770777] := by simp
  refine Ev.congr (f := fun k => windhoverkeep_Lent.l0 k l l 0) (fun k => ?_) ?_
  · rw [windhoverkeep_Lent.f, lent_w4 h, if_pos (by omega), if_pos (by omega), Option.bind_some, if_pos (by simp; omega), List.nil_append]
  · rw [e]
    refine lent_round (j := 1) (by decide) (wsm (by decide) (by decide)) (by omega) ?_
    refine lent_round (j := 2) (by decide) (wsm (by decide) (by decide)) (by simp; omega) ?_
    refine lent_round (j := 3) (by decide) (wsm (by decide) (by decide)) (by simp; omega) ?_
    refine lent_round (j := 4) (by decide) (wsm (by decide) (by decide)) (by simp; omega) ?_
    exact lent_exit (by simp)
theorem kept_exit {x : List Int} {i : Int} (h : ¬ i < (x.length : Int)) : Ev (fun k => windhoverkeep_Kept.l0 k x i) true :=
  Ev.step (f := fun _ => some true) (fun k => by rw [windhoverkeep_Kept.l0, if_neg h]) (Ev.now _)
theorem kept_round {x : List Int} {i j : Int} {r : Bool} (hi : i < (x.length : Int)) (h0 : 0 ≤ i) (hm : rd x i = -7770777) (hj : wrap64 (i + 1) = j) (h : Ev (fun k => windhoverkeep_Kept.l0 k x j) r) : Ev (fun k => windhoverkeep_Kept.l0 k x i) r :=
  Ev.step (f := fun k => windhoverkeep_Kept.l0 k x j) (fun k => by rw [windhoverkeep_Kept.l0, if_pos hi, if_pos h0, if_pos hm, hj]) h
theorem rd_room {l m : List Int} (j : Nat) (i : Int) (hi : i = (l.length : Int) + (j : Int)) : rd (l ++ m) i = m.getD j 0 := by
  subst hi
  unfold rd
  rw [show ((l.length : Int) + (j : Int)).toNat = l.length + j by omega]
  simp [List.getD, List.getElem?_append_right]
theorem keep_ev {l : List Int} (h : l.length ≤ 17592186043904) : Ev (fun k => windhoverkeep_Kept.f k (l ++ [-7770777, -7770777, -7770777, -7770777]) l) true := by
  refine Ev.congr (fun k => by rw [windhoverkeep_Kept.f, List.take_left]) ?_
  refine Ev.bind (same_ev (by omega)) ?_
  have hl : ((l ++ [-7770777, -7770777, -7770777, -7770777] : List Int).length : Int) = (l.length : Int) + 4 := by simp
  have ht : (l ++ [-7770777, -7770777, -7770777, -7770777] : List Int).take ((l.length : Int) + 4).toNat = l ++ [-7770777, -7770777, -7770777, -7770777] := List.take_of_length_le (by simp; omega)
  refine Ev.congr (f := fun k => windhoverkeep_Kept.l0 k (l ++ [-7770777, -7770777, -7770777, -7770777]) (l.length : Int)) (fun k => by rw [if_pos rfl, lent_w4 h, if_pos (by omega), if_pos (by omega), ht]) ?_
  have w : ∀ j : Nat, j ≤ 4 → wrap64 ((l.length : Int) + (j : Int) + 1) = (l.length : Int) + ((j + 1 : Nat) : Int) := fun j hj => by rw [wsm (by omega) (by omega)]; omega
  refine kept_round (j := (l.length : Int) + ((1 : Nat) : Int)) (by omega) (by omega) (by rw [rd_room 0 _ (by simp)]; rfl) (by have := w 0 (by decide); simpa using this) ?_
  refine kept_round (j := (l.length : Int) + ((2 : Nat) : Int)) (by omega) (by omega) (by rw [rd_room 1 _ (by simp)]; rfl) (w 1 (by decide)) ?_
  refine kept_round (j := (l.length : Int) + ((3 : Nat) : Int)) (by omega) (by omega) (by rw [rd_room 2 _ (by simp)]; rfl) (w 2 (by decide)) ?_
  refine kept_round (j := (l.length : Int) + ((4 : Nat) : Int)) (by omega) (by omega) (by rw [rd_room 3 _ (by simp)]; rfl) (w 3 (by decide)) ?_
  exact kept_exit (by omega)

noncomputable def setv (l : List Int) (i x : Int) : List Int × Int := if chv l = 0 then (if 0 ≤ i ∧ i < 24 then (if chv (l.set i.toNat x) = 0 then (l.set i.toNat x, 0) else ([], chv (l.set i.toNat x))) else ([], 1)) else ([], chv l)
theorem chv_len {l : List Int} (h : chv l = 0) : l.length = 24 := (chv_zero.1 h).1
theorem pset_ev (l : List Int) (i x : Int) : Ev (fun k => params_Set.f k l i x) (setv l i x) := by
  refine Ev.congr (fun k => by rw [params_Set.f]) ?_
  refine Ev.bind (pcheck_ev l) ?_
  by_cases h : chv l = 0
  · have hl := chv_len h
    have hw : Ev (fun k => params_Set.j0 k l i x (decide (¬ (0 ≤ i ∧ i < 24)))) (setv l i x) := by
      by_cases hi : 0 ≤ i ∧ i < 24
      · rw [decide_eq_false (by simpa using hi)]
        refine Ev.step (f := fun k => (params_Check.f k (l.set i.toNat x)).bind fun t => (if t = 0 then (some (l.set i.toNat x, 0)) else (some (([] : List Int), t)))) (fun k => ?_) ?_
        · rw [params_Set.j0, if_neg (by decide), Option.bind_some, if_pos (by simp; omega), Option.bind_some, List.nil_append, if_pos hi.1, if_pos (by omega), Option.bind_some]
        · refine Ev.bind (pcheck_ev _) ?_
          unfold setv
          rw [if_pos h, if_pos hi]
          by_cases c : chv (l.set i.toNat x) = 0
          · rw [if_pos c, if_pos c]; exact Ev.now _
          · rw [if_neg c, if_neg c]; exact Ev.now _
      · rw [decide_eq_true (by simpa using hi)]
        refine Ev.step (f := fun _ => some (setv l i x)) (fun k => ?_) (Ev.now _)
        rw [params_Set.j0, if_pos rfl]
        unfold setv
        rw [if_pos h, if_neg hi]
    rw [h]
    by_cases c : i < 0
    · refine Ev.congr (fun k => by rw [if_pos rfl, if_pos c]) ?_
      rw [decide_eq_true (show ¬ (0 ≤ i ∧ i < 24) by omega)] at hw
      exact hw
    · refine Ev.congr (fun k => by rw [if_pos rfl, if_neg c, show decide (i ≥ 24) = decide (¬ (0 ≤ i ∧ i < 24)) from decide_eq_decide.2 (by omega)]) hw
  · refine Ev.congr (f := fun _ => some (setv l i x)) (fun k => ?_) (Ev.now _)
    rw [if_neg h]
    unfold setv
    rw [if_neg h]
theorem rset_ev (l : List Int) (i x : Int) : Ev (fun k => windhoverref08_Set.f k l i x) (setv l i x) := by
  refine Ev.congr (fun k => by rw [windhoverref08_Set.f]) ?_
  refine Ev.bind (rcheck_ev l) ?_
  by_cases h : chv l = 0
  · have hl := chv_len h
    have hI : windhoverref00_Ints.f l = some l := by unfold windhoverref00_Ints.f; simp; omega
    have hw : Ev (fun k => windhoverref08_Set.j0 k l i x (decide (¬ (0 ≤ i ∧ i < 24)))) (setv l i x) := by
      by_cases hi : 0 ≤ i ∧ i < 24
      · rw [decide_eq_false (by simpa using hi)]
        refine Ev.step (f := fun k => (windhoverref08_Check.f k (l.set i.toNat x)).bind fun t => (if t = 0 then (some (l.set i.toNat x, 0)) else (some (([] : List Int), t)))) (fun k => ?_) ?_
        · rw [windhoverref08_Set.j0, if_neg (by decide), hI, Option.bind_some, if_pos hi.1, if_pos (by omega), Option.bind_some]
        · refine Ev.bind (rcheck_ev _) ?_
          unfold setv
          rw [if_pos h, if_pos hi]
          by_cases c : chv (l.set i.toNat x) = 0
          · rw [if_pos c, if_pos c]; exact Ev.now _
          · rw [if_neg c, if_neg c]; exact Ev.now _
      · rw [decide_eq_true (by simpa using hi)]
        refine Ev.step (f := fun _ => some (setv l i x)) (fun k => ?_) (Ev.now _)
        rw [windhoverref08_Set.j0, if_pos rfl]
        unfold setv
        rw [if_pos h, if_neg hi]
    rw [h]
    by_cases c : i < 0
    · refine Ev.congr (fun k => by rw [if_pos rfl, if_pos c]) ?_
      rw [decide_eq_true (show ¬ (0 ≤ i ∧ i < 24) by omega)] at hw
      exact hw
    · refine Ev.congr (fun k => by rw [if_pos rfl, if_neg c, show decide (i ≥ 24) = decide (¬ (0 ≤ i ∧ i < 24)) from decide_eq_decide.2 (by omega)]) hw
  · refine Ev.congr (f := fun _ => some (setv l i x)) (fun k => ?_) (Ev.now _)
    rw [if_neg h]
    unfold setv
    rw [if_neg h]
theorem setv_ok {l : List Int} {i x : Int} (h : (setv l i x).2 = 0) : l.length = 24 ∧ 0 ≤ i ∧ i < 24 ∧ setv l i x = (l.set i.toNat x, 0) ∧ chv (l.set i.toNat x) = 0 := by
  unfold setv at h ⊢
  by_cases c : chv l = 0
  · rw [if_pos c] at h ⊢
    by_cases d : 0 ≤ i ∧ i < 24
    · rw [if_pos d] at h ⊢
      by_cases e : chv (l.set i.toNat x) = 0
      · rw [if_pos e]; exact ⟨chv_len c, d.1, d.2, rfl, e⟩
      · rw [if_neg e] at h; exact absurd h e
    · rw [if_neg d] at h; exact absurd h (by decide)
  · rw [if_neg c] at h; exact absurd h c
theorem setv_len (l : List Int) (i x : Int) : (setv l i x).1.length ≤ 24 := by
  unfold setv
  split
  · rename_i c
    split
    · split
      · simp [chv_len c]
      · simp
    · simp
  · simp
theorem sets_loop {l t : List Int} {i x : Int} (hl : l.length = 24) (h0 : 0 ≤ i) (hi : i < 24) (he : chv (l.set i.toNat x) = 0) (ht : t.length < 2147483648) (AW : Ev (fun k => windhoverlaw08_awake.f k) true) :
    ∀ (n j : Nat), j + n = 24 → Ev (fun k => windhoverlaw08_ParamsSets.l0 k l i x t (l.set i.toNat x) (j : Int)) true := by
  have hL : ((l.set i.toNat x).length : Int) = 24 := by simp; omega
  intro n
  induction n with
  | zero =>
    intro j hj
    obtain rfl : j = 24 := by omega
    refine Ev.step (f := fun k => (params_Check.f k (l.set i.toNat x)).bind fun t395 => (if t395 = 0 then ((windhoverkeep_Apart.f (([(l.set i.toNat x), t] : List (List Int)))).bind fun t399 => (if t399 = true then ((windhoverlaw08_awake.f k).bind fun t400 => (some t400)) else (none))) else (none))) (fun k => by rw [windhoverlaw08_ParamsSets.l0, if_neg (by omega)]) ?_
    refine Ev.bind (pcheck_ev _) ?_
    have hA : windhoverkeep_Apart.f [l.set i.toNat x, t] = some true := by
      unfold windhoverkeep_Apart.f
      rw [if_pos]
      simp
      omega
    refine Ev.congr (fun k => by rw [if_pos he, hA, Option.bind_some, if_pos rfl]) ?_
    exact Ev.bind AW (Ev.now true)
  | succ n ih =>
    intro j hj
    have w : wrap64 ((j : Int) + 1) = ((j + 1 : Nat) : Int) := by rw [wsm (by omega) (by omega)]; omega
    refine Ev.step (f := fun k => windhoverlaw08_ParamsSets.l0 k l i x t (l.set i.toNat x) ((j + 1 : Nat) : Int)) (fun k => ?_) (ih (j + 1) (by omega))
    rw [windhoverlaw08_ParamsSets.l0, if_pos (by omega), w]
    by_cases c : (j : Int) = i
    · have hr : rd (l.set i.toNat x) (j : Int) = x := by
        have e : i.toNat = j := by omega
        rw [e]
        simp [rd, List.getD, List.getElem?_set, hl, show j < 24 by omega]
      rw [if_pos c, if_pos (by omega), if_pos hr]
    · have hr : rd (l.set i.toNat x) (j : Int) = rd l (j : Int) := by
        have e : ¬ i.toNat = j := by omega
        simp [rd, List.getD, List.getElem?_set, e]
      rw [if_neg c, if_pos (by omega), if_pos (by omega), if_pos hr]
theorem ParamsSets : windhoverlaw08_ParamsSets.Pure := by
  intro l i x _ h2 _ _ _
  have h : l.length ≤ 17592186043904 := by omega
  have hlen := setv_len l i x
  apply Ev.rounds
  refine Ev.congr (fun k => by rw [windhoverlaw08_ParamsSets.f]) ?_
  refine Ev.bind (lent_ev h) ?_
  refine Ev.congr (fun k => by rw [if_pos (by simp), List.take_left]) ?_
  refine Ev.bind (pset_ev l i x) ?_
  refine Ev.bind (rset_ev l i x) ?_
  refine Ev.bind (keep_ev h) ?_
  refine Ev.congr (fun k => by rw [if_pos rfl]) ?_
  refine Ev.bind (same_ev (by omega)) ?_
  refine Ev.congr (fun k => by rw [if_pos rfl]) ?_
  by_cases c : (setv l i x).2 = 0
  · obtain ⟨q1, q2, q3, q4, q5⟩ := setv_ok c
    rw [q4]
    refine Ev.step (f := fun k => windhoverlaw08_ParamsSets.l0 k l i x (l ++ [-7770777, -7770777, -7770777, -7770777]) (l.set i.toNat x) ((0 : Nat) : Int)) (fun k => by rw [windhoverlaw08_ParamsSets.j0, if_neg (by decide), if_pos rfl]; rfl) ?_
    exact sets_loop q1 q2 q3 q5 (by simp; omega) awake8_ev 24 0 (by omega)
  · refine Ev.step (f := fun k => (windhoverlaw08_awake.f k).bind fun t391 => (some t391)) (fun k => by rw [windhoverlaw08_ParamsSets.j0, if_neg (by decide), if_neg c]) ?_
    exact Ev.bind awake8_ev (Ev.now true)

end Go.Proofs.Ytaabdnamofmfcaa.Pure
