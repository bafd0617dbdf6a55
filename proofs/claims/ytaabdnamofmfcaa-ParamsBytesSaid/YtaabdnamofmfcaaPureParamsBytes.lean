/- Any bytes that are read are those of what was read. -/
import Derived.Test.YtaabdnamofmfcaaPParamsBytesx6
namespace Go.Proofs.Ytaabdnamofmfcaa.Pure
open Go.RowKit Go.Proofs.Ytaabdnamofmfcaa.PParamsBytes Go.Proofs.YtaabdnamofmfcaaW.PrintWords Go.Proofs.YtaabdnamofmfcaaW.PrintLast

set_option linter.unusedVariables false
set_option linter.unusedSimpArgs false
theorem Ev.now {α : Type} (r : α) : Ev (fun _ => some r) r := ⟨0, fun _ _ => rfl⟩

theorem wsm {a : Int} (h1 : -9223372036854775808 ≤ a) (h2 : a ≤ 9223372036854775807) : wrap64 a = a := by unfold wrap64; omega
theorem ev_eq {α : Type} {g : Nat → Option α} {r s : α} (h : r = s) (e : Ev g s) : Ev g r := h ▸ e
/-! ### params.Check and the document's -/
def RulesW (l : List Int) : Prop := ¬ (wrap64 ((wrap64 ((wrap64 ((rd l 0) + (rd l 6))) + (wrap64 (2 * (mx (rd l 2) (rd l 4)))))) + 4)) > 64 ∧ ¬ (rd l 12) < (wrap64 ((wrap64 (8 * (mx (rd l 1) (rd l 3)))) + 100)) ∧ ¬ (rd l 11) > (rd l 10)
def InRows (l : List Int) (i : Int) : Prop := ∀ j, i ≤ j → j < 24 → rd params_Check.tb0_0 j ≤ rd l j ∧ rd l j ≤ rd params_Check.tb0_1 j
open Classical in
noncomputable def cval (l : List Int) (i : Int) : Int := if InRows l i then (if RulesW l then 0 else 80) else 5
def Sound (l : List Int) : Prop := l.length = 24 ∧ InRows l 0 ∧ RulesW l
open Classical in
noncomputable def chv (l : List Int) : Int := if l.length = 24 then cval l 0 else 3
theorem inrows_last (l : List Int) : InRows l 24 := fun j h2 h3 => by omega
theorem cval_end (l : List Int) : cval l 24 = 0 ∧ RulesW l ∨ cval l 24 = 80 ∧ ¬ RulesW l := by
  unfold cval
  rw [if_pos (inrows_last l)]
  by_cases h : RulesW l
  · exact .inl ⟨if_pos h, h⟩
  · exact .inr ⟨if_neg h, h⟩
theorem cval_out {l : List Int} {i : Int} (hi : i < 24) (h : rd l i < rd params_Check.tb0_0 i ∨ rd l i > rd params_Check.tb0_1 i) : cval l i = 5 := by
  unfold cval
  rw [if_neg]
  intro g
  have := g i (Int.le_refl _) hi
  omega
theorem cval_on {l : List Int} {i : Int} (h1 : ¬ rd l i < rd params_Check.tb0_0 i) (h2 : ¬ rd l i > rd params_Check.tb0_1 i) : cval l i = cval l (i + 1) := by
  unfold cval
  have e : InRows l i ↔ InRows l (i + 1) := by
    refine ⟨fun h j a b => h j (by omega) b, fun h j a b => ?_⟩
    by_cases hj : j = i
    · subst hj; exact ⟨by omega, by omega⟩
    · exact h j (by omega) b
  by_cases g : InRows l i
  · rw [if_pos g, if_pos (e.1 g)]
  · rw [if_neg g, if_neg (fun h => g (e.2 h))]
theorem chv_zero {l : List Int} : chv l = 0 ↔ Sound l := by
  unfold chv cval Sound
  by_cases h : l.length = 24
  · by_cases g : InRows l 0
    · by_cases q : RulesW l
      · rw [if_pos h, if_pos g, if_pos q]; exact ⟨fun _ => ⟨h, g, q⟩, fun _ => rfl⟩
      · rw [if_pos h, if_pos g, if_neg q]; exact ⟨fun h => absurd h (by decide), fun h => absurd h.2.2 q⟩
    · rw [if_pos h, if_neg g]; exact ⟨fun h => absurd h (by decide), fun h => absurd h.2.1 g⟩
  · rw [if_neg h]; exact ⟨fun h => absurd h (by decide), fun g => absurd g.1 h⟩
theorem pchk_loop {l : List Int} (hl : l.length = 24) : ∀ (n : Nat) (i : Int), 0 ≤ i → i + n = 24 → Ev (fun k => params_Check.l0 k l i) (cval l i) := by
  have hL : (l.length : Int) = 24 := by omega
  intro n
  induction n with
  | zero =>
    intro i h0 h1
    have hi : i = 24 := by omega
    subst hi
    have hR : RulesW l = RulesW l := rfl
    conv at hR => rhs; unfold RulesW
    by_cases c1 : (wrap64 ((wrap64 ((wrap64 ((rd l 0) + (rd l 6))) + (wrap64 (2 * (mx (rd l 2) (rd l 4)))))) + 4)) > 64
    · have e : cval l 24 = 80 := by rcases cval_end l with h | h; exact absurd c1 (hR ▸ h.2).1; exact h.1
      exact Ev.step (f := fun _ => some (cval l 24)) (fun k => by rw [params_Check.l0, hL, e]; simp only [if_neg (show ¬ (24 : Int) < 24 by decide), if_pos (show (2 : Int) < 24 by decide), if_pos (show (4 : Int) < 24 by decide), if_pos (show (1 : Int) < 24 by decide), if_pos (show (3 : Int) < 24 by decide), if_pos (show (0 : Int) < 24 by decide), if_pos (show (6 : Int) < 24 by decide), if_pos c1]) (Ev.now _)
    · by_cases c2 : (rd l 12) < (wrap64 ((wrap64 (8 * (mx (rd l 1) (rd l 3)))) + 100))
      · have e : cval l 24 = 80 := by rcases cval_end l with h | h; exact absurd c2 (hR ▸ h.2).2.1; exact h.1
        exact Ev.step (f := fun _ => some (cval l 24)) (fun k => by rw [params_Check.l0, hL, e]; simp only [if_neg (show ¬ (24 : Int) < 24 by decide), if_pos (show (2 : Int) < 24 by decide), if_pos (show (4 : Int) < 24 by decide), if_pos (show (1 : Int) < 24 by decide), if_pos (show (3 : Int) < 24 by decide), if_pos (show (0 : Int) < 24 by decide), if_pos (show (6 : Int) < 24 by decide), if_neg c1, if_pos (show (12 : Int) < 24 by decide), if_pos c2]) (Ev.now _)
      · by_cases c3 : (rd l 11) > (rd l 10)
        · have e : cval l 24 = 80 := by rcases cval_end l with h | h; exact absurd c3 (hR ▸ h.2).2.2; exact h.1
          exact Ev.step (f := fun _ => some (cval l 24)) (fun k => by rw [params_Check.l0, hL, e]; simp only [if_neg (show ¬ (24 : Int) < 24 by decide), if_pos (show (2 : Int) < 24 by decide), if_pos (show (4 : Int) < 24 by decide), if_pos (show (1 : Int) < 24 by decide), if_pos (show (3 : Int) < 24 by decide), if_pos (show (0 : Int) < 24 by decide), if_pos (show (6 : Int) < 24 by decide), if_neg c1, if_pos (show (12 : Int) < 24 by decide), if_neg c2, if_pos (show (11 : Int) < 24 by decide), if_pos (show (10 : Int) < 24 by decide), if_pos c3]) (Ev.now _)
        · have e : cval l 24 = 0 := by
            rcases cval_end l with h | h
            · exact h.1
            · exact absurd (by rw [hR]; exact ⟨c1, c2, c3⟩) h.2
          exact Ev.step (f := fun _ => some (cval l 24)) (fun k => by rw [params_Check.l0, hL, e]; simp only [if_neg (show ¬ (24 : Int) < 24 by decide), if_pos (show (2 : Int) < 24 by decide), if_pos (show (4 : Int) < 24 by decide), if_pos (show (1 : Int) < 24 by decide), if_pos (show (3 : Int) < 24 by decide), if_pos (show (0 : Int) < 24 by decide), if_pos (show (6 : Int) < 24 by decide), if_neg c1, if_pos (show (12 : Int) < 24 by decide), if_neg c2, if_pos (show (11 : Int) < 24 by decide), if_pos (show (10 : Int) < 24 by decide), if_neg c3]) (Ev.now _)
  | succ n ih =>
    intro i h0 h1
    have hi : i < 24 := by omega
    have w : wrap64 (i + 1) = i + 1 := wsm (by omega) (by omega)
    have e1 := ih (i + 1) (by omega) (by omega)
    by_cases c1 : rd l i < rd params_Check.tb0_0 i
    · exact ev_eq (cval_out hi (.inl c1)) (Ev.step (f := fun _ => some 5) (fun k => by rw [params_Check.l0, hL, if_pos hi, if_pos h0, if_pos hi, if_pos c1]) (Ev.now 5))
    · by_cases c2 : rd l i > rd params_Check.tb0_1 i
      · exact ev_eq (cval_out hi (.inr c2)) (Ev.step (f := fun _ => some 5) (fun k => by rw [params_Check.l0, hL, if_pos hi, if_pos h0, if_pos hi, if_neg c1, if_pos c2]) (Ev.now 5))
      · exact ev_eq (cval_on c1 c2) (Ev.step (f := fun k => params_Check.l0 k l (i + 1)) (fun k => by rw [params_Check.l0, hL, if_pos hi, if_pos h0, if_pos hi, if_neg c1, if_neg c2, w]) e1)
theorem pcheck_ev (l : List Int) : Ev (fun k => params_Check.f k l) (chv l) := by
  by_cases hl : l.length = 24
  · refine ev_eq (if_pos hl) (Ev.congr (fun k => by rw [params_Check.f, if_pos (by omega)]) ?_)
    exact Ev.bind (Ev.now _) (pchk_loop hl 24 0 (by omega) (by omega))
  · exact ev_eq (if_neg hl) (Ev.congr (fun k => by rw [params_Check.f, if_neg (by omega)]) (Ev.now 3))
theorem rules_ev {l : List Int} (hl : l.length = 24) : (RulesW l → windhoverref08_rules.f l = some true) ∧ (¬ RulesW l → windhoverref08_rules.f l = some false) := by
  have hL : (l.length : Int) = 24 := by omega
  rw [windhoverref08_rules.f, hL]
  simp only [if_pos (show (2 : Int) < 24 by decide), if_pos (show (4 : Int) < 24 by decide), if_pos (show (1 : Int) < 24 by decide), if_pos (show (3 : Int) < 24 by decide), if_pos (show (0 : Int) < 24 by decide), if_pos (show (6 : Int) < 24 by decide), if_pos (show (12 : Int) < 24 by decide), if_pos (show (11 : Int) < 24 by decide), if_pos (show (10 : Int) < 24 by decide)]
  unfold RulesW
  generalize (wrap64 ((wrap64 ((wrap64 ((rd l 0) + (rd l 6))) + (wrap64 (2 * (mx (rd l 2) (rd l 4)))))) + 4)) = A
  generalize (wrap64 ((wrap64 (8 * (mx (rd l 1) (rd l 3)))) + 100)) = B
  refine ⟨fun h => ?_, fun h => ?_⟩
  · rw [if_pos (by omega), if_pos (by omega), decide_eq_true (by omega)]
  · by_cases c1 : A ≤ 64
    · rw [if_pos c1]
      by_cases c2 : (rd l 12) ≥ B
      · rw [if_pos c2, decide_eq_false (fun h3 => h ⟨by omega, by omega, by omega⟩)]
      · rw [if_neg c2]
    · rw [if_neg c1]
theorem rchk_loop {l : List Int} (hl : l.length = 24) : ∀ (n : Nat) (i : Int), 0 ≤ i → i + n = 24 → Ev (fun k => windhoverref08_Check.l0 k l i) (cval l i) := by
  have hL : (l.length : Int) = 24 := by omega
  intro n
  induction n with
  | zero =>
    intro i h0 h1
    have hi : i = 24 := by omega
    subst hi
    obtain ⟨r1, r2⟩ := rules_ev hl
    rcases cval_end l with h | h
    · exact ev_eq h.1 (Ev.step (f := fun _ => some 0) (fun k => by rw [windhoverref08_Check.l0, if_neg (by decide), r1 h.2]; rfl) (Ev.now 0))
    · exact ev_eq h.1 (Ev.step (f := fun _ => some 80) (fun k => by rw [windhoverref08_Check.l0, if_neg (by decide), r2 h.2]; rfl) (Ev.now 80))
  | succ n ih =>
    intro i h0 h1
    have hi : i < 24 := by omega
    have w : wrap64 (i + 1) = i + 1 := wsm (by omega) (by omega)
    have e1 := ih (i + 1) (by omega) (by omega)
    have f : ∀ k, windhoverref08_Check.l0 (k + 1) l i = if rd l i < rd params_Check.tb0_0 i then some 5 else if rd l i > rd params_Check.tb0_1 i then some 5 else windhoverref08_Check.l0 k l (i + 1) := fun k => by
      rw [windhoverref08_Check.l0, hL, if_pos hi, if_pos h0, if_pos hi, w, windhoverref08_lows.f, windhoverref08_highs.f]
      simp only [Option.bind_some]
      rw [show (params_Check.tb0_0 : List Int) = [0, 1, 0, 1, 0, 0, 4, 1600, 1600, 2000, 1000, 500, 200, 100, 40, 40, 1, 0, 0, 0, 0, 1, 0, 16] from rfl, show (params_Check.tb0_1 : List Int) = [16, 200, 16, 200, 16, 4, 32, 64000, 32000, 16000, 120000, 120000, 10000, 10000, 40000, 40000, 40, 1000000000, 1000000, 1000, 1000, 10000, 16384, 3200] from rfl]
      have hi2 : i < (([0, 1, 0, 1, 0, 0, 4, 1600, 1600, 2000, 1000, 500, 200, 100, 40, 40, 1, 0, 0, 0, 0, 1, 0, 16] : List Int).length : Int) := hi
      have hi3 : i < (([16, 200, 16, 200, 16, 4, 32, 64000, 32000, 16000, 120000, 120000, 10000, 10000, 40000, 40000, 40, 1000000000, 1000000, 1000, 1000, 10000, 16384, 3200] : List Int).length : Int) := hi
      rw [if_pos hi2, if_pos hi3]
    by_cases c1 : rd l i < rd params_Check.tb0_0 i
    · exact ev_eq (cval_out hi (.inl c1)) (Ev.step (f := fun _ => some 5) (fun k => by rw [f, if_pos c1]) (Ev.now 5))
    · by_cases c2 : rd l i > rd params_Check.tb0_1 i
      · exact ev_eq (cval_out hi (.inr c2)) (Ev.step (f := fun _ => some 5) (fun k => by rw [f, if_neg c1, if_pos c2]) (Ev.now 5))
      · exact ev_eq (cval_on c1 c2) (Ev.step (f := fun k => windhoverref08_Check.l0 k l (i + 1)) (fun k => by rw [f, if_neg c1, if_neg c2]) e1)
theorem rcheck_ev (l : List Int) : Ev (fun k => windhoverref08_Check.f k l) (chv l) := by
  by_cases hl : l.length = 24
  · exact ev_eq (if_pos hl) (Ev.congr (fun k => by rw [windhoverref08_Check.f, if_pos (by omega)]) (rchk_loop hl 24 0 (by omega) (by omega)))
  · exact ev_eq (if_neg hl) (Ev.congr (fun k => by rw [windhoverref08_Check.f, if_neg (by omega)]) (Ev.now 3))

/-! ### parameters as bytes -/
def w4 (a b c d : Int) : Int := if a * 16777216 + b * 65536 + c * 256 + d ≥ 2147483648 then a * 16777216 + b * 65536 + c * 256 + d - 4294967296 else a * 16777216 + b * 65536 + c * 256 + d
def b4 (x : Int) : List Int := [(x % 4294967296) / 16777216, ((x % 4294967296) / 65536) % 256, ((x % 4294967296) / 256) % 256, (x % 4294967296) % 256]
def enc : List Int → List Int
  | [] => []
  | x :: xs => b4 x ++ enc xs
def dec : List Int → List Int
  | a :: b :: c :: d :: r => w4 a b c d :: dec r
  | _ => []
def Byt (a : Int) : Prop := 0 ≤ a ∧ a ≤ 255
theorem b4_w4 {a b c d : Int} (ha : Byt a) (hb : Byt b) (hc : Byt c) (hd : Byt d) : b4 (w4 a b c d) = [a, b, c, d] := by
  have e : w4 a b c d % 4294967296 = a * 16777216 + b * 65536 + c * 256 + d := by unfold w4; unfold Byt at *; split <;> omega
  unfold b4
  rw [e]
  unfold Byt at *
  congr 1
  · omega
  congr 1
  · omega
  congr 1
  · omega
  congr 1
  omega
theorem enc_dec : ∀ (n : Nat) (M : List Int), M.length = 4 * n → (∀ x ∈ M, Byt x) → enc (dec M) = M ∧ (dec M).length = n
  | 0, M, h, _ => by
    have : M = [] := List.length_eq_zero_iff.1 (by omega)
    subst this
    exact ⟨rfl, rfl⟩
  | n + 1, M, h, hb => by
    match M, h with
    | a :: b :: c :: d :: r, h =>
      have ih := enc_dec n r (by simp at h; omega) (fun x hx => hb x (by simp [hx]))
      refine ⟨?_, by rw [dec, List.length_cons, ih.2]⟩
      rw [dec, enc, ih.1, b4_w4 (hb a (by simp)) (hb b (by simp)) (hb c (by simp)) (hb d (by simp))]
      rfl
theorem or_add32 {a b : Int} (n : Nat) (ha : 0 ≤ a) (hb : 0 ≤ b ∧ b < 2 ^ n) (h : a * 2 ^ n + b < 4294967296) : Go.bits .or .u32 (a * 2 ^ n) b = a * 2 ^ n + b := by
  obtain ⟨A, rfl⟩ := Int.eq_ofNat_of_zero_le ha
  obtain ⟨B, rfl⟩ := Int.eq_ofNat_of_zero_le hb.1
  have e : (A : Int) * 2 ^ n = ((A * 2 ^ n : Nat) : Int) := by simp
  have hb2 : B < 2 ^ n := by
    have := hb.2
    rw [show (2 : Int) ^ n = ((2 ^ n : Nat) : Int) from by simp] at this
    omega
  rw [e] at h ⊢
  have o := Nat.shiftLeft_add_eq_or_of_lt hb2 A
  rw [Nat.shiftLeft_eq] at o
  generalize A * 2 ^ n = C at *
  show IntKind.u32.wrap ((BitVec.ofInt 32 (C : Int) ||| BitVec.ofInt 32 (B : Int)).toNat : Int) = _
  rw [BitVec.toNat_or, BitVec.toNat_ofInt, BitVec.toNat_ofInt]
  rw [show ((C : Int) % ((2 ^ 32 : Nat) : Int)).toNat = C from by omega, show ((B : Int) % ((2 ^ 32 : Nat) : Int)).toNat = B from by omega, ← o, IntKind.wrap_u32]
  omega
theorem or_w4 {a b c d : Int} (ha : Byt a) (hb : Byt b) (hc : Byt c) (hd : Byt d) :
    wrap64 (wrap32 (Go.bits .or .u32 (Go.bits .or .u32 (Go.bits .or .u32 (((a % 4294967296) * 16777216) % 4294967296) (((b % 4294967296) * 65536) % 4294967296)) (((c % 4294967296) * 256) % 4294967296)) (d % 4294967296))) = w4 a b c d := by
  unfold Byt at *
  rw [show a % 4294967296 = a by omega, show b % 4294967296 = b by omega, show c % 4294967296 = c by omega, show d % 4294967296 = d by omega, show a * 16777216 % 4294967296 = a * 2 ^ 24 by omega, show b * 65536 % 4294967296 = b * 65536 by omega, show c * 256 % 4294967296 = c * 256 by omega]
  rw [or_add32 24 ha.1 ⟨by omega, by omega⟩ (by omega), show a * 2 ^ 24 + b * 65536 = (a * 256 + b) * 2 ^ 16 by omega, or_add32 16 (by omega) ⟨by omega, by omega⟩ (by omega), show (a * 256 + b) * 2 ^ 16 + c * 256 = (a * 65536 + b * 256 + c) * 2 ^ 8 by omega, or_add32 8 (by omega) ⟨by omega, by omega⟩ (by omega)]
  unfold w4 wrap64 wrap32
  split <;> omega
theorem bytesOf_byt (s : ByteArray) : ∀ x ∈ bytesOf s, Byt x := by
  intro x hx
  unfold bytesOf at hx
  obtain ⟨b, _, rfl⟩ := List.mem_map.1 hx
  have := b.toNat_lt
  unfold Byt
  omega
theorem str_bytesOf (s : ByteArray) : strOfNums (bytesOf s) = s := by
  unfold bytesOf strOfNums
  rw [List.map_map]
  have : (s.data.toList.map ((fun n : Int => UInt8.ofNat n.toNat) ∘ fun b : UInt8 => (b.toNat : Int))) = s.data.toList := by
    conv => rhs; rw [← List.map_id s.data.toList]
    apply List.map_congr_left
    intro x _
    simp
  rw [this]
theorem bytesOf_cut (s : ByteArray) (n : Nat) : bytesOf (s.extract n s.size) = (bytesOf s).drop n := by
  unfold bytesOf
  rw [ByteArray.data_extract, Array.toList_extract, ← List.map_drop]
  congr 1
  rw [List.extract_eq_take_drop]
  exact List.take_of_length_le (by rw [List.length_drop, data_length]; exact Nat.le_refl _)
theorem bt_of {s : ByteArray} {L : List Int} (h : bytesOf s = L) (i : Int) : bt s i = rd L i := by rw [← h, rd_bytesOf]

theorem awake8_ev : Ev (fun k => windhoverlaw08_awake.f k) true := by
  have h : windhoverlaw08_awake.f 60 = some true := by decide +kernel
  exact Ev.of (fun k => windhoverlaw08_awake.mono k) h

/-! ### the loops that write and read them -/
theorem drop_rd {l : List Int} {i : Nat} (hi : i < l.length) : l.drop i = rd l (i : Int) :: l.drop (i + 1) := by
  rw [List.drop_eq_getElem_cons hi]
  congr 1
  simp [rd, List.getD_eq_getElem?_getD, hi]
theorem enc_loop {l : List Int} (hl : l.length = 24) : ∀ (n i : Nat) (acc : List Int), i + n = 24 → acc.length = 4 * i → Ev (fun k => params_Encode.l0 k acc l (l.length : Int) (i : Int)) (strOfNums (acc ++ enc (l.drop i)), 0) := by
  intro n
  induction n with
  | zero =>
    intro i acc h ha
    have e : l.drop i = [] := List.drop_eq_nil_of_le (by omega)
    rw [e, enc, List.append_nil]
    exact Ev.step (f := fun _ => some (strOfNums acc, 0)) (fun k => by rw [params_Encode.l0, if_neg (by omega)]) (Ev.now _)
  | succ n ih =>
    intro i acc h ha
    have w : wrap64 ((i : Int) + 1) = ((i + 1 : Nat) : Int) := by rw [wsm (by omega) (by omega)]; omega
    have e : l.drop i = rd l (i : Int) :: l.drop (i + 1) := drop_rd (by omega)
    rw [e, enc, ← List.append_assoc]
    refine Ev.step (f := fun k => params_Encode.l0 k (acc ++ b4 (rd l (i : Int))) l (l.length : Int) ((i + 1 : Nat) : Int)) (fun k => ?_) (ih (i + 1) (acc ++ b4 (rd l (i : Int))) (by omega) (by rw [List.length_append, ha]; simp [b4]; omega))
    rw [params_Encode.l0, if_pos (by omega), if_pos (by omega), if_pos (by omega), w]
    show (if acc.length + (b4 (rd l (i : Int))).length < 140737488355328 then _ else _) = _
    rw [if_pos (by rw [ha]; simp [b4]; omega)]
    rfl
noncomputable def fin (D : List Int) : List Int × Int := if chv D = 0 then (D, 0) else ([], chv D)
theorem enc_ok {l : List Int} (h : Sound l) : Ev (fun k => params_Encode.f k l) (strOfNums (enc l), 0) := by
  have e0 := pcheck_ev l
  rw [chv_zero.2 h] at e0
  refine Ev.congr (fun k => by rw [params_Encode.f]) ?_
  refine Ev.bind e0 ?_
  have := enc_loop h.1 24 0 [] rfl rfl
  exact Ev.congr (fun k => by rw [if_pos rfl]; rfl) this
theorem four_of {M : List Int} {n : Nat} (h : M.length = 4 * (n + 1)) : M = rd M 0 :: rd M 1 :: rd M 2 :: rd M 3 :: M.drop 4 := by
  match M, h with
  | a :: b :: c :: d :: r, _ => rfl
theorem toList_nil {s : ByteArray} : s.toList = [] ↔ s.size = 0 := by
  rw [← data_length, ByteArray.toList_eq]
  exact List.length_eq_zero_iff.symm
theorem dec_loop : ∀ (n : Nat) (s : ByteArray) (acc : List Int), (bytesOf s).length = 4 * n → acc.length + n = 24 → Ev (fun k => params_Decode.l0 k s acc) (fin (acc ++ dec (bytesOf s))) := by
  intro n
  induction n with
  | zero =>
    intro s acc h ha
    have e : bytesOf s = [] := List.length_eq_zero_iff.1 (by omega)
    have z : s.toList = [] := toList_nil.2 (by rw [← bytesOf_length]; omega)
    rw [e, show dec [] = [] from rfl, List.append_nil]
    refine Ev.step (f := fun k => (params_Check.f k acc).bind fun t331 => if t331 = 0 then some (acc, 0) else some (([] : List Int), t331)) (fun k => by rw [params_Decode.l0, if_pos z]) ?_
    refine Ev.bind (pcheck_ev acc) ?_
    refine Ev.congr (f := fun _ => some (fin acc)) (fun k => ?_) (Ev.now _)
    unfold fin
    split <;> rfl
  | succ n ih =>
    intro s acc h ha
    have hs : s.size = 4 * (n + 1) := by rw [← bytesOf_length]; exact h
    have z : ¬ s.toList = [] := fun g => by have := toList_nil.1 g; omega
    have f := four_of h
    have hb := bytesOf_byt s
    have hc := bytesOf_cut s 4
    have B : ∀ j, Byt (bt s j) := fun j => by have := bt_range s j; unfold Byt; omega
    have w := or_w4 (B 0) (B 1) (B 2) (B 3)
    have st : acc ++ dec (bytesOf s) = (acc ++ [w4 (bt s 0) (bt s 1) (bt s 2) (bt s 3)]) ++ dec (bytesOf (s.extract 4 s.size)) := by
      rw [hc, bt_of (s := s) rfl, bt_of (s := s) rfl, bt_of (s := s) rfl, bt_of (s := s) rfl, List.append_assoc]
      congr 1
      conv => lhs; rw [f]
      rfl
    rw [st]
    refine Ev.step (f := fun k => params_Decode.l0 k (s.extract 4 s.size) (acc ++ [w4 (bt s 0) (bt s 1) (bt s 2) (bt s 3)])) (fun k => ?_) (ih _ _ (by rw [hc, List.length_drop]; omega) (by simp; omega))
    rw [params_Decode.l0, if_neg z, if_pos (by omega), if_pos (by omega), if_pos (by omega), if_pos (by omega), if_pos (by omega), if_pos (by omega), w]
theorem pdec_ev (s : ByteArray) : Ev (fun k => params_Decode.f k s) (if s.size = 96 then fin (dec (bytesOf s)) else ([], 3)) := by
  by_cases h : s.size = 96
  · rw [if_pos h]
    exact Ev.congr (fun k => by rw [params_Decode.f, if_pos (by omega)]) (dec_loop 24 s [] (by rw [bytesOf_length]; omega) rfl)
  · rw [if_neg h]
    exact Ev.congr (fun k => by rw [params_Decode.f, if_neg (by omega)]) (Ev.now _)
theorem same_loop {l : List Int} (hl : l.length ≤ 4611686018427387904) : ∀ (n i : Nat), i + n = l.length → Ev (fun k => windhoverref00_SameInts.l0 k l l (i : Int)) true := by
  intro n
  induction n with
  | zero => intro i h; exact Ev.step (f := fun _ => some true) (fun k => by rw [windhoverref00_SameInts.l0, if_neg (by omega)]) (Ev.now _)
  | succ n ih =>
    intro i h
    have w : wrap64 ((i : Int) + 1) = ((i + 1 : Nat) : Int) := by rw [wsm (by omega) (by omega)]; omega
    exact Ev.step (f := fun k => windhoverref00_SameInts.l0 k l l ((i + 1 : Nat) : Int)) (fun k => by rw [windhoverref00_SameInts.l0, if_pos (by omega), if_pos (by omega), if_pos (by omega), if_pos rfl, w]) (ih (i + 1) (by omega))
theorem same_ev {l : List Int} (hl : l.length ≤ 4611686018427387904) : Ev (fun k => windhoverref00_SameInts.f k l l) true :=
  Ev.congr (fun k => by rw [windhoverref00_SameInts.f, if_pos rfl]; rfl) (same_loop hl l.length 0 (by omega))

/-! ### the document's Decode -/
theorem number_ev {s : ByteArray} {a : Int} (h0 : 0 ≤ a) (h1 : a + 4 ≤ (s.size : Int)) (hs : (s.size : Int) ≤ 1000) : Ev (fun k => windhoverref08_Number.f k s a) (w4 (bt s a) (bt s (a + 1)) (bt s (a + 2)) (bt s (a + 3))) := by
  have B : ∀ j, 0 ≤ bt s j ∧ bt s j ≤ 255 := fun j => bt_range s j
  have b0 := B a; have b1 := B (a + 1); have b2 := B (a + 2); have b3 := B (a + 3)
  have st : ∀ (x i : Int) (k : Nat), 0 ≤ i → i < 4 → 0 ≤ x → x ≤ 16777215 → windhoverref08_Number.l0 (k + 1) s a x i = windhoverref08_Number.l0 k s a (x * 256 + bt s (a + i)) (i + 1) := by
    intro x i k hi0 hi1 hx0 hx1
    have b := B (a + i)
    have w1 : wrap64 (a + i) = a + i := wsm (by omega) (by omega)
    rw [windhoverref08_Number.l0, if_pos hi1, w1, if_pos (by omega), if_pos (by omega), wsm (a := x * 256) (by omega) (by omega), wsm (a := bt s (a + i)) (by omega) (by omega), wsm (a := x * 256 + bt s (a + i)) (by omega) (by omega), wsm (a := i + 1) (by omega) (by omega)]
  refine Ev.congr (fun k => by rw [windhoverref08_Number.f]) ?_
  refine Ev.step (fun k => st 0 0 k (by decide) (by decide) (by decide) (by decide)) ?_
  rw [Int.add_zero, Int.zero_mul, Int.zero_add, Int.zero_add]
  refine Ev.step (fun k => st _ 1 k (by decide) (by decide) (by omega) (by omega)) ?_
  refine Ev.step (fun k => st _ 2 k (by decide) (by decide) (by omega) (by omega)) ?_
  refine Ev.step (fun k => st _ 3 k (by decide) (by decide) (by omega) (by omega)) ?_
  refine Ev.step (f := fun _ => some (w4 (bt s a) (bt s (a + 1)) (bt s (a + 2)) (bt s (a + 3)))) (fun k => ?_) (Ev.now _)
  generalize bt s a = p0 at *
  generalize bt s (a + 1) = p1 at *
  generalize bt s (a + 2) = p2 at *
  generalize bt s (a + 3) = p3 at *
  rw [windhoverref08_Number.l0, if_neg (by decide)]
  unfold w4
  rw [show ((p0 * 256 + p1) * 256 + p2) * 256 + p3 = p0 * 16777216 + p1 * 65536 + p2 * 256 + p3 by omega]
  by_cases g : p0 * 16777216 + p1 * 65536 + p2 * 256 + p3 ≥ 2147483648
  · rw [if_pos g, if_pos g, wsm (by omega) (by omega)]
  · rw [if_neg g, if_neg g]
theorem rdec_loop {s : ByteArray} (hs : s.size = 96) : ∀ (n i : Nat) (acc : List Int), i + n = 24 → acc.length = i → Ev (fun k => windhoverref08_Decode.l0 k s acc (i : Int)) (fin (acc ++ dec ((bytesOf s).drop (4 * i)))) := by
  have hL : (bytesOf s).length = 96 := by rw [bytesOf_length]; exact hs
  intro n
  induction n with
  | zero =>
    intro i acc h ha
    have e : (bytesOf s).drop (4 * i) = [] := List.drop_eq_nil_of_le (by omega)
    rw [e, show dec [] = [] from rfl, List.append_nil]
    refine Ev.step (f := fun k => (windhoverref08_Check.f k acc).bind fun t331 => if t331 = 0 then some (acc, 0) else some (([] : List Int), t331)) (fun k => by rw [windhoverref08_Decode.l0, if_neg (by omega)]) ?_
    refine Ev.bind (rcheck_ev acc) ?_
    refine Ev.congr (f := fun _ => some (fin acc)) (fun k => ?_) (Ev.now _)
    unfold fin
    split <;> rfl
  | succ n ih =>
    intro i acc h ha
    have w1 : wrap64 ((i : Int) + 1) = ((i + 1 : Nat) : Int) := by rw [wsm (by omega) (by omega)]; omega
    have w2 : wrap64 (4 * (i : Int)) = ((4 * i : Nat) : Int) := by rw [wsm (by omega) (by omega)]; omega
    have d0 := drop_rd (l := bytesOf s) (i := 4 * i) (by omega)
    have d1 := drop_rd (l := bytesOf s) (i := 4 * i + 1) (by omega)
    have d2 := drop_rd (l := bytesOf s) (i := 4 * i + 2) (by omega)
    have d3 := drop_rd (l := bytesOf s) (i := 4 * i + 3) (by omega)
    have nm := number_ev (s := s) (a := ((4 * i : Nat) : Int)) (by omega) (by omega) (by omega)
    have st : acc ++ dec ((bytesOf s).drop (4 * i)) = (acc ++ [w4 (bt s ((4 * i : Nat) : Int)) (bt s (((4 * i : Nat) : Int) + 1)) (bt s (((4 * i : Nat) : Int) + 2)) (bt s (((4 * i : Nat) : Int) + 3))]) ++ dec ((bytesOf s).drop (4 * (i + 1))) := by
      rw [List.append_assoc]
      congr 1
      rw [d0, d1, d2, d3, dec, bt_of (s := s) rfl, bt_of (s := s) rfl, bt_of (s := s) rfl, bt_of (s := s) rfl]
      rfl
    rw [st]
    refine Ev.step (fun k => by rw [windhoverref08_Decode.l0, if_pos (by omega), w1, w2]) ?_
    refine Ev.bind nm ?_
    refine Ev.congr (fun k => by rw [if_pos (by omega)]) ?_
    exact ih (i + 1) _ (by omega) (by simp; omega)
theorem rdec_ev (s : ByteArray) : Ev (fun k => windhoverref08_Decode.f k s) (if s.size = 96 then fin (dec (bytesOf s)) else ([], 3)) := by
  by_cases h : s.size = 96
  · rw [if_pos h]
    exact Ev.congr (fun k => by rw [windhoverref08_Decode.f, if_pos (by omega)]; rfl) (rdec_loop h 24 0 [] rfl rfl)
  · rw [if_neg h]
    exact Ev.congr (fun k => by rw [windhoverref08_Decode.f, if_neg (by omega)]) (Ev.now _)

theorem ParamsBytes : windhoverlaw08_ParamsBytes.Pure := by
  intro s h1
  apply Ev.rounds
  have fin_no : ∀ e : Int, e ≠ 0 → Ev (fun k => params_Decode.f k s) ([], e) → Ev (fun k => windhoverref08_Decode.f k s) ([], e) → Ev (fun k => windhoverlaw08_ParamsBytes.f k s) true := by
    intro e he e1 e2
    refine Ev.congr (fun k => by rw [windhoverlaw08_ParamsBytes.f]) ?_
    refine Ev.bind e1 ?_
    refine Ev.bind e2 ?_
    refine Ev.congr (fun k => by rw [if_pos rfl]) ?_
    refine Ev.bind (same_ev (l := []) (by decide)) ?_
    refine Ev.step (f := fun k => (windhoverlaw08_awake.f k).bind fun t378 => some t378) (fun k => ?_) (Ev.bind awake8_ev (Ev.now true))
    rw [windhoverlaw08_ParamsBytes.j0, if_neg (by decide), if_neg he, if_pos (show ((([] : List Int), e).1.length : Int) = 0 from rfl)]
  have p := pdec_ev s
  have r := rdec_ev s
  by_cases hs : s.size = 96
  · rw [if_pos hs] at p r
    unfold fin at p r
    by_cases h : Sound (dec (bytesOf s))
    · rw [if_pos (chv_zero.2 h)] at p r
      have ed := enc_dec 24 (bytesOf s) (by rw [bytesOf_length]; exact hs) (bytesOf_byt s)
      have e0 := enc_ok h
      rw [ed.1, str_bytesOf] at e0
      refine Ev.congr (fun k => by rw [windhoverlaw08_ParamsBytes.f]) ?_
      refine Ev.bind p ?_
      refine Ev.bind r ?_
      refine Ev.congr (fun k => by rw [if_pos rfl]) ?_
      refine Ev.bind (same_ev (by rw [ed.2]; decide)) ?_
      refine Ev.step (f := fun k => (params_Encode.f k (dec (bytesOf s))).bind fun bt375 => if bt375.2 = 0 then (if bt375.1.toList = s.toList then ((windhoverlaw08_awake.f k).bind fun t377 => some t377) else none) else none) (fun k => ?_) ?_
      · rw [windhoverlaw08_ParamsBytes.j0, if_neg (by decide), if_pos rfl]
      · refine Ev.bind e0 ?_
        refine Ev.congr (fun k => by rw [if_pos rfl, if_pos rfl]) (Ev.bind awake8_ev (Ev.now true))
    · have hz : chv (dec (bytesOf s)) ≠ 0 := fun g => h (chv_zero.1 g)
      rw [if_neg hz] at p r
      exact fin_no _ hz p r
  · rw [if_neg hs] at p r
    exact fin_no 3 (by decide) p r

end Go.Proofs.Ytaabdnamofmfcaa.Pure
