/- Parameters are read as they were written, and only sound ones are written, for any list. -/
import Derived.Test.YtaabdnamofmfcaaPParamsBackx4
namespace Go.Proofs.Ytaabdnamofmfcaa.Pure
open Go.RowKit Go.Proofs.Ytaabdnamofmfcaa.PParamsBack Go.Proofs.YtaabdnamofmfcaaW.PrintWords Go.Proofs.YtaabdnamofmfcaaW.PrintLast

set_option linter.unusedVariables false
set_option linter.unusedSimpArgs false
theorem Ev.now {α : Type} (r : α) : Ev (fun _ => some r) r := ⟨0, fun _ _ => rfl⟩

theorem wsm {a : Int} (h1 : -9223372036854775808 ≤ a) (h2 : a ≤ 9223372036854775807) : wrap64 a = a := by unfold wrap64; omega
theorem ev_eq {α : Type} {g : Nat → Option α} {r s : α} (h : r = s) (e : Ev g s) : Ev g r := h ▸ e
/-! ### params.Check and the document's -/
def RulesW (l : List Int) : Prop := ¬ (wrap64 ((wrap64 ((wrap64 ((rd l 0) + (rd l 6))) + (wrap64 (2 * (mx (rd l 2) (rd l 4)))))) + 4)) > 64 ∧ ¬ (rd l 12) < (wrap64 ((wrap64 (8 * (mx (rd l 1) (rd l 3)))) + 100)) ∧ ¬ (rd l 11) > (rd l 10)
def InRows (l : List Int) (i : Int) : Prop := ∀ j, i ≤ j → j < 24 → rd params_Check.tb0_0 j ≤ rd l j ∧ rd l j ≤ rd params_Check.tb0_1 j
open Classical in
noncomputable def cval (l : List Int) (i : Int) : Int := if InRows l i then (if RulesW l then 0 else 80) else 5
def Sound (l : List Int) : Prop := l.length = 24 ∧ InRows l 0 ∧ RulesW l
open Classical in
noncomputable def chv (l : List Int) : Int := if l.length = 24 then cval l 0 else 3
theorem inrows_last (l : List Int) : InRows l 24 := fun j h2 h3 => by omega
theorem cval_end (l : List Int) : cval l 24 = 0 ∧ RulesW l ∨ cval l 24 = 80 ∧ ¬ RulesW l := by
  unfold cval
  rw [if_pos (inrows_last l)]
  by_cases h : RulesW l
  · exact .inl ⟨if_pos h, h⟩
  · exact .inr ⟨if_neg h, h⟩
theorem cval_out {l : List Int} {i : Int} (hi : i < 24) (h : rd l i < rd params_Check.tb0_0 i ∨ rd l i > rd params_Check.tb0_1 i) : cval l i = 5 := by
  unfold cval
  rw [if_neg]
  intro g
  have := g i (Int.le_refl _) hi
  omega
theorem cval_on {l : List Int} {i : Int} (h1 : ¬ rd l i < rd params_Check.tb0_0 i) (h2 : ¬ rd l i > rd params_Check.tb0_1 i) : cval l i = cval l (i + 1) := by
  unfold cval
  have e : InRows l i ↔ InRows l (i + 1) := by
    refine ⟨fun h j a b => h j (by omega) b, fun h j a b => ?_⟩
    by_cases hj : j = i
    · subst hj; exact ⟨by omega, by omega⟩
    · exact h j (by omega) b
  by_cases g : InRows l i
  · rw [if_pos g, if_pos (e.1 g)]
  · rw [if_neg g, if_neg (fun h => g (e.2 h))]
theorem chv_zero {l : List Int} : chv l = 0 ↔ Sound l := by
  unfold chv cval Sound
  by_cases h : l.length = 24
  · by_cases g : InRows l 0
    · by_cases q : RulesW l
      · rw [if_pos h, if_pos g, if_pos q]; exact ⟨fun _ => ⟨h, g, q⟩, fun _ => rfl⟩
      · rw [if_pos h, if_pos g, if_neg q]; exact ⟨fun h => absurd h (by decide), fun h => absurd h.2.2 q⟩
    · rw [if_pos h, if_neg g]; exact ⟨fun h => absurd h (by decide), fun h => absurd h.2.1 g⟩
  · rw [if_neg h]; exact ⟨fun h => absurd h (by decide), fun g => absurd g.1 h⟩
theorem pchk_loop {l : List Int} (hl : l.length = 24) : ∀ (n : Nat) (i : Int), 0 ≤ i → i + n = 24 → Ev (fun k => params_Check.l0 k l i) (cval l i) := by
  have hL : (l.length : Int) = 24 := by omega
  intro n
  induction n with
  | zero =>
    intro i h0 h1
    have hi : i = 24 := by omega
    subst hi
    have hR : RulesW l = RulesW l := rfl
    conv at hR => rhs; unfold RulesW
    by_cases c1 : (wrap64 ((wrap64 ((wrap64 ((rd l 0) + (rd l 6))) + (wrap64 (2 * (mx (rd l 2) (rd l 4)))))) + 4)) > 64
    · have e : cval l 24 = 80 := by rcases cval_end l with h | h; exact absurd c1 (hR ▸ h.2).1; exact h.1
      exact Ev.step (f := fun _ => some (cval l 24)) (fun k => by rw [params_Check.l0, hL, e]; simp only [if_neg (show ¬ (24 : Int) < 24 by decide), if_pos (show (2 : Int) < 24 by decide), if_pos (show (4 : Int) < 24 by decide), if_pos (show (1 : Int) < 24 by decide), if_pos (show (3 : Int) < 24 by decide), if_pos (show (0 : Int) < 24 by decide), if_pos (show (6 : Int) < 24 by decide), if_pos c1]) (Ev.now _)
    · by_cases c2 : (rd l 12) < (wrap64 ((wrap64 (8 * (mx (rd l 1) (rd l 3)))) + 100))
      · have e : cval l 24 = 80 := by rcases cval_end l with h | h; exact absurd c2 (hR ▸ h.2).2.1; exact h.1
        exact Ev.step (f := fun _ => some (cval l 24)) (fun k => by rw [params_Check.l0, hL, e]; simp only [if_neg (show ¬ (24 : Int) < 24 by decide), if_pos (show (2 : Int) < 24 by decide), if_pos (show (4 : Int) < 24 by decide), if_pos (show (1 : Int) < 24 by decide), if_pos (show (3 : Int) < 24 by decide), if_pos (show (0 : Int) < 24 by decide), if_pos (show (6 : Int) < 24 by decide), if_neg c1, if_pos (show (12 : Int) < 24 by decide), if_pos c2]) (Ev.now _)
      · by_cases c3 : (rd l 11) > (rd l 10)
        · have e : cval l 24 = 80 := by rcases cval_end l with h | h; exact absurd c3 (hR ▸ h.2).2.2; exact h.1
          exact Ev.step (f := fun _ => some (cval l 24)) (fun k => by rw [params_Check.l0, hL, e]; simp only [if_neg (show ¬ (24 : Int) < 24 by decide), if_pos (show (2 : Int) < 24 by decide), if_pos (show (4 : Int) < 24 by decide), if_pos (show (1 : Int) < 24 by decide), if_pos (show (3 : Int) < 24 by decide), if_pos (show (0 : Int) < 24 by decide), if_pos (show (6 : Int) < 24 by decide), if_neg c1, if_pos (show (12 : Int) < 24 by decide), if_neg c2, if_pos (show (11 : Int) < 24 by decide), if_pos (show (10 : Int) < 24 by decide), if_pos c3]) (Ev.now _)
        · have e : cval l 24 = 0 := by
            rcases cval_end l with h | h
            · exact h.1
            · exact absurd (by rw [hR]; exact ⟨c1, c2, c3⟩) h.2
          exact Ev.step (f := fun _ => some (cval l 24)) (fun k => by rw [params_Check.l0, hL, e]; simp only [if_neg (show ¬ (24 : Int) < 24 by decide), if_pos (show (2 : Int) < 24 by decide), if_pos (show (4 : Int) < 24 by decide), if_pos (show (1 : Int) < 24 by decide), if_pos (show (3 : Int) < 24 by decide), if_pos (show (0 : Int) < 24 by decide), if_pos (show (6 : Int) < 24 by decide), if_neg c1, if_pos (show (12 : Int) < 24 by decide), if_neg c2, if_pos (show (11 : Int) < 24 by decide), if_pos (show (10 : Int) < 24 by decide), if_neg c3]) (Ev.now _)
  | succ n ih =>
    intro i h0 h1
    have hi : i < 24 := by omega
    have w : wrap64 (i + 1) = i + 1 := wsm (by omega) (by omega)
    have e1 := ih (i + 1) (by omega) (by omega)
    by_cases c1 : rd l i < rd params_Check.tb0_0 i
    · exact ev_eq (cval_out hi (.inl c1)) (Ev.step (f := fun _ => some 5) (fun k => by rw [params_Check.l0, hL, if_pos hi, if_pos h0, if_pos hi, if_pos c1]) (Ev.now 5))
    · by_cases c2 : rd l i > rd params_Check.tb0_1 i
      · exact ev_eq (cval_out hi (.inr c2)) (Ev.step (f := fun _ => some 5) (fun k => by rw [params_Check.l0, hL, if_pos hi, if_pos h0, if_pos hi, if_neg c1, if_pos c2]) (Ev.now 5))
      · exact ev_eq (cval_on c1 c2) (Ev.step (f := fun k => params_Check.l0 k l (i + 1)) (fun k => by rw [params_Check.l0, hL, if_pos hi, if_pos h0, if_pos hi, if_neg c1, if_neg c2, w]) e1)
theorem pcheck_ev (l : List Int) : Ev (fun k => params_Check.f k l) (chv l) := by
  by_cases hl : l.length = 24
  · refine ev_eq (if_pos hl) (Ev.congr (fun k => by rw [params_Check.f, if_pos (by omega)]) ?_)
    exact Ev.bind (Ev.now _) (pchk_loop hl 24 0 (by omega) (by omega))
  · exact ev_eq (if_neg hl) (Ev.congr (fun k => by rw [params_Check.f, if_neg (by omega)]) (Ev.now 3))
/-! ### parameters as bytes -/
def w4 (a b c d : Int) : Int := if a * 16777216 + b * 65536 + c * 256 + d ≥ 2147483648 then a * 16777216 + b * 65536 + c * 256 + d - 4294967296 else a * 16777216 + b * 65536 + c * 256 + d
def b4 (x : Int) : List Int := [(x % 4294967296) / 16777216, ((x % 4294967296) / 65536) % 256, ((x % 4294967296) / 256) % 256, (x % 4294967296) % 256]
def enc : List Int → List Int
  | [] => []
  | x :: xs => b4 x ++ enc xs
def dec : List Int → List Int
  | a :: b :: c :: d :: r => w4 a b c d :: dec r
  | _ => []
def Byt (a : Int) : Prop := 0 ≤ a ∧ a ≤ 255
theorem enc_len : ∀ l : List Int, (enc l).length = 4 * l.length
  | [] => rfl
  | x :: xs => by rw [enc, List.length_append, enc_len xs]; simp [b4]; omega
theorem enc_byt : ∀ l : List Int, ∀ x ∈ enc l, Byt x
  | [], x, h => by simp [enc] at h
  | y :: ys, x, h => by
    rw [enc, List.mem_append] at h
    rcases h with h | h
    · simp only [b4, List.mem_cons, List.not_mem_nil, or_false] at h
      unfold Byt
      omega
    · exact enc_byt ys x h
theorem dec_enc : ∀ l : List Int, (∀ x ∈ l, 0 ≤ x ∧ x < 2147483648) → dec (enc l) = l
  | [], _ => rfl
  | x :: xs, h => by
    have hx := h x (by simp)
    have ih := dec_enc xs (fun y hy => h y (by simp [hy]))
    show w4 _ _ _ _ :: dec (enc xs) = _
    rw [ih]
    congr 1
    unfold w4
    split <;> omega
theorem or_add32 {a b : Int} (n : Nat) (ha : 0 ≤ a) (hb : 0 ≤ b ∧ b < 2 ^ n) (h : a * 2 ^ n + b < 4294967296) : Go.bits .or .u32 (a * 2 ^ n) b = a * 2 ^ n + b := by
  obtain ⟨A, rfl⟩ := Int.eq_ofNat_of_zero_le ha
  obtain ⟨B, rfl⟩ := Int.eq_ofNat_of_zero_le hb.1
  have e : (A : Int) * 2 ^ n = ((A * 2 ^ n : Nat) : Int) := by simp
  have hb2 : B < 2 ^ n := by
    have := hb.2
    rw [show (2 : Int) ^ n = ((2 ^ n : Nat) : Int) from by simp] at this
    omega
  rw [e] at h ⊢
  have o := Nat.shiftLeft_add_eq_or_of_lt hb2 A
  rw [Nat.shiftLeft_eq] at o
  generalize A * 2 ^ n = C at *
  show IntKind.u32.wrap ((BitVec.ofInt 32 (C : Int) ||| BitVec.ofInt 32 (B : Int)).toNat : Int) = _
  rw [BitVec.toNat_or, BitVec.toNat_ofInt, BitVec.toNat_ofInt]
  rw [show ((C : Int) % ((2 ^ 32 : Nat) : Int)).toNat = C from by omega, show ((B : Int) % ((2 ^ 32 : Nat) : Int)).toNat = B from by omega, ← o, IntKind.wrap_u32]
  omega
theorem or_w4 {a b c d : Int} (ha : Byt a) (hb : Byt b) (hc : Byt c) (hd : Byt d) :
    wrap64 (wrap32 (Go.bits .or .u32 (Go.bits .or .u32 (Go.bits .or .u32 (((a % 4294967296) * 16777216) % 4294967296) (((b % 4294967296) * 65536) % 4294967296)) (((c % 4294967296) * 256) % 4294967296)) (d % 4294967296))) = w4 a b c d := by
  unfold Byt at *
  rw [show a % 4294967296 = a by omega, show b % 4294967296 = b by omega, show c % 4294967296 = c by omega, show d % 4294967296 = d by omega, show a * 16777216 % 4294967296 = a * 2 ^ 24 by omega, show b * 65536 % 4294967296 = b * 65536 by omega, show c * 256 % 4294967296 = c * 256 by omega]
  rw [or_add32 24 ha.1 ⟨by omega, by omega⟩ (by omega), show a * 2 ^ 24 + b * 65536 = (a * 256 + b) * 2 ^ 16 by omega, or_add32 16 (by omega) ⟨by omega, by omega⟩ (by omega), show (a * 256 + b) * 2 ^ 16 + c * 256 = (a * 65536 + b * 256 + c) * 2 ^ 8 by omega, or_add32 8 (by omega) ⟨by omega, by omega⟩ (by omega)]
  unfold w4 wrap64 wrap32
  split <;> omega
theorem bytesOf_byt (s : ByteArray) : ∀ x ∈ bytesOf s, Byt x := by
  intro x hx
  unfold bytesOf at hx
  obtain ⟨b, _, rfl⟩ := List.mem_map.1 hx
  have := b.toNat_lt
  unfold Byt
  omega
theorem bytesOf_str {E : List Int} (h : ∀ x ∈ E, Byt x) : bytesOf (strOfNums E) = E := by
  unfold bytesOf
  rw [strOfNums_data, List.map_map]
  conv => rhs; rw [← List.map_id E]
  apply List.map_congr_left
  intro x hx
  have := h x hx
  unfold Byt at this
  show ((UInt8.ofNat x.toNat).toNat : Int) = x
  rw [UInt8.toNat_ofNat']
  omega
theorem bytesOf_cut (s : ByteArray) (n : Nat) : bytesOf (s.extract n s.size) = (bytesOf s).drop n := by
  unfold bytesOf
  rw [ByteArray.data_extract, Array.toList_extract, ← List.map_drop]
  congr 1
  rw [List.extract_eq_take_drop]
  exact List.take_of_length_le (by rw [List.length_drop, data_length]; exact Nat.le_refl _)
theorem bt_of {s : ByteArray} {L : List Int} (h : bytesOf s = L) (i : Int) : bt s i = rd L i := by rw [← h, rd_bytesOf]

theorem awake8_ev : Ev (fun k => windhoverlaw08_awake.f k) true := by
  have h : windhoverlaw08_awake.f 60 = some true := by decide +kernel
  exact Ev.of (fun k => windhoverlaw08_awake.mono k) h

/-! ### the loops that write and read them -/
theorem inrows_small {l : List Int} (h : Sound l) : ∀ x ∈ l, 0 ≤ x ∧ x < 2147483648 := by
  intro x hx
  obtain ⟨i, hi, rfl⟩ := List.getElem_of_mem hx
  have h1 := h.1
  have q := h.2.1 (i : Int) (by omega) (by omega)
  have e : rd l (i : Int) = l[i] := by simp [rd, List.getD_eq_getElem?_getD, hi]
  rw [e] at q
  have hj : i = 0 ∨ i = 1 ∨ i = 2 ∨ i = 3 ∨ i = 4 ∨ i = 5 ∨ i = 6 ∨ i = 7 ∨ i = 8 ∨ i = 9 ∨ i = 10 ∨ i = 11 ∨ i = 12 ∨ i = 13 ∨ i = 14 ∨ i = 15 ∨ i = 16 ∨ i = 17 ∨ i = 18 ∨ i = 19 ∨ i = 20 ∨ i = 21 ∨ i = 22 ∨ i = 23 := by omega
  have t : 0 ≤ rd params_Check.tb0_0 (i : Int) ∧ rd params_Check.tb0_1 (i : Int) ≤ 1000000000 := by
    clear q e hi hx
    rcases hj with rfl | rfl | rfl | rfl | rfl | rfl | rfl | rfl | rfl | rfl | rfl | rfl | rfl | rfl | rfl | rfl | rfl | rfl | rfl | rfl | rfl | rfl | rfl | rfl
    all_goals decide
  omega
theorem drop_rd {l : List Int} {i : Nat} (hi : i < l.length) : l.drop i = rd l (i : Int) :: l.drop (i + 1) := by
  rw [List.drop_eq_getElem_cons hi]
  congr 1
  simp [rd, List.getD_eq_getElem?_getD, hi]
theorem enc_loop {l : List Int} (hl : l.length = 24) : ∀ (n i : Nat) (acc : List Int), i + n = 24 → acc.length = 4 * i → Ev (fun k => params_Encode.l0 k acc l (l.length : Int) (i : Int)) (strOfNums (acc ++ enc (l.drop i)), 0) := by
  intro n
  induction n with
  | zero =>
    intro i acc h ha
    have e : l.drop i = [] := List.drop_eq_nil_of_le (by omega)
    rw [e, enc, List.append_nil]
    exact Ev.step (f := fun _ => some (strOfNums acc, 0)) (fun k => by rw [params_Encode.l0, if_neg (by omega)]) (Ev.now _)
  | succ n ih =>
    intro i acc h ha
    have w : wrap64 ((i : Int) + 1) = ((i + 1 : Nat) : Int) := by rw [wsm (by omega) (by omega)]; omega
    have e : l.drop i = rd l (i : Int) :: l.drop (i + 1) := drop_rd (by omega)
    rw [e, enc, ← List.append_assoc]
    refine Ev.step (f := fun k => params_Encode.l0 k (acc ++ b4 (rd l (i : Int))) l (l.length : Int) ((i + 1 : Nat) : Int)) (fun k => ?_) (ih (i + 1) (acc ++ b4 (rd l (i : Int))) (by omega) (by rw [List.length_append, ha]; simp [b4]; omega))
    rw [params_Encode.l0, if_pos (by omega), if_pos (by omega), if_pos (by omega), w]
    show (if acc.length + (b4 (rd l (i : Int))).length < 140737488355328 then _ else _) = _
    rw [if_pos (by rw [ha]; simp [b4]; omega)]
    rfl
noncomputable def fin (D : List Int) : List Int × Int := if chv D = 0 then (D, 0) else ([], chv D)
theorem enc_ok {l : List Int} (h : Sound l) : Ev (fun k => params_Encode.f k l) (strOfNums (enc l), 0) := by
  have e0 := pcheck_ev l
  rw [chv_zero.2 h] at e0
  refine Ev.congr (fun k => by rw [params_Encode.f]) ?_
  refine Ev.bind e0 ?_
  have := enc_loop h.1 24 0 [] rfl rfl
  exact Ev.congr (fun k => by rw [if_pos rfl]; rfl) this
theorem enc_no {l : List Int} (h : ¬ Sound l) : Ev (fun k => params_Encode.f k l) (⟨#[]⟩, chv l) := by
  refine Ev.congr (fun k => by rw [params_Encode.f]) ?_
  refine Ev.bind (pcheck_ev l) ?_
  exact Ev.congr (fun k => by rw [if_neg (fun g => h (chv_zero.1 g))]) (Ev.now _)
theorem four_of {M : List Int} {n : Nat} (h : M.length = 4 * (n + 1)) : M = rd M 0 :: rd M 1 :: rd M 2 :: rd M 3 :: M.drop 4 := by
  match M, h with
  | a :: b :: c :: d :: r, _ => rfl
theorem toList_nil {s : ByteArray} : s.toList = [] ↔ s.size = 0 := by
  rw [← data_length, ByteArray.toList_eq]
  exact List.length_eq_zero_iff.symm
theorem dec_loop : ∀ (n : Nat) (s : ByteArray) (acc : List Int), (bytesOf s).length = 4 * n → acc.length + n = 24 → Ev (fun k => params_Decode.l0 k s acc) (fin (acc ++ dec (bytesOf s))) := by
  intro n
  induction n with
  | zero =>
    intro s acc h ha
    have e : bytesOf s = [] := List.length_eq_zero_iff.1 (by omega)
    have z : s.toList = [] := toList_nil.2 (by rw [← bytesOf_length]; omega)
    rw [e, show dec [] = [] from rfl, List.append_nil]
    refine Ev.step (f := fun k => (params_Check.f k acc).bind fun t331 => if t331 = 0 then some (acc, 0) else some (([] : List Int), t331)) (fun k => by rw [params_Decode.l0, if_pos z]) ?_
    refine Ev.bind (pcheck_ev acc) ?_
    refine Ev.congr (f := fun _ => some (fin acc)) (fun k => ?_) (Ev.now _)
    unfold fin
    split <;> rfl
  | succ n ih =>
    intro s acc h ha
    have hs : s.size = 4 * (n + 1) := by rw [← bytesOf_length]; exact h
    have z : ¬ s.toList = [] := fun g => by have := toList_nil.1 g; omega
    have f := four_of h
    have hb := bytesOf_byt s
    have hc := bytesOf_cut s 4
    have B : ∀ j, Byt (bt s j) := fun j => by have := bt_range s j; unfold Byt; omega
    have w := or_w4 (B 0) (B 1) (B 2) (B 3)
    have st : acc ++ dec (bytesOf s) = (acc ++ [w4 (bt s 0) (bt s 1) (bt s 2) (bt s 3)]) ++ dec (bytesOf (s.extract 4 s.size)) := by
      rw [hc, bt_of (s := s) rfl, bt_of (s := s) rfl, bt_of (s := s) rfl, bt_of (s := s) rfl, List.append_assoc]
      congr 1
      conv => lhs; rw [f]
      rfl
    rw [st]
    refine Ev.step (f := fun k => params_Decode.l0 k (s.extract 4 s.size) (acc ++ [w4 (bt s 0) (bt s 1) (bt s 2) (bt s 3)])) (fun k => ?_) (ih _ _ (by rw [hc, List.length_drop]; omega) (by simp; omega))
    rw [params_Decode.l0, if_neg z, if_pos (by omega), if_pos (by omega), if_pos (by omega), if_pos (by omega), if_pos (by omega), if_pos (by omega), w]
theorem pdec_ev (s : ByteArray) : Ev (fun k => params_Decode.f k s) (if s.size = 96 then fin (dec (bytesOf s)) else ([], 3)) := by
  by_cases h : s.size = 96
  · rw [if_pos h]
    exact Ev.congr (fun k => by rw [params_Decode.f, if_pos (by omega)]) (dec_loop 24 s [] (by rw [bytesOf_length]; omega) rfl)
  · rw [if_neg h]
    exact Ev.congr (fun k => by rw [params_Decode.f, if_neg (by omega)]) (Ev.now _)
theorem same_loop {l : List Int} (hl : l.length ≤ 4611686018427387904) : ∀ (n i : Nat), i + n = l.length → Ev (fun k => windhoverref00_SameInts.l0 k l l (i : Int)) true := by
  intro n
  induction n with
  | zero => intro i h; exact Ev.step (f := fun _ => some true) (fun k => by rw [windhoverref00_SameInts.l0, if_neg (by omega)]) (Ev.now _)
  | succ n ih =>
    intro i h
    have w : wrap64 ((i : Int) + 1) = ((i + 1 : Nat) : Int) := by rw [wsm (by omega) (by omega)]; omega
    exact Ev.step (f := fun k => windhoverref00_SameInts.l0 k l l ((i + 1 : Nat) : Int)) (fun k => by rw [windhoverref00_SameInts.l0, if_pos (by omega), if_pos (by omega), if_pos (by omega), if_pos rfl, w]) (ih (i + 1) (by omega))
theorem same_ev {l : List Int} (hl : l.length ≤ 4611686018427387904) : Ev (fun k => windhoverref00_SameInts.f k l l) true :=
  Ev.congr (fun k => by rw [windhoverref00_SameInts.f, if_pos rfl]; rfl) (same_loop hl l.length 0 (by omega))

theorem ParamsBack : windhoverlaw08_ParamsBack.Pure := by
  intro l h1 h2 h3
  apply Ev.rounds
  refine Ev.congr (fun k => by rw [windhoverlaw08_ParamsBack.f]) ?_
  by_cases h : Sound l
  · refine Ev.bind (enc_ok h) ?_
    have hd := pdec_ev (strOfNums (enc l))
    have hs : (strOfNums (enc l)).size = 96 := by rw [strOfNums_size, enc_len, h.1]
    rw [if_pos hs, bytesOf_str (enc_byt l), dec_enc l (inrows_small h)] at hd
    unfold fin at hd
    rw [if_pos (chv_zero.2 h)] at hd
    refine Ev.congr (fun k => by rw [if_pos rfl]) ?_
    refine Ev.bind hd ?_
    have e0 := pcheck_ev l
    rw [chv_zero.2 h] at e0
    refine Ev.congr (f := fun k => (windhoverref00_SameInts.f k l l).bind fun t343 => if t343 = true then (params_Check.f k l).bind fun t344 => if t344 = 0 then (windhoverlaw08_awake.f k).bind fun t345 => some t345 else none else none) (fun k => ?_) ?_
    · rw [if_pos rfl, if_pos (by dsimp only; omega)]
    · refine Ev.bind (same_ev (by have := h.1; omega)) ?_
      refine Ev.congr (fun k => by rw [if_pos rfl]) ?_
      refine Ev.bind e0 ?_
      exact Ev.congr (fun k => by rw [if_pos rfl]) (Ev.bind awake8_ev (Ev.now true))
  · refine Ev.bind (enc_no h) ?_
    refine Ev.congr (fun k => by rw [if_neg (fun g => h (chv_zero.1 g))]) ?_
    refine Ev.bind (pcheck_ev l) ?_
    refine Ev.congr (f := fun k => (windhoverlaw08_awake.f k).bind fun t338 => some t338) (fun k => ?_) (Ev.bind awake8_ev (Ev.now true))
    rw [if_pos rfl, if_pos (toList_nil.2 rfl)]

end Go.Proofs.Ytaabdnamofmfcaa.Pure
