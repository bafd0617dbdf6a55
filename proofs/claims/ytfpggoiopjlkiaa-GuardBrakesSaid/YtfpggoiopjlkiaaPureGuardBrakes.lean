/- A vehicle that is braked from the next tick on never leaves the box, whatever the air does, and though a motor dies on the way. -/
import Derived.Test.YtfpggoiopjlkiaaPGuardBrakesx7
namespace Go.Proofs.Ytfpggoiopjlkiaa.Pure
open Go.RowKit Go.Proofs.Ytfpggoiopjlkiaa.PGuardBrakes Go.Proofs.YtfpggoiopjlkiaaW.PrintWords Go.Proofs.YtfpggoiopjlkiaaW.PrintLast

set_option linter.unusedVariables false
set_option linter.unusedSimpArgs false
theorem Ev.now {α : Type} (r : α) : Ev (fun _ => some r) r := ⟨0, fun _ _ => rfl⟩

/-! ### Whole numbers of any length, by digits of 2^30: the plain lists -/
def V : List Int → Int
  | [] => 0
  | d :: ds => d + 1073741824 * V ds
/-! ### The printed functions on whole numbers do what the plain lists say -/
theorem wsm {a : Int} (h1 : -9223372036854775808 ≤ a) (h2 : a ≤ 9223372036854775807) : wrap64 a = a := by unfold wrap64; omega
theorem ev_eq {α : Type} {g : Nat → Option α} {r s : α} (h : r = s) (e : Ev g s) : Ev g r := h ▸ e
/-- A whole number, kept within an int. -/
def sat (n : Int) : Int := if n > 9223372036854775807 then 9223372036854775807 else if n < -9223372036854775808 then -9223372036854775808 else n
def I64 (n : Int) : Prop := -9223372036854775808 ≤ n ∧ n ≤ 9223372036854775807
theorem I64_of {a : Int} (h : (Lit.int .i64 a).wf = true) : I64 a := by
  simp [Lit.wf, IntKind.min, IntKind.max, IntKind.signed, IntKind.bits] at h
  unfold I64; omega

/-! ### Add, Sub, Mul: kept within an int -/
theorem add_ev' {a b : Int} (ha : I64 a) (hb : I64 b) : Ev (fun k => fix_Add.f k a b) (sat (a + b)) := by
  have key : ∀ c : Bool, c = decide (a > 0 ∧ b > 0 ∧ wrap64 (a + b) < 0) → Ev (fun k => fix_Add.j0 k a b (wrap64 (a + b)) c) (sat (a + b)) := by
    intro c hc
    refine Ev.step (f := fun _ => some (sat (a + b))) (fun k => ?_) (Ev.now _)
    rw [fix_Add.j0]
    unfold I64 at *
    have hw : (wrap64 (a + b) = a + b ∧ -9223372036854775808 ≤ a + b ∧ a + b ≤ 9223372036854775807) ∨ (wrap64 (a + b) = a + b - 18446744073709551616 ∧ a + b > 9223372036854775807) ∨ (wrap64 (a + b) = a + b + 18446744073709551616 ∧ a + b < -9223372036854775808) := by
      unfold wrap64; omega
    generalize wrap64 (a + b) = s at *
    unfold sat
    by_cases h : a > 0 ∧ b > 0 ∧ s < 0
    · rw [hc, if_pos (by simpa using h)]
      rw [if_pos (by omega)]
    · rw [hc, if_neg (by simpa using h)]
      by_cases h1 : a < 0
      · rw [if_pos h1]
        by_cases h2 : b < 0
        · rw [if_pos h2]
          by_cases h3 : s ≥ 0
          · rw [if_pos h3, if_neg (by omega), if_pos (by omega)]
          · rw [if_neg h3, if_neg (by omega), if_neg (by omega)]; congr 1; omega
        · rw [if_neg h2, if_neg (by omega), if_neg (by omega)]; congr 1; omega
      · rw [if_neg h1, if_neg (by omega), if_neg (by omega)]; congr 1; omega
  by_cases h1 : a > 0
  · by_cases h2 : b > 0
    · exact Ev.congr (fun k => by rw [fix_Add.f, if_pos h1, if_pos h2]) (key _ (by simp [h1, h2]))
    · exact Ev.congr (fun k => by rw [fix_Add.f, if_pos h1, if_neg h2]) (key _ (by simp [h2]))
  · exact Ev.congr (fun k => by rw [fix_Add.f, if_neg h1]) (key _ (by simp [h1]))
theorem sub_ev' {a b : Int} (ha : I64 a) (hb : I64 b) : Ev (fun k => fix_Sub.f k a b) (sat (a - b)) := by
  have key : ∀ c : Bool, c = decide (a ≥ 0 ∧ b < 0 ∧ wrap64 (a - b) < 0) → Ev (fun k => fix_Sub.j0 k a b (wrap64 (a - b)) c) (sat (a - b)) := by
    intro c hc
    refine Ev.step (f := fun _ => some (sat (a - b))) (fun k => ?_) (Ev.now _)
    rw [fix_Sub.j0]
    unfold I64 at *
    have hw : (wrap64 (a - b) = a - b ∧ -9223372036854775808 ≤ a - b ∧ a - b ≤ 9223372036854775807) ∨ (wrap64 (a - b) = a - b - 18446744073709551616 ∧ a - b > 9223372036854775807) ∨ (wrap64 (a - b) = a - b + 18446744073709551616 ∧ a - b < -9223372036854775808) := by
      unfold wrap64; omega
    generalize wrap64 (a - b) = s at *
    unfold sat
    by_cases h : a ≥ 0 ∧ b < 0 ∧ s < 0
    · rw [hc, if_pos (by simpa using h)]
      rw [if_pos (by omega)]
    · rw [hc, if_neg (by simpa using h)]
      by_cases h1 : a < 0
      · rw [if_pos h1]
        by_cases h2 : b > 0
        · rw [if_pos h2]
          by_cases h3 : s ≥ 0
          · rw [if_pos h3, if_neg (by omega), if_pos (by omega)]
          · rw [if_neg h3, if_neg (by omega), if_neg (by omega)]; congr 1; omega
        · rw [if_neg h2, if_neg (by omega), if_neg (by omega)]; congr 1; omega
      · rw [if_neg h1, if_neg (by omega), if_neg (by omega)]; congr 1; omega
  by_cases h1 : a ≥ 0
  · by_cases h2 : b < 0
    · exact Ev.congr (fun k => by rw [fix_Sub.f, if_pos h1, if_pos h2]) (key _ (by simp [h1, h2]))
    · exact Ev.congr (fun k => by rw [fix_Sub.f, if_pos h1, if_neg h2]) (key _ (by simp [h2]))
  · exact Ev.congr (fun k => by rw [fix_Sub.f, if_neg h1]) (key _ (by simp [h1]))

theorem mul_up {x y q : Int} (h : x ≤ y) (hq : 0 ≤ q) : x * q ≤ y * q := Int.mul_le_mul_of_nonneg_right h hq
theorem tq_pos (a d : Int) (ha : 0 ≤ a) (hd : 1 ≤ d) : a = d * Int.tdiv a d + Int.tmod a d ∧ 0 ≤ Int.tmod a d ∧ Int.tmod a d < d ∧ 0 ≤ Int.tdiv a d ∧ Int.tdiv a d ≤ d * Int.tdiv a d ∧ (2 ≤ d → 2 * Int.tdiv a d ≤ d * Int.tdiv a d) := by
  have e := Int.mul_tdiv_add_tmod a d
  have q0 : 0 ≤ Int.tdiv a d := Int.tdiv_nonneg ha (by omega)
  have r0 : 0 ≤ Int.tmod a d := by rw [Int.tmod_eq_emod_of_nonneg ha]; exact Int.emod_nonneg _ (by omega)
  have r1 : Int.tmod a d < d := by rw [Int.tmod_eq_emod_of_nonneg ha]; exact Int.emod_lt_of_pos _ (by omega)
  refine ⟨e.symm, r0, r1, q0, ?_, fun h => mul_up h q0⟩
  have := mul_up hd q0
  omega
theorem tq_neg (a d : Int) (ha : a < 0) (hd : 1 ≤ d) : a = d * Int.tdiv a d + Int.tmod a d ∧ Int.tmod a d ≤ 0 ∧ -d < Int.tmod a d ∧ Int.tdiv a d ≤ 0 ∧ d * Int.tdiv a d ≤ Int.tdiv a d ∧ (2 ≤ d → d * Int.tdiv a d ≤ 2 * Int.tdiv a d) := by
  have h := tq_pos (-a) d (by omega) hd
  rw [Int.neg_tdiv, Int.neg_tmod] at h
  obtain ⟨h1, h2, h3, h4, h5, h6⟩ := h
  simp only [Int.mul_neg] at h1 h5 h6
  generalize Int.tdiv a d = q at *
  generalize Int.tmod a d = r at *
  generalize d * q = p at *
  refine ⟨by omega, by omega, by omega, by omega, by omega, fun h => ?_⟩
  have := h6 h
  omega
theorem down_f {a d : Int} (ha : I64 a) (hd : 1 ≤ d) : fix_Down.f a d = some (a / d, 0) := by
  rw [fix_Down.f, if_neg (by omega), if_neg (by omega)]
  have u : ∀ f r : Int, a = d * f + r → 0 ≤ r → r < d → a / d = f := by
    intro f r e h0 h1
    rw [e, Int.add_comm, Int.add_mul_ediv_left _ _ (by omega), Int.ediv_eq_zero_of_lt h0 h1]; omega
  unfold I64 at ha
  by_cases h : 0 ≤ a
  · obtain ⟨e, r0, r1, q0, q1, q2⟩ := tq_pos a d h hd
    rw [if_neg (by omega), u _ _ e r0 r1, wsm (by omega) (by omega)]
  · obtain ⟨e, r0, r1, q0, q1, q2⟩ := tq_neg a d (by omega) hd
    by_cases hr : Int.tmod a d < 0
    · have q2 := q2 (by omega)
      rw [if_pos hr, u (Int.tdiv a d - 1) (Int.tmod a d + d) (by rw [Int.mul_sub]; omega) (by omega) (by omega), wsm (a := Int.tdiv a d) (by omega) (by omega), wsm (by omega) (by omega)]
    · rw [if_neg hr, u _ _ e (by omega) (by omega), wsm (by omega) (by omega)]
theorem up_f {a d : Int} (ha : I64 a) (hd : 1 ≤ d) : fix_Up.f a d = some (-((-a) / d), 0) := by
  rw [fix_Up.f, if_neg (by omega), if_neg (by omega)]
  have u : ∀ f r : Int, -a = d * f + r → 0 ≤ r → r < d → (-a) / d = f := by
    intro f r e h0 h1
    rw [e, Int.add_comm, Int.add_mul_ediv_left _ _ (by omega), Int.ediv_eq_zero_of_lt h0 h1]; omega
  unfold I64 at ha
  by_cases h : 0 ≤ a
  · obtain ⟨e, r0, r1, q0, q1, q2⟩ := tq_pos a d h hd
    by_cases hr : Int.tmod a d > 0
    · have q2 := q2 (by omega)
      rw [if_pos hr, u (-Int.tdiv a d - 1) (d - Int.tmod a d) (by rw [Int.mul_sub, Int.mul_neg]; omega) (by omega) (by omega), wsm (a := Int.tdiv a d) (by omega) (by omega), wsm (by omega) (by omega)]
      congr 2; omega
    · rw [if_neg hr, u (-Int.tdiv a d) (-Int.tmod a d) (by rw [Int.mul_neg]; omega) (by omega) (by omega), wsm (by omega) (by omega)]
      congr 2; omega
  · obtain ⟨e, r0, r1, q0, q1, q2⟩ := tq_neg a d (by omega) hd
    rw [if_neg (by omega), u (-Int.tdiv a d) (-Int.tmod a d) (by rw [Int.mul_neg]; omega) (by omega) (by omega), wsm (by omega) (by omega)]
    congr 2; omega

theorem uw {a : Int} (h1 : 0 ≤ a) (h2 : a < 18446744073709551616) : IntKind.u64.wrap a = a := by rw [IntKind.wrap_u64]; omega
theorem and32 {a : Int} (h1 : 0 ≤ a) (h2 : a < 18446744073709551616) : Go.bits .and .u64 a 4294967295 = a % 4294967296 := by
  have := bits_mask .u64 64 (by decide) (fun n h0 h1 => by rw [IntKind.wrap_u64]; omega) 32 (by decide) a h1 (by omega)
  simpa using this
theorem prod32 {x y : Int} (hx : 0 ≤ x ∧ x ≤ 4294967295) (hy : 0 ≤ y ∧ y ≤ 4294967295) : 0 ≤ x * y ∧ x * y ≤ 18446744065119617025 := by
  refine ⟨Int.mul_nonneg hx.1 hy.1, ?_⟩
  have := Int.mul_le_mul hx.2 hy.2 hy.1 (by decide)
  omega
/-- The 128 bits of a product. -/
theorem mul64_f {a b : Int} (ha : 0 ≤ a ∧ a < 18446744073709551616) (hb : 0 ≤ b ∧ b < 18446744073709551616) : bits_Mul64.f a b = some (a * b / 18446744073709551616, a * b % 18446744073709551616) := by
  obtain ⟨p, q, rfl, hp, hq⟩ : ∃ p q : Int, a = p * 4294967296 + q ∧ (0 ≤ p ∧ p ≤ 4294967295) ∧ (0 ≤ q ∧ q ≤ 4294967295) := ⟨a / 4294967296, a % 4294967296, by omega, by omega, by omega⟩
  obtain ⟨r, s, rfl, hr, hs⟩ : ∃ r s : Int, b = r * 4294967296 + s ∧ (0 ≤ r ∧ r ≤ 4294967295) ∧ (0 ≤ s ∧ s ≤ 4294967295) := ⟨b / 4294967296, b % 4294967296, by omega, by omega, by omega⟩
  have e1 : (p * 4294967296 + q) / 4294967296 = p := by omega
  have e2 : (r * 4294967296 + s) / 4294967296 = r := by omega
  have e3 : Go.bits .and .u64 (p * 4294967296 + q) 4294967295 = q := by rw [and32 ha.1 ha.2]; omega
  have e4 : Go.bits .and .u64 (r * 4294967296 + s) 4294967295 = s := by rw [and32 hb.1 hb.2]; omega
  have hpr := prod32 hp hr
  have hps := prod32 hp hs
  have hqr := prod32 hq hr
  have hqs := prod32 hq hs
  have hx : (p * 4294967296 + q) * (r * 4294967296 + s) = p * r * 18446744073709551616 + (p * s + q * r) * 4294967296 + q * s := by
    rw [Int.add_mul, Int.mul_add, Int.mul_add]
    have a1 : p * 4294967296 * (r * 4294967296) = p * r * 18446744073709551616 := by rw [Int.mul_assoc, Int.mul_comm r, ← Int.mul_assoc 4294967296, Int.mul_comm _ r, ← Int.mul_assoc]; omega
    have a2 : p * 4294967296 * s = p * s * 4294967296 := by rw [Int.mul_assoc, Int.mul_comm 4294967296 s, ← Int.mul_assoc]
    have a3 : q * (r * 4294967296) = q * r * 4294967296 := by rw [Int.mul_assoc]
    rw [a1, a2, a3]; omega
  unfold bits_Mul64.f
  rw [e1, e2, e3, e4, hx]
  generalize p * r = A at *
  generalize p * s = B at *
  generalize q * r = C at *
  generalize q * s = D at *
  clear e1 e2 e3 e4 hx ha hb
  rw [uw (a := D) (by omega) (by omega), uw (a := B) (by omega) (by omega), uw (a := A) (by omega) (by omega), uw (a := C) (by omega) (by omega), uw (a := B + D / 4294967296) (by omega) (by omega), and32 (a := B + D / 4294967296) (by omega) (by omega), uw (a := A + _) (by omega) (by omega), uw (a := (B + D / 4294967296) % 4294967296 + C) (by omega) (by omega), uw (by omega) (by omega), IntKind.wrap_u64]
  congr 2
  omega

theorem u64_eq (a : Int) : IntKind.u64.wrap a = a % 18446744073709551616 := by rw [IntKind.wrap_u64]

theorem or_add {a b : Int} (n : Nat) (ha : 0 ≤ a) (hb : 0 ≤ b ∧ b < 2 ^ n) (h : a * 2 ^ n + b < 18446744073709551616) : Go.bits .or .u64 (a * 2 ^ n) b = a * 2 ^ n + b := by
  obtain ⟨A, rfl⟩ := Int.eq_ofNat_of_zero_le ha
  obtain ⟨B, rfl⟩ := Int.eq_ofNat_of_zero_le hb.1
  have e : (A : Int) * 2 ^ n = ((A * 2 ^ n : Nat) : Int) := by simp
  have hb2 : B < 2 ^ n := by
    have := hb.2
    rw [show (2 : Int) ^ n = ((2 ^ n : Nat) : Int) from by simp] at this
    omega
  rw [e] at h ⊢
  have o := Nat.shiftLeft_add_eq_or_of_lt hb2 A
  rw [Nat.shiftLeft_eq] at o
  generalize A * 2 ^ n = C at *
  show IntKind.u64.wrap ((BitVec.ofInt 64 (C : Int) ||| BitVec.ofInt 64 (B : Int)).toNat : Int) = _
  rw [BitVec.toNat_or, BitVec.toNat_ofInt, BitVec.toNat_ofInt]
  rw [show ((C : Int) % ((2 ^ 64 : Nat) : Int)).toNat = C from by omega, show ((B : Int) % ((2 ^ 64 : Nat) : Int)).toNat = B from by omega, ← o, u64_eq]
  omega
def Wy (v b : Int) : Int := v / b * (v % b) + b * (v / b * (v / b - 1) / 2)
def stp (v b : Int) : Int := if v < 1 ∨ b < 1 then 0 else if Wy v b > 9223372036854775807 then 9223372036854775807 else Wy v b
theorem or_comm64 (a b : Int) : Go.bits .or .u64 a b = Go.bits .or .u64 b a := by
  show Go.IntKind.u64.wrap ((BitVec.ofInt 64 a ||| BitVec.ofInt 64 b).toNat : Int) = Go.IntKind.u64.wrap ((BitVec.ofInt 64 b ||| BitVec.ofInt 64 a).toNat : Int)
  rw [BitVec.or_comm]
theorem half_or {hi lo : Int} (h : 0 ≤ hi ∧ hi ≤ 1) (l : 0 ≤ lo ∧ lo < 18446744073709551616) : Go.bits .or .u64 (lo / 2) (IntKind.u64.wrap (hi * 9223372036854775808)) = (hi * 18446744073709551616 + lo) / 2 := by
  have e : (2 : Int) ^ 63 = 9223372036854775808 := by decide
  have := or_add (a := hi) (b := lo / 2) 63 h.1 ⟨by omega, by rw [e]; omega⟩ (by rw [e]; omega)
  rw [e] at this
  rw [uw (a := hi * 9223372036854775808) (by omega) (by omega), or_comm64, this]
  omega
theorem even_q (n : Int) : ∃ T, n * (n - 1) = 2 * T := by
  rcases Int.emod_two_eq n with h | h
  · refine ⟨n / 2 * (n - 1), ?_⟩
    rw [← Int.mul_assoc, show 2 * (n / 2) = n by omega]
  · refine ⟨n * ((n - 1) / 2), ?_⟩
    rw [← Int.mul_assoc, Int.mul_comm 2 n, Int.mul_assoc, show 2 * ((n - 1) / 2) = n - 1 by omega]
theorem stop_j2 {b n r T : Int} (hn : 0 ≤ n ∧ n < 9223372036854775808) (hr : 0 ≤ r ∧ r < 9223372036854775808) (hb : 1 ≤ b ∧ b < 9223372036854775808) (hT : 0 ≤ T ∧ T < 18446744073709551616) :
    Ev (fun k => guard_Stop.j2 k b n r T) (if n * r + b * T > 9223372036854775807 then 9223372036854775807 else n * r + b * T) := by
  have m1 := mul64_f (a := n) (b := r) ⟨hn.1, by omega⟩ ⟨hr.1, by omega⟩
  have m2 := mul64_f (a := b) (b := T) ⟨by omega, by omega⟩ hT
  have p1 : 0 ≤ n * r := Int.mul_nonneg hn.1 hr.1
  have p2 : 0 ≤ b * T := Int.mul_nonneg (by omega) hT.1
  have u := uw (a := b) (by omega) (by omega)
  generalize n * r = A at *
  generalize b * T = B at *
  refine Ev.step (f := fun _ => some (if A + B > 9223372036854775807 then 9223372036854775807 else A + B)) (fun k => ?_) (Ev.now _)
  rw [guard_Stop.j2, u, m1, m2]
  show (if A / 18446744073709551616 > 0 then some 9223372036854775807 else if B / 18446744073709551616 > 0 then some 9223372036854775807 else if (max (A % 18446744073709551616) 0 + max (B % 18446744073709551616) 0) / 18446744073709551616 > 0 then some 9223372036854775807 else if (max (A % 18446744073709551616) 0 + max (B % 18446744073709551616) 0) % 18446744073709551616 > 9223372036854775807 then some 9223372036854775807 else some (wrap64 ((max (A % 18446744073709551616) 0 + max (B % 18446744073709551616) 0) % 18446744073709551616))) = _
  by_cases g : A + B > 9223372036854775807
  · rw [if_pos g]
    (repeat' split) <;> first | rfl | (exfalso; omega)
  · rw [if_neg g, if_neg (by omega), if_neg (by omega), if_neg (by omega), if_neg (by omega)]
    congr 1
    unfold wrap64
    omega
theorem stop_ev {v b : Int} (hv : v ≤ 9223372036854775807) (hb : b ≤ 9223372036854775807) : Ev (fun k => guard_Stop.f k v b) (stp v b) := by
  by_cases c1 : v < 1
  · refine Ev.congr (fun k => by rw [guard_Stop.f, if_pos c1]) ?_
    exact Ev.step (fun k => by rw [guard_Stop.j0, if_pos rfl]) (ev_eq (by unfold stp; rw [if_pos (.inl c1)]) (Ev.now 0))
  by_cases c2 : b < 1
  · refine Ev.congr (fun k => by rw [guard_Stop.f, if_neg c1, decide_eq_true c2]) ?_
    exact Ev.step (fun k => by rw [guard_Stop.j0, if_pos rfl]) (ev_eq (by unfold stp; rw [if_pos (.inr c2)]) (Ev.now 0))
  have u1 : IntKind.u64.wrap v = v := uw (by omega) (by omega)
  have u2 : IntKind.u64.wrap b = b := uw (by omega) (by omega)
  have t1 : Int.tdiv v b = v / b := Int.tdiv_eq_ediv_of_nonneg (by omega)
  have t2 : Int.tmod v b = v % b := Int.tmod_eq_emod_of_nonneg (by omega)
  have n0 : 0 ≤ v / b := Int.ediv_nonneg (by omega) (by omega)
  have n1 : v / b ≤ v := Int.ediv_le_self _ (by omega)
  have r0 : 0 ≤ v % b := Int.emod_nonneg _ (by omega)
  have r1 : v % b < b := Int.emod_lt_of_pos _ (by omega)
  have un : IntKind.u64.wrap (v / b) = v / b := uw n0 (by omega)
  refine Ev.congr (fun k => by rw [guard_Stop.f, if_neg c1, decide_eq_false c2]) ?_
  unfold stp Wy
  rw [if_neg (by omega)]
  refine Ev.step (f := fun k => if v / b = 0 then some 0 else (bits_Mul64.f (v / b) (IntKind.u64.wrap (v / b - 1))).bind fun bt => if bt.1 > 0 then guard_Stop.j1 k b (v / b) (v % b) (IntKind.u64.wrap (Int.tdiv (IntKind.u64.wrap (v / b * IntKind.u64.wrap (v / b - 1))) 2)) bt.1 bt.2 true else guard_Stop.j1 k b (v / b) (v % b) (IntKind.u64.wrap (Int.tdiv (IntKind.u64.wrap (v / b * IntKind.u64.wrap (v / b - 1))) 2)) bt.1 bt.2 (decide (bt.2 > 9223372036854775807))) (fun k => by rw [guard_Stop.j0, if_neg (by decide), u1, u2, if_neg (by omega), t1, t2, un]) ?_
  clear t1 t2 u1 u2
  generalize v / b = n at *
  generalize v % b = r at *
  by_cases z : n = 0
  · subst z
    refine Ev.congr (fun k => by rw [if_pos rfl]) (ev_eq ?_ (Ev.now 0))
    simp
  have w1 : IntKind.u64.wrap (n - 1) = n - 1 := uw (by omega) (by omega)
  have m := mul64_f (a := n) (b := n - 1) ⟨n0, by omega⟩ ⟨by omega, by omega⟩
  obtain ⟨T, hT⟩ := even_q n
  have q0 : 0 ≤ n * (n - 1) := Int.mul_nonneg n0 (by omega)
  have T0 : n * (n - 1) / 2 = T := by omega
  refine Ev.congr (fun k => by rw [if_neg z, w1, m]) ?_
  rw [T0]
  rw [hT] at m q0
  have fin : T < 18446744073709551616 → Ev (fun k => guard_Stop.j2 k b n r T) (if n * r + b * T > 9223372036854775807 then 9223372036854775807 else n * r + b * T) := fun h => stop_j2 ⟨n0, by omega⟩ ⟨r0, by omega⟩ ⟨by omega, by omega⟩ ⟨by omega, h⟩
  have big : 2 * T / 18446744073709551616 > 1 → (if n * r + b * T > 9223372036854775807 then (9223372036854775807 : Int) else n * r + b * T) = 9223372036854775807 := by
    intro h
    have p1 : 0 ≤ n * r := Int.mul_nonneg n0 r0
    have p2 : 1 * T ≤ b * T := Int.mul_le_mul_of_nonneg_right (by omega) (by omega)
    rw [if_pos (by omega)]
  have yes : ∀ P, Ev (fun k => guard_Stop.j1 k b n r P (2 * T / 18446744073709551616) (2 * T % 18446744073709551616) true) (if n * r + b * T > 9223372036854775807 then 9223372036854775807 else n * r + b * T) := by
    intro P
    by_cases h : 2 * T / 18446744073709551616 > 1
    · rw [big h]
      exact Ev.step (fun k => by rw [guard_Stop.j1, if_pos rfl, if_pos h]) (Ev.now _)
    · refine Ev.step (fun k => by rw [guard_Stop.j1, if_pos rfl, if_neg h, half_or ⟨by omega, by omega⟩ ⟨by omega, by omega⟩, show (2 * T / 18446744073709551616 * 18446744073709551616 + 2 * T % 18446744073709551616) / 2 = T by omega]) (fin (by omega))
  rw [hT]
  refine Ev.bind (f := fun k (bt : Int × Int) => if bt.1 > 0 then guard_Stop.j1 k b n r (IntKind.u64.wrap (Int.tdiv (IntKind.u64.wrap (2 * T)) 2)) bt.1 bt.2 true else guard_Stop.j1 k b n r (IntKind.u64.wrap (Int.tdiv (IntKind.u64.wrap (2 * T)) 2)) bt.1 bt.2 (decide (bt.2 > 9223372036854775807))) (Ev.now (2 * T / 18446744073709551616, 2 * T % 18446744073709551616)) ?_
  dsimp only
  by_cases h : 2 * T / 18446744073709551616 > 0
  · exact Ev.congr (fun k => by rw [if_pos h]) (yes _)
  · by_cases g : 2 * T % 18446744073709551616 > 9223372036854775807
    · exact Ev.congr (fun k => by rw [if_neg h, decide_eq_true g]) (yes _)
    · refine Ev.congr (fun k => by rw [if_neg h, decide_eq_false g]) ?_
      have e : IntKind.u64.wrap (Int.tdiv (IntKind.u64.wrap (2 * T)) 2) = T := by
        rw [uw (a := 2 * T) (by omega) (by omega), Int.tdiv_eq_ediv_of_nonneg (by omega), uw (by omega) (by omega)]
        omega
      exact Ev.step (fun k => by rw [guard_Stop.j1, if_neg (by decide), e]) (fin (by omega))

theorem wy_nonneg {v b : Int} (hv : 0 ≤ v) (hb : 1 ≤ b) : 0 ≤ Wy v b := by
  obtain ⟨T, hT⟩ := even_q (v / b)
  have n0 : 0 ≤ v / b := Int.ediv_nonneg hv (by omega)
  have q0 : 0 ≤ v / b * (v / b - 1) := by
    by_cases h : v / b = 0
    · rw [h]; decide
    · exact Int.mul_nonneg n0 (by omega)
  have r0 : 0 ≤ v % b := Int.emod_nonneg _ (by omega)
  have a1 : 0 ≤ v / b * (v % b) := Int.mul_nonneg n0 r0
  have a2 : 0 ≤ b * (v / b * (v / b - 1) / 2) := Int.mul_nonneg (by omega) (by omega)
  unfold Wy
  omega
theorem wy_step {v b : Int} (hv : 1 ≤ v) (hb : 1 ≤ b) : Wy v b = if v ≤ b then 0 else v - b + Wy (v - b) b := by
  by_cases h : v ≤ b
  · rw [if_pos h]
    unfold Wy
    by_cases e : v = b
    · subst e
      rw [Int.ediv_self (by omega), Int.emod_self]
      simp
    · rw [Int.ediv_eq_zero_of_lt (by omega) (by omega)]
      simp
  · rw [if_neg h]
    have e1 : (v - b) / b = v / b - 1 := by rw [Int.sub_ediv_of_dvd _ (Int.dvd_refl b), Int.ediv_self (by omega)]
    have e2 : (v - b) % b = v % b := by rw [Int.sub_emod_right]
    unfold Wy
    rw [e1, e2]
    have d := Int.mul_ediv_add_emod v b
    obtain ⟨T, hT⟩ := even_q (v / b)
    obtain ⟨S, hS⟩ := even_q (v / b - 1)
    have s1 : v / b * (v / b - 1) = (v / b - 1) * (v / b - 1 - 1) + 2 * (v / b - 1) := by
      rw [Int.mul_comm (v / b)]
      have : (v / b - 1) * (v / b) = (v / b - 1) * (v / b - 1 - 1 + 2) := by rw [show v / b - 1 - 1 + 2 = v / b by omega]
      rw [this, Int.mul_add]
      omega
    rw [hT, hS] at s1
    rw [hT, hS, show 2 * T / 2 = T by omega, show 2 * S / 2 = S by omega, show T = S + (v / b - 1) by omega, Int.mul_add b S, Int.sub_mul, Int.mul_sub b]
    omega
def Sw (b x : Int) : Int := if x < 1 then 0 else Wy x b
theorem sw_step {b x : Int} (hb : 1 ≤ b) : Sw b x = if x ≤ b then 0 else x - b + Sw b (x - b) := by
  unfold Sw
  by_cases h : x < 1
  · rw [if_pos h, if_pos (by omega)]
  · rw [if_neg h, wy_step (by omega) hb]
    by_cases g : x ≤ b
    · rw [if_pos g, if_pos g]
    · rw [if_neg g, if_neg g, if_neg (by omega)]
theorem sw_nonneg {b x : Int} (hb : 1 ≤ b) : 0 ≤ Sw b x := by
  unfold Sw
  split
  · decide
  · exact wy_nonneg (by omega) hb
theorem sw_mono {b : Int} (hb : 1 ≤ b) : ∀ (n : Nat) (x y : Int), x.toNat ≤ n → x ≤ y → Sw b x ≤ Sw b y := by
  intro n
  induction n with
  | zero =>
    intro x y h1 h2
    have : Sw b x = 0 := by unfold Sw; rw [if_pos (by omega)]
    have := sw_nonneg (x := y) hb
    omega
  | succ n ih =>
    intro x y h1 h2
    rw [sw_step (x := x) hb]
    by_cases h : x ≤ b
    · rw [if_pos h]; exact sw_nonneg hb
    · rw [if_neg h, sw_step (x := y) hb, if_neg (by omega)]
      have := ih (x - b) (y - b) (by omega) (by omega)
      omega
theorem wy_le {v b N V : Int} (hv : 0 ≤ v ∧ v ≤ V) (hb : 1 ≤ b) (hn : v / b ≤ N) : Wy v b ≤ N * V + N * V := by
  have n0 : 0 ≤ v / b := Int.ediv_nonneg hv.1 (by omega)
  have r0 : 0 ≤ v % b := Int.emod_nonneg _ (by omega)
  have r1 : v % b ≤ v := by have := Int.mul_ediv_add_emod v b; have := Int.mul_nonneg (show 0 ≤ b by omega) n0; omega
  have a1 : v / b * (v % b) ≤ N * V := Int.mul_le_mul hn (by omega) r0 (by omega)
  obtain ⟨T, hT⟩ := even_q (v / b)
  have bn : b * (v / b) ≤ V := by have := Int.mul_ediv_add_emod v b; omega
  have bn0 : 0 ≤ b * (v / b) := Int.mul_nonneg (by omega) n0
  have a2 : b * (v / b) * (v / b - 1) ≤ V * N := by
    by_cases z : v / b = 0
    · rw [z]; simp; exact Int.mul_nonneg (by omega) (by omega)
    · exact Int.mul_le_mul bn (by omega) (by omega) (by omega)
  rw [Int.mul_assoc, hT, ← Int.mul_assoc, Int.mul_comm b 2, Int.mul_assoc, Int.mul_comm V N] at a2
  have v0 : 0 ≤ N * V := Int.mul_nonneg (by omega) (by omega)
  unfold Wy
  rw [hT, show 2 * T / 2 = T by omega]
  omega

theorem awake_ev : Ev (fun k => windhoverlaw18_awake.f k) true := by
  have h : windhoverlaw18_awake.f 60 = some true := by decide +kernel
  exact Ev.of (fun k => windhoverlaw18_awake.mono k) h
theorem sat_id {a : Int} (h1 : -9223372036854775808 ≤ a) (h2 : a ≤ 9223372036854775807) : sat a = a := by
  unfold sat
  rw [if_neg (by omega), if_neg (by omega)]
def Sm (a : Int) : Prop := -1152921504606846976 ≤ a ∧ a ≤ 1152921504606846976
theorem addS {a b : Int} (A : Sm a) (B : Sm b) : Ev (fun k => fix_Add.f k a b) (a + b) := by
  unfold Sm at A B
  have := add_ev' (a := a) (b := b) (by unfold I64; omega) (by unfold I64; omega)
  rwa [sat_id (by omega) (by omega)] at this
theorem subS {a b : Int} (A : Sm a) (B : Sm b) : Ev (fun k => fix_Sub.f k a b) (a - b) := by
  unfold Sm at A B
  have := sub_ev' (a := a) (b := b) (by unfold I64; omega) (by unfold I64; omega)
  rwa [sat_id (by omega) (by omega)] at this
theorem sw_small {b v : Int} (hb : 1 ≤ b) (hv : v ≤ 2097152) : Sw b v ≤ 8796093022208 := by
  unfold Sw
  by_cases h : v < 1
  · rw [if_pos h]; decide
  · rw [if_neg h]
    have n1 : v / b ≤ v := Int.ediv_le_self _ (by omega)
    have := wy_le (v := v) (b := b) (N := 2097152) (V := 2097152) ⟨by omega, hv⟩ hb (by omega)
    omega
theorem stop_sw {b v : Int} (hb : 1 ≤ b ∧ b ≤ 1000) (hv : v ≤ 2097152) : Ev (fun k => guard_Stop.f k v b) (Sw b v) := by
  have := stop_ev (v := v) (b := b) (by omega) (by omega)
  have s := sw_small hb.1 hv
  have e : stp v b = Sw b v := by
    unfold stp
    unfold Sw at s ⊢
    by_cases h : v < 1
    · rw [if_pos (.inl h), if_pos h]
    · rw [if_neg h] at s
      rw [if_neg (by omega), if_neg h, if_neg (by omega)]
  rwa [e] at this
theorem reach_ev {pl ph vl vh acc b jolt : Int} (P1 : -1099511627776 ≤ pl ∧ pl ≤ 1099511627776) (P2 : -1099511627776 ≤ ph ∧ ph ≤ 1099511627776) (V1 : -1048576 ≤ vl ∧ vl ≤ 1048576) (V2 : -1048576 ≤ vh ∧ vh ≤ 1048576) (ha : -64 ≤ acc ∧ acc ≤ 64) (hb : 48 ≤ b ∧ b ≤ 64) (hj : 0 ≤ jolt ∧ jolt ≤ 1000) (x1 x3 x4 x5 : Int) :
    Ev (fun k => guard_reach.f k pl ph vl vh acc b x1 jolt x3 x4 x5) (pl + (vl + acc - (150 - b)) - Sw b (-(vl + acc - (150 - b)) + jolt), ph + (vh + acc + (150 - b)) + Sw b (vh + acc + (150 - b) + jolt)) := by
  have s1 := sw_small (b := b) (v := -(vl + acc - (150 - b)) + jolt) (by omega) (by omega)
  have s2 := sw_small (b := b) (v := vh + acc + (150 - b) + jolt) (by omega) (by omega)
  have t1 := sw_nonneg (b := b) (x := -(vl + acc - (150 - b)) + jolt) (by omega)
  have t2 := sw_nonneg (b := b) (x := vh + acc + (150 - b) + jolt) (by omega)
  refine Ev.congr (fun k => by rw [guard_reach.f]) ?_
  refine Ev.bind (subS (a := 64) (b := b) (by unfold Sm; omega) (by unfold Sm; omega)) ?_
  refine Ev.bind (addS (a := 86) (b := 64 - b) (by unfold Sm; omega) (by unfold Sm; omega)) ?_
  rw [show (86 : Int) + (64 - b) = 150 - b by omega]
  refine Ev.bind (addS (a := vl) (b := acc) (by unfold Sm; omega) (by unfold Sm; omega)) ?_
  refine Ev.bind (subS (a := vl + acc) (b := 150 - b) (by unfold Sm; omega) (by unfold Sm; omega)) ?_
  refine Ev.bind (addS (a := vh) (b := acc) (by unfold Sm; omega) (by unfold Sm; omega)) ?_
  refine Ev.bind (addS (a := vh + acc) (b := 150 - b) (by unfold Sm; omega) (by unfold Sm; omega)) ?_
  refine Ev.bind (subS (a := 0) (b := vl + acc - (150 - b)) (by unfold Sm; omega) (by unfold Sm; omega)) ?_
  rw [show (0 : Int) - (vl + acc - (150 - b)) = -(vl + acc - (150 - b)) by omega]
  refine Ev.bind (addS (a := -(vl + acc - (150 - b))) (b := jolt) (by unfold Sm; omega) (by unfold Sm; omega)) ?_
  refine Ev.bind (stop_sw ⟨by omega, by omega⟩ (by omega)) ?_
  refine Ev.bind (addS (a := vh + acc + (150 - b)) (b := jolt) (by unfold Sm; omega) (by unfold Sm; omega)) ?_
  refine Ev.bind (stop_sw ⟨by omega, by omega⟩ (by omega)) ?_
  generalize Sw b (-(vl + acc - (150 - b)) + jolt) = S1 at *
  generalize Sw b (vh + acc + (150 - b) + jolt) = S2 at *
  refine Ev.bind (addS (a := pl) (b := vl + acc - (150 - b)) (by unfold Sm; omega) (by unfold Sm; omega)) ?_
  refine Ev.bind (subS (a := pl + (vl + acc - (150 - b))) (b := S1) (by unfold Sm; omega) (by unfold Sm; omega)) ?_
  refine Ev.bind (addS (a := ph) (b := vh + acc + (150 - b)) (by unfold Sm; omega) (by unfold Sm; omega)) ?_
  exact Ev.bind (addS (a := ph + (vh + acc + (150 - b))) (b := S2) (by unfold Sm; omega) (by unfold Sm; omega)) (Ev.now _)
theorem floorMM_f {p : Int} (P : Sm p) : guard_floorMM.f p = some (p / 6400) := by
  unfold Sm at P
  rw [guard_floorMM.f, down_f (by unfold I64; omega) (by decide)]; rfl
theorem ceilMM_f {p : Int} (P : Sm p) : guard_ceilMM.f p = some (-((-p) / 6400)) := by
  unfold Sm at P
  rw [guard_ceilMM.f, up_f (by unfold I64; omega) (by decide)]; rfl
theorem Reach_ev {a0 a1 a2 a3 a4 a5 a6 a7 a8 a9 a10 a11 c0 c1 c2 m0 m1 m2 m3 m4 m5 l0 h0 l1 h1 l2 h2 : Int} (r0 : Ev (fun k => guard_reach.f k a0 a1 a2 a3 c0 m0 m1 m2 m3 m4 m5) (l0, h0)) (r1 : Ev (fun k => guard_reach.f k a4 a5 a6 a7 c1 m0 m1 m2 m3 m4 m5) (l1, h1)) (r2 : Ev (fun k => guard_reach.f k a8 a9 a10 a11 c2 m0 m1 m2 m3 m4 m5) (l2, h2))
    (b0 : Sm l0) (b1 : Sm h0) (b2 : Sm l1) (b3 : Sm h1) (b5 : Sm h2) :
    Ev (fun k => guard_Reach.f k a0 a1 a2 a3 a4 a5 a6 a7 a8 a9 a10 a11 c0 c1 c2 m0 m1 m2 m3 m4 m5) (l0 / 6400, -((-h0) / 6400), l1 / 6400, -((-h1) / 6400), 0, -((-(mx 0 h2)) / 6400)) := by
  have b4 : Sm 0 := by unfold Sm; omega
  have b6 : Sm (mx 0 h2) := by unfold mx; split <;> assumption
  refine Ev.congr (fun k => by rw [guard_Reach.f]) ?_
  refine Ev.step (fun k => by rw [guard_Reach.l0, if_pos (by decide), if_pos rfl]) (Ev.bind r0 ?_)
  refine Ev.step (fun k => by rw [guard_Reach.l0, if_pos (by decide), if_neg (by decide), if_pos rfl]) (Ev.bind r1 ?_)
  refine Ev.step (fun k => by rw [guard_Reach.l0, if_pos (by decide), if_neg (by decide), if_neg (by decide), if_pos rfl]) (Ev.bind r2 ?_)
  refine Ev.step (fun k => by rw [guard_Reach.l0, if_neg (by decide)]) ?_
  refine Ev.step (fun k => by rw [guard_Reach.l1, if_pos (by decide), if_pos rfl, floorMM_f b0, ceilMM_f b1]) ?_
  refine Ev.bind (f := fun k t => _) (Ev.now _) (Ev.bind (f := fun k t => _) (Ev.now _) ?_)
  refine Ev.step (fun k => by rw [guard_Reach.l1, if_pos (by decide), if_neg (by decide), if_pos rfl, floorMM_f b2, ceilMM_f b3]) ?_
  refine Ev.bind (f := fun k t => _) (Ev.now _) (Ev.bind (f := fun k t => _) (Ev.now _) ?_)
  refine Ev.step (fun k => by rw [guard_Reach.l1, if_pos (by decide), if_neg (by decide), if_neg (by decide), if_pos rfl, floorMM_f b4, ceilMM_f b6]) ?_
  refine Ev.bind (f := fun k t => _) (Ev.now _) (Ev.bind (f := fun k t => _) (Ev.now _) ?_)
  exact Ev.step (f := fun _ => some (l0 / 6400, -((-h0) / 6400), l1 / 6400, -((-h1) / 6400), 0 / 6400, -((-(mx 0 h2)) / 6400))) (fun k => by rw [guard_Reach.l1, if_neg (by decide)]) (ev_eq (by simp) (Ev.now _))
theorem brk_step {b p v J v3 J3 B : Int} (hb : 1 ≤ b) (inv : p + Sw b (v + J) ≤ B) (h : v3 + J3 ≤ v + J - b) (h3 : 0 ≤ J3) (h0 : 0 < v3) : p + v3 + Sw b (v3 + J3) ≤ B := by
  have st := sw_step (x := v + J) hb
  rw [if_neg (by omega)] at st
  have m := sw_mono hb _ (v3 + J3) (v + J - b) (Nat.le_refl _) h
  omega
def Jg (given wh i : Int) : Int := if i ≤ wh then given else 0
theorem Jg_in {given wh : Int} (hg : 0 ≤ given ∧ given ≤ 1000) (i : Int) : 0 ≤ Jg given wh i ∧ Jg given wh i ≤ 1000 := by unfold Jg; split <;> omega
theorem Jg_at (given i : Int) : Jg given i i = given ∧ Jg given i (i + 1) = 0 := by
  unfold Jg
  rw [if_pos (Int.le_refl i), if_neg (by omega)]
  exact ⟨rfl, rfl⟩
theorem Jg_far {given wh i : Int} (h : i ≠ wh) : Jg given wh (i + 1) = Jg given wh i := by
  unfold Jg
  by_cases q : i ≤ wh
  · rw [if_pos q, if_pos (by omega)]
  · rw [if_neg q, if_neg (by omega)]
section
variable {b given wh B : Int} {a0 a1 a2 a3 a4 a5 a6 a7 a8 a10 : Int} {l : List Int} {z0 z1 z2 z3 z4 z5 : Int}
theorem wadd1' (i : Nat) (h : (i : Int) < 65536) : wrap64 ((i : Int) + 1) = ((i + 1 : Nat) : Int) := by rw [wsm (by omega) (by omega)]; omega
theorem brk_j3 {Q Jf : Int → Int} {n i : Nat} {v2 p v : Int} (hb : 48 ≤ b ∧ b ≤ 64) (hg : 0 ≤ given ∧ given ≤ 1000) (hB : -17592186044416 ≤ B ∧ B ≤ 17592186044416)
    (nn : ∀ x, 0 ≤ Q x) (hst : ∀ p v J v3 J3, p + Q (v + J) ≤ B → v3 + J3 ≤ v + J - b → 0 ≤ J3 → 0 < v3 → p + v3 + Q (v3 + J3) ≤ B)
    (jin : ∀ i, 0 ≤ Jf i ∧ Jf i ≤ 1000) (jat : Jf wh = given ∧ Jf (wh + 1) = 0) (jfar : ∀ i, i ≠ wh → Jf (i + 1) = Jf i)
    (ih : ∀ (i : Nat) (v p : Int), 65536 ≤ i + n → i ≤ 65536 → -2097152 ≤ v → v + Jf i ≤ 2097152 → -17592186044416 ≤ p → p ≤ B → (0 < v → p + Q (v + Jf i) ≤ B) →
      Ev (fun k => windhoverlaw18_GuardBrakes.l0 k b v p (i : Int) a0 a1 a2 a3 a4 a5 a6 a7 a8 l a10 given wh z0 z1 z2 z3 z4 z5) true)
    (h0 : 65536 ≤ i + (n + 1)) (hi : (i : Int) < 65536) (v0 : 0 < v) (v1 : v + Jf i ≤ 2097152) (p0 : -17592186044416 ≤ p) (p1 : p ≤ B) (inv : p + Q (v + Jf i) ≤ B) (g1 : v2 ≤ v - b) (g2 : v - b - 1048576 ≤ v2) :
    Ev (fun k => windhoverlaw18_GuardBrakes.j3 k b v2 p (i : Int) a0 a1 a2 a3 a4 a5 a6 a7 a8 l a10 given wh z0 z1 z2 z3 z4 z5) true := by
  have ji := jin i
  have wi := Aside0.mk (wadd1' i hi)
  have m1 : 65536 ≤ (i + 1) + n := by omega
  have m2 : i + 1 ≤ 65536 := by omega
  have ci : ((i + 1 : Nat) : Int) = (i : Int) + 1 := rfl
  by_cases e : (i : Int) = wh
  · rw [e] at inv v1
    rw [jat.1] at inv v1
    have wg := Aside0.mk (show wrap64 (v2 + given) = v2 + given from wsm (by omega) (by omega))
    have nx : ∀ p', -17592186044416 ≤ p' → p' ≤ B → (0 < v2 + given → p' + Q (v2 + given) ≤ B) → Ev (fun k => windhoverlaw18_GuardBrakes.l0 k b (v2 + given) p' ((i + 1 : Nat) : Int) a0 a1 a2 a3 a4 a5 a6 a7 a8 l a10 given wh z0 z1 z2 z3 z4 z5) true := by
      intro p' q0 q1 q2
      have jz : Jf ((i + 1 : Nat) : Int) = 0 := by rw [ci, e]; exact jat.2
      refine ih (i + 1) (v2 + given) p' m1 m2 (by omega) ?_ q0 q1 ?_
      · rw [jz]; omega
      · rw [jz, Int.add_zero]; exact q2
    by_cases c : v2 + given > 0
    · have st := hst p v given (v2 + given) 0 inv (by omega) (by decide) c
      rw [Int.add_zero] at st
      have sn := nn (v2 + given)
      have wq := Aside0.mk (show wrap64 (p + (v2 + given)) = p + (v2 + given) from wsm (by omega) (by omega))
      exact Ev.step (fun k => by rw [windhoverlaw18_GuardBrakes.j3, if_pos e, wg.out, if_pos c, wq.out, wi.out]) (nx _ (by omega) (by omega) (fun _ => st))
    · exact Ev.step (fun k => by rw [windhoverlaw18_GuardBrakes.j3, if_pos e, wg.out, if_neg c, wi.out]) (nx _ p0 p1 (fun h => absurd h c))
  · have jz : Jf ((i + 1 : Nat) : Int) = Jf i := by rw [ci]; exact jfar _ e
    have nx : ∀ p', -17592186044416 ≤ p' → p' ≤ B → (0 < v2 → p' + Q (v2 + Jf i) ≤ B) → Ev (fun k => windhoverlaw18_GuardBrakes.l0 k b v2 p' ((i + 1 : Nat) : Int) a0 a1 a2 a3 a4 a5 a6 a7 a8 l a10 given wh z0 z1 z2 z3 z4 z5) true := by
      intro p' q0 q1 q2
      refine ih (i + 1) v2 p' m1 m2 (by omega) ?_ q0 q1 ?_
      · rw [jz]; omega
      · rw [jz]; exact q2
    by_cases c : v2 > 0
    · have st := hst p v (Jf i) v2 (Jf i) inv (by omega) ji.1 c
      have sn := nn (v2 + Jf i)
      have wq := Aside0.mk (show wrap64 (p + v2) = p + v2 from wsm (by omega) (by omega))
      exact Ev.step (fun k => by rw [windhoverlaw18_GuardBrakes.j3, if_neg e, if_pos c, wq.out, wi.out]) (nx _ (by omega) (by omega) (fun _ => st))
    · exact Ev.step (fun k => by rw [windhoverlaw18_GuardBrakes.j3, if_neg e, if_neg c, wi.out]) (nx _ p0 p1 (fun h => absurd h c))
theorem brakes_loop {Q Jf : Int → Int} (hb : 48 ≤ b ∧ b ≤ 64) (hg : 0 ≤ given ∧ given ≤ 1000) (hB : -17592186044416 ≤ B ∧ B ≤ 17592186044416) (hx : B ≤ 6400 * z1 ∧ 6400 * z1 ≤ 17592186060000) (hy : 6400 * z2 ≤ -B ∧ -17592186060000 ≤ 6400 * z2) (hz : B ≤ 6400 * z5 ∧ 6400 * z5 ≤ 17592186060000)
    (nn : ∀ x, 0 ≤ Q x) (hst : ∀ p v J v3 J3, p + Q (v + J) ≤ B → v3 + J3 ≤ v + J - b → 0 ≤ J3 → 0 < v3 → p + v3 + Q (v3 + J3) ≤ B)
    (jin : ∀ i, 0 ≤ Jf i ∧ Jf i ≤ 1000) (jat : Jf wh = given ∧ Jf (wh + 1) = 0) (jfar : ∀ i, i ≠ wh → Jf (i + 1) = Jf i) :
    ∀ (n i : Nat) (v p : Int), 65536 ≤ i + n → i ≤ 65536 → -2097152 ≤ v → v + Jf i ≤ 2097152 → -17592186044416 ≤ p → p ≤ B → (0 < v → p + Q (v + Jf i) ≤ B) →
      Ev (fun k => windhoverlaw18_GuardBrakes.l0 k b v p (i : Int) a0 a1 a2 a3 a4 a5 a6 a7 a8 l a10 given wh z0 z1 z2 z3 z4 z5) true := by
  have w1 := Aside0.mk (show wrap64 (6400 * z1) = 6400 * z1 from wsm (by omega) (by omega))
  have w2 := Aside0.mk (show wrap64 (6400 * z2) = 6400 * z2 from wsm (by omega) (by omega))
  have w5 := Aside0.mk (show wrap64 (6400 * z5) = 6400 * z5 from wsm (by omega) (by omega))
  intro n
  induction n with
  | zero =>
    intro i v p h0 h1 _ _ _ _ _
    have hi : ¬ ((i : Int) < 65536) := by omega
    exact Ev.step (fun k => by rw [windhoverlaw18_GuardBrakes.l0, if_neg hi]) (Ev.bind awake_ev (Ev.now true))
  | succ n ih =>
    intro i v p h0 h1 v0 v1 p0 p1 inv
    by_cases hi : (i : Int) < 65536
    · have wp := Aside0.mk (show wrap64 (-p) = -p from wsm (by omega) (by omega))
      have q1 : ¬ (p > 6400 * z1) := by omega
      have q2 : ¬ (-p < 6400 * z2) := by omega
      have q5 : ¬ (p > 6400 * z5) := by omega
      refine Ev.step (fun k => by rw [windhoverlaw18_GuardBrakes.l0, if_pos hi, w1.out, if_neg q1, wp.out, w2.out, if_neg q2, w5.out, if_neg q5]) ?_
      by_cases hv : v ≤ 0
      · exact Ev.step (fun k => by rw [windhoverlaw18_GuardBrakes.j1, if_neg (by decide), if_pos hv]) (Ev.bind awake_ev (Ev.now true))
      have hv' : 0 < v := Int.not_le.1 hv
      have inv' := inv hv'
      have ji := jin i
      clear inv hx hy hz q1 q2 q5
      have wv := Aside0.mk (show wrap64 (v - b) = v - b from wsm (by omega) (by omega))
      have fin : ∀ v2, v2 ≤ v - b → v - b - 1048576 ≤ v2 → Ev (fun k => windhoverlaw18_GuardBrakes.j3 k b v2 p (i : Int) a0 a1 a2 a3 a4 a5 a6 a7 a8 l a10 given wh z0 z1 z2 z3 z4 z5) true :=
        fun v2 g1 g2 => brk_j3 hb hg hB nn hst jin jat jfar ih h0 hi hv' v1 p0 p1 inv' g1 g2
      have no : Ev (fun k => windhoverlaw18_GuardBrakes.j2 k b (v - b) p (i : Int) false a0 a1 a2 a3 a4 a5 a6 a7 a8 l a10 given wh z0 z1 z2 z3 z4 z5) true :=
        Ev.step (fun k => by rw [windhoverlaw18_GuardBrakes.j2, if_neg (by decide)]) (fin _ (Int.le_refl _) (by omega))
      by_cases hl : (i : Int) < (l.length : Int)
      · have hi0 : (0 : Int) ≤ (i : Int) := Int.natCast_nonneg i
        refine Ev.step (fun k => by rw [windhoverlaw18_GuardBrakes.j1, if_neg (by decide), if_neg hv, if_pos hl, if_pos hi0, wv.out]) ?_
        by_cases m : rd l (i : Int) > 0
        · refine Ev.congr (fun k => by rw [decide_eq_true m]) ?_
          have mb : 0 < mn (rd l (i : Int)) 1048576 ∧ mn (rd l (i : Int)) 1048576 ≤ 1048576 := by unfold mn; split <;> omega
          obtain ⟨M, hM⟩ : ∃ M, mn (rd l (i : Int)) 1048576 = M := ⟨_, rfl⟩
          rw [hM] at mb
          have hM' := Aside0.mk hM
          clear hM m
          have wm := Aside0.mk (show wrap64 (v - b - M) = v - b - M from wsm (by omega) (by omega))
          exact Ev.step (fun k => by rw [windhoverlaw18_GuardBrakes.j2, if_pos rfl, if_pos hi0, if_pos hl, hM'.out, wm.out]) (fin _ (by omega) (by omega))
        · exact Ev.congr (fun k => by rw [decide_eq_false m]) no
      · exact Ev.step (fun k => by rw [windhoverlaw18_GuardBrakes.j1, if_neg (by decide), if_neg hv, if_neg hl, wv.out]) no
    · exact Ev.step (fun k => by rw [windhoverlaw18_GuardBrakes.l0, if_neg hi]) (Ev.bind awake_ev (Ev.now true))
end
theorem sane_f {a0 a1 a2 a3 a4 a5 a6 a7 a8 : Int} {l : List Int} {a10 a11 a12 : Int} (A7 : I64 a7) : windhoverlaw18_sane.f a0 a1 a2 a3 a4 a5 a6 a7 a8 l a10 a11 a12 = some false ∨ (windhoverlaw18_sane.f a0 a1 a2 a3 a4 a5 a6 a7 a8 l a10 a11 a12 = some true ∧
    (-1099511627776 ≤ a0 ∧ a1 ≤ 1099511627776 ∧ -1048576 ≤ a2 ∧ a3 ≤ 1048576) ∧ (a0 ≤ a4 ∧ a4 ≤ a1 ∧ a2 ≤ a5 ∧ a5 ≤ a3) ∧ (0 ≤ a7 ∧ a7 ≤ 16 ∧ -64 ≤ a6 ∧ a6 ≤ 64) ∧ (-(86 + a7) ≤ a8 ∧ a8 ≤ 86 + a7) ∧ 0 ≤ a10 ∧ a10 ≤ 1000 ∧ 0 ≤ a11 ∧ a11 ≤ a10) := by
  unfold windhoverlaw18_sane.f
  by_cases c1 : a0 < -1099511627776
  · rw [if_pos c1]; exact .inl rfl
  rw [if_neg c1]
  by_cases c2 : a1 > 1099511627776
  · rw [if_pos c2]; exact .inl rfl
  rw [if_neg c2]
  by_cases c3 : a2 < -17179869184
  · rw [if_pos c3]; exact .inl rfl
  rw [if_neg c3]
  by_cases c4 : a3 > 1048576
  · rw [if_pos c4]; exact .inl rfl
  rw [if_neg c4]
  by_cases c5 : a2 < -1048576
  · rw [if_pos c5]; exact .inl rfl
  rw [if_neg c5]
  by_cases c6 : a4 < a0
  · rw [if_pos c6]; exact .inl rfl
  rw [if_neg c6]
  by_cases c7 : a4 > a1
  · rw [if_pos c7]; exact .inl rfl
  rw [if_neg c7]
  by_cases c8 : a5 < a2
  · rw [if_pos c8]; exact .inl rfl
  rw [if_neg c8]
  by_cases c9 : a5 > a3
  · rw [if_pos c9]; exact .inl rfl
  rw [if_neg c9]
  by_cases d1 : a7 ≥ 0
  rw [if_pos d1]
  by_cases d2 : a7 ≤ 16
  rw [if_pos d2]
  by_cases d3 : a6 ≥ -64
  rw [if_pos d3]
  by_cases d4 : a6 ≤ 64
  rw [if_pos d4]
  have w1 : wrap64 (86 + a7) = 86 + a7 := wsm (by omega) (by omega)
  have w2 : wrap64 (-(86 + a7)) = -(86 + a7) := wsm (by omega) (by omega)
  rw [w1, w2]
  by_cases d5 : a8 ≥ -(86 + a7)
  rw [if_pos d5]
  by_cases d6 : a8 ≤ 86 + a7
  rw [if_pos d6]
  by_cases d7 : a10 ≥ 0
  rw [if_pos d7]
  by_cases d8 : a10 ≤ 1000
  rw [if_pos d8]
  by_cases d9 : a11 ≥ 0
  rw [if_pos d9]
  by_cases d10 : a11 ≤ a10
  · rw [decide_eq_true d10]
    exact .inr ⟨rfl, ⟨by omega, by omega, by omega, by omega⟩, ⟨by omega, by omega, by omega, by omega⟩, ⟨by omega, by omega, by omega, by omega⟩, ⟨d5, d6⟩, d7, d8, d9, d10⟩
  · rw [decide_eq_false d10]; exact .inl rfl
  · rw [if_neg d9]; exact .inl rfl
  · rw [if_neg d8]; exact .inl rfl
  · rw [if_neg d7]; exact .inl rfl
  · rw [if_neg d6]; exact .inl rfl
  · rw [if_neg d5]; exact .inl rfl
  · rw [if_neg d4]; exact .inl rfl
  · rw [if_neg d3]; exact .inl rfl
  · rw [if_neg d2]; exact .inl rfl
  · rw [if_neg d1]; exact .inl rfl
theorem GuardBrakes : windhoverlaw18_GuardBrakes.Pure := by
  intro a0 a1 a2 a3 a4 a5 a6 a7 a8 l a10 a11 a12 _ _ _ _ _ _ _ h7 _ _ _ _ _ _
  have A7 := I64_of h7
  apply Ev.rounds
  rcases sane_f (a0 := a0) (a1 := a1) (a2 := a2) (a3 := a3) (a4 := a4) (a5 := a5) (a6 := a6) (a8 := a8) (l := l) (a10 := a10) (a11 := a11) (a12 := a12) A7 with h | ⟨h, ⟨p1, p2, p3, p4⟩, ⟨p5, p6, p7, p8⟩, ⟨p9, p10, p11, p12⟩, ⟨p13, p14⟩, p15, p16, p17, p18⟩
  · refine Ev.congr (fun k => by rw [windhoverlaw18_GuardBrakes.f, h]) ?_
    exact Ev.bind (f := fun k t => _) (Ev.now false) (Ev.congr (fun k => by rw [if_neg (by decide)]) (Ev.bind awake_ev (Ev.now true)))
  have w0 : wrap64 (-a0) = -a0 := wsm (by omega) (by omega)
  have w1 : wrap64 (-a1) = -a1 := wsm (by omega) (by omega)
  have w2 : wrap64 (-a2) = -a2 := wsm (by omega) (by omega)
  have w3 : wrap64 (-a3) = -a3 := wsm (by omega) (by omega)
  have w6 : wrap64 (-a6) = -a6 := wsm (by omega) (by omega)
  have w7 : wrap64 (64 - a7) = 64 - a7 := wsm (by omega) (by omega)
  have w8 : wrap64 (a5 + a6) = a5 + a6 := wsm (by omega) (by omega)
  have w9 : wrap64 (a5 + a6 + a8) = a5 + a6 + a8 := wsm (by omega) (by omega)
  have w10 : wrap64 (a4 + (a5 + a6 + a8)) = a4 + (a5 + a6 + a8) := wsm (by omega) (by omega)
  refine Ev.congr (fun k => by rw [windhoverlaw18_GuardBrakes.f, h]) ?_
  refine Ev.bind (f := fun k t => _) (Ev.now true) (Ev.congr (fun k => by rw [if_pos rfl, w0, w1, w2, w3, w6, w7, w8, w9, w10]) ?_)
  clear w0 w1 w2 w3 w6 w7 w8 w9 w10
  have r0 := reach_ev (pl := a0) (ph := a1) (vl := a2) (vh := a3) (acc := a6) (b := 64 - a7) (jolt := a10) ⟨by omega, by omega⟩ ⟨by omega, by omega⟩ ⟨by omega, by omega⟩ ⟨by omega, by omega⟩ ⟨by omega, by omega⟩ ⟨by omega, by omega⟩ ⟨by omega, by omega⟩ 0 0 0 0
  have r1 := reach_ev (pl := -a1) (ph := -a0) (vl := -a3) (vh := -a2) (acc := -a6) (b := 64 - a7) (jolt := a10) ⟨by omega, by omega⟩ ⟨by omega, by omega⟩ ⟨by omega, by omega⟩ ⟨by omega, by omega⟩ ⟨by omega, by omega⟩ ⟨by omega, by omega⟩ ⟨by omega, by omega⟩ 0 0 0 0
  rw [show (150 : Int) - (64 - a7) = 86 + a7 by omega] at r0 r1
  rw [show -(-a3 + -a6 - (86 + a7)) + a10 = a3 + a6 + (86 + a7) + a10 by omega, show -a1 + (-a3 + -a6 - (86 + a7)) = -(a1 + (a3 + a6 + (86 + a7))) by omega] at r1
  have s1 := sw_small (b := 64 - a7) (v := a3 + a6 + (86 + a7) + a10) (by omega) (by omega)
  have t1 := sw_nonneg (b := 64 - a7) (x := a3 + a6 + (86 + a7) + a10) (by omega)
  have s2 := sw_small (b := 64 - a7) (v := -(a2 + a6 - (86 + a7)) + a10) (by omega) (by omega)
  have t2 := sw_nonneg (b := 64 - a7) (x := -(a2 + a6 - (86 + a7)) + a10) (by omega)
  have s3 := sw_small (b := 64 - a7) (v := -a2 + -a6 + (86 + a7) + a10) (by omega) (by omega)
  have t3 := sw_nonneg (b := 64 - a7) (x := -a2 + -a6 + (86 + a7) + a10) (by omega)
  have m1 := sw_mono (b := 64 - a7) (by omega) _ (a5 + a6 + a8 + Jg a11 a12 0) (a3 + a6 + (86 + a7) + a10) (Nat.le_refl _) (by unfold Jg; split <;> omega)
  have j0 : 0 ≤ Jg a11 a12 0 ∧ Jg a11 a12 0 ≤ 1000 := by unfold Jg; split <;> omega
  refine Ev.bind (Reach_ev r0 r1 r0 (by unfold Sm; omega) (by unfold Sm; omega) (by unfold Sm; omega) (by unfold Sm; omega) (by unfold Sm; omega)) ?_
  clear r0 r1 s2 t2 s3 t3 h h7 A7
  dsimp only
  generalize Sw (64 - a7) (a3 + a6 + (86 + a7) + a10) = S at *
  have hm : a1 + (a3 + a6 + (86 + a7)) + S ≤ mx 0 (a1 + (a3 + a6 + (86 + a7)) + S) ∧ mx 0 (a1 + (a3 + a6 + (86 + a7)) + S) ≤ 17592186044416 ∧ 0 ≤ mx 0 (a1 + (a3 + a6 + (86 + a7)) + S) := by unfold mx; split <;> omega
  generalize mx 0 (a1 + (a3 + a6 + (86 + a7)) + S) = M at *
  rw [show -(a1 + (a3 + a6 + (86 + a7))) - S = -(a1 + (a3 + a6 + (86 + a7)) + S) by omega]
  have := brakes_loop (b := 64 - a7) (given := a11) (wh := a12) (B := a1 + (a3 + a6 + (86 + a7)) + S) (a0 := a0) (a1 := a1) (a2 := a2) (a3 := a3) (a4 := a4) (a5 := a5) (a6 := a6) (a7 := a7) (a8 := a8) (a10 := a10) (l := l) (z0 := (a0 + (a2 + a6 - (86 + a7)) - Sw (64 - a7) (-(a2 + a6 - (86 + a7)) + a10)) / 6400) (z1 := -(-(a1 + (a3 + a6 + (86 + a7)) + S) / 6400)) (z2 := -(a1 + (a3 + a6 + (86 + a7)) + S) / 6400) (z3 := -(-(-a0 + (-a2 + -a6 + (86 + a7)) + Sw (64 - a7) (-a2 + -a6 + (86 + a7) + a10)) / 6400)) (z4 := 0) (z5 := -(-M / 6400)) (Q := Sw (64 - a7)) (Jf := Jg a11 a12) ⟨by omega, by omega⟩ ⟨by omega, by omega⟩ ⟨by omega, by omega⟩ ⟨by omega, by omega⟩ ⟨by omega, by omega⟩ ⟨by omega, by omega⟩
    (fun x => sw_nonneg (by omega)) (fun p v J v3 J3 h1 h2 h3 h4 => brk_step (by omega) h1 h2 h3 h4) (Jg_in ⟨by omega, by omega⟩) (Jg_at a11 a12) (fun i h => Jg_far h) 65536 0 (a5 + a6 + a8) (a4 + (a5 + a6 + a8)) (by omega) (by omega) (by omega) (by show _ + Jg a11 a12 0 ≤ _; omega) (by omega) (by omega) (fun _ => by show _ + Sw (64 - a7) (_ + Jg a11 a12 0) ≤ _; omega)
  exact this

end Go.Proofs.Ytfpggoiopjlkiaa.Pure
