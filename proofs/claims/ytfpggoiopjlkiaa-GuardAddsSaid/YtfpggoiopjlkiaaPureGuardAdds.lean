/- The way of a velocity is what is left of it tick by tick, added up, for every velocity of up to a million ticks of braking. -/
import Derived.Test.YtfpggoiopjlkiaaPGuardAddsx6
namespace Go.Proofs.Ytfpggoiopjlkiaa.Pure
open Go.RowKit Go.Proofs.Ytfpggoiopjlkiaa.PGuardAdds Go.Proofs.YtfpggoiopjlkiaaW.PrintWords Go.Proofs.YtfpggoiopjlkiaaW.PrintLast

set_option linter.unusedVariables false
set_option linter.unusedSimpArgs false
theorem Ev.now {α : Type} (r : α) : Ev (fun _ => some r) r := ⟨0, fun _ _ => rfl⟩

theorem wsm {a : Int} (h1 : -9223372036854775808 ≤ a) (h2 : a ≤ 9223372036854775807) : wrap64 a = a := by unfold wrap64; omega
theorem ev_eq {α : Type} {g : Nat → Option α} {r s : α} (h : r = s) (e : Ev g s) : Ev g r := h ▸ e
def I64 (n : Int) : Prop := -9223372036854775808 ≤ n ∧ n ≤ 9223372036854775807

theorem I64_of {a : Int} (h : (Lit.int .i64 a).wf = true) : I64 a := by
  simp [Lit.wf, IntKind.min, IntKind.max, IntKind.signed, IntKind.bits] at h
  unfold I64; omega

theorem uw {a : Int} (h1 : 0 ≤ a) (h2 : a < 18446744073709551616) : IntKind.u64.wrap a = a := by rw [IntKind.wrap_u64]; omega
theorem and32 {a : Int} (h1 : 0 ≤ a) (h2 : a < 18446744073709551616) : Go.bits .and .u64 a 4294967295 = a % 4294967296 := by
  have := bits_mask .u64 64 (by decide) (fun n h0 h1 => by rw [IntKind.wrap_u64]; omega) 32 (by decide) a h1 (by omega)
  simpa using this
theorem prod32 {x y : Int} (hx : 0 ≤ x ∧ x ≤ 4294967295) (hy : 0 ≤ y ∧ y ≤ 4294967295) : 0 ≤ x * y ∧ x * y ≤ 18446744065119617025 := by
  refine ⟨Int.mul_nonneg hx.1 hy.1, ?_⟩
  have := Int.mul_le_mul hx.2 hy.2 hy.1 (by decide)
  omega
/-- The 128 bits of a product. -/
theorem mul64_f {a b : Int} (ha : 0 ≤ a ∧ a < 18446744073709551616) (hb : 0 ≤ b ∧ b < 18446744073709551616) : bits_Mul64.f a b = some (a * b / 18446744073709551616, a * b % 18446744073709551616) := by
  obtain ⟨p, q, rfl, hp, hq⟩ : ∃ p q : Int, a = p * 4294967296 + q ∧ (0 ≤ p ∧ p ≤ 4294967295) ∧ (0 ≤ q ∧ q ≤ 4294967295) := ⟨a / 4294967296, a % 4294967296, by omega, by omega, by omega⟩
  obtain ⟨r, s, rfl, hr, hs⟩ : ∃ r s : Int, b = r * 4294967296 + s ∧ (0 ≤ r ∧ r ≤ 4294967295) ∧ (0 ≤ s ∧ s ≤ 4294967295) := ⟨b / 4294967296, b % 4294967296, by omega, by omega, by omega⟩
  have e1 : (p * 4294967296 + q) / 4294967296 = p := by omega
  have e2 : (r * 4294967296 + s) / 4294967296 = r := by omega
  have e3 : Go.bits .and .u64 (p * 4294967296 + q) 4294967295 = q := by rw [and32 ha.1 ha.2]; omega
  have e4 : Go.bits .and .u64 (r * 4294967296 + s) 4294967295 = s := by rw [and32 hb.1 hb.2]; omega
  have hpr := prod32 hp hr
  have hps := prod32 hp hs
  have hqr := prod32 hq hr
  have hqs := prod32 hq hs
  have hx : (p * 4294967296 + q) * (r * 4294967296 + s) = p * r * 18446744073709551616 + (p * s + q * r) * 4294967296 + q * s := by
    rw [Int.add_mul, Int.mul_add, Int.mul_add]
    have a1 : p * 4294967296 * (r * 4294967296) = p * r * 18446744073709551616 := by rw [Int.mul_assoc, Int.mul_comm r, ← Int.mul_assoc 4294967296, Int.mul_comm _ r, ← Int.mul_assoc]; omega
    have a2 : p * 4294967296 * s = p * s * 4294967296 := by rw [Int.mul_assoc, Int.mul_comm 4294967296 s, ← Int.mul_assoc]
    have a3 : q * (r * 4294967296) = q * r * 4294967296 := by rw [Int.mul_assoc]
    rw [a1, a2, a3]; omega
  unfold bits_Mul64.f
  rw [e1, e2, e3, e4, hx]
  generalize p * r = A at *
  generalize p * s = B at *
  generalize q * r = C at *
  generalize q * s = D at *
  clear e1 e2 e3 e4 hx ha hb
  rw [uw (a := D) (by omega) (by omega), uw (a := B) (by omega) (by omega), uw (a := A) (by omega) (by omega), uw (a := C) (by omega) (by omega), uw (a := B + D / 4294967296) (by omega) (by omega), and32 (a := B + D / 4294967296) (by omega) (by omega), uw (a := A + _) (by omega) (by omega), uw (a := (B + D / 4294967296) % 4294967296 + C) (by omega) (by omega), uw (by omega) (by omega), IntKind.wrap_u64]
  congr 2
  omega

theorem u64_eq (a : Int) : IntKind.u64.wrap a = a % 18446744073709551616 := by rw [IntKind.wrap_u64]

theorem or_add {a b : Int} (n : Nat) (ha : 0 ≤ a) (hb : 0 ≤ b ∧ b < 2 ^ n) (h : a * 2 ^ n + b < 18446744073709551616) : Go.bits .or .u64 (a * 2 ^ n) b = a * 2 ^ n + b := by
  obtain ⟨A, rfl⟩ := Int.eq_ofNat_of_zero_le ha
  obtain ⟨B, rfl⟩ := Int.eq_ofNat_of_zero_le hb.1
  have e : (A : Int) * 2 ^ n = ((A * 2 ^ n : Nat) : Int) := by simp
  have hb2 : B < 2 ^ n := by
    have := hb.2
    rw [show (2 : Int) ^ n = ((2 ^ n : Nat) : Int) from by simp] at this
    omega
  rw [e] at h ⊢
  have o := Nat.shiftLeft_add_eq_or_of_lt hb2 A
  rw [Nat.shiftLeft_eq] at o
  generalize A * 2 ^ n = C at *
  show IntKind.u64.wrap ((BitVec.ofInt 64 (C : Int) ||| BitVec.ofInt 64 (B : Int)).toNat : Int) = _
  rw [BitVec.toNat_or, BitVec.toNat_ofInt, BitVec.toNat_ofInt]
  rw [show ((C : Int) % ((2 ^ 64 : Nat) : Int)).toNat = C from by omega, show ((B : Int) % ((2 ^ 64 : Nat) : Int)).toNat = B from by omega, ← o, u64_eq]
  omega
def Wy (v b : Int) : Int := v / b * (v % b) + b * (v / b * (v / b - 1) / 2)
def stp (v b : Int) : Int := if v < 1 ∨ b < 1 then 0 else if Wy v b > 9223372036854775807 then 9223372036854775807 else Wy v b
theorem or_comm64 (a b : Int) : Go.bits .or .u64 a b = Go.bits .or .u64 b a := by
  show Go.IntKind.u64.wrap ((BitVec.ofInt 64 a ||| BitVec.ofInt 64 b).toNat : Int) = Go.IntKind.u64.wrap ((BitVec.ofInt 64 b ||| BitVec.ofInt 64 a).toNat : Int)
  rw [BitVec.or_comm]
theorem half_or {hi lo : Int} (h : 0 ≤ hi ∧ hi ≤ 1) (l : 0 ≤ lo ∧ lo < 18446744073709551616) : Go.bits .or .u64 (lo / 2) (IntKind.u64.wrap (hi * 9223372036854775808)) = (hi * 18446744073709551616 + lo) / 2 := by
  have e : (2 : Int) ^ 63 = 9223372036854775808 := by decide
  have := or_add (a := hi) (b := lo / 2) 63 h.1 ⟨by omega, by rw [e]; omega⟩ (by rw [e]; omega)
  rw [e] at this
  rw [uw (a := hi * 9223372036854775808) (by omega) (by omega), or_comm64, this]
  omega
theorem even_q (n : Int) : ∃ T, n * (n - 1) = 2 * T := by
  rcases Int.emod_two_eq n with h | h
  · refine ⟨n / 2 * (n - 1), ?_⟩
    rw [← Int.mul_assoc, show 2 * (n / 2) = n by omega]
  · refine ⟨n * ((n - 1) / 2), ?_⟩
    rw [← Int.mul_assoc, Int.mul_comm 2 n, Int.mul_assoc, show 2 * ((n - 1) / 2) = n - 1 by omega]
theorem stop_j2 {b n r T : Int} (hn : 0 ≤ n ∧ n < 9223372036854775808) (hr : 0 ≤ r ∧ r < 9223372036854775808) (hb : 1 ≤ b ∧ b < 9223372036854775808) (hT : 0 ≤ T ∧ T < 18446744073709551616) :
    Ev (fun k => guard_Stop.j2 k b n r T) (if n * r + b * T > 9223372036854775807 then 9223372036854775807 else n * r + b * T) := by
  have m1 := mul64_f (a := n) (b := r) ⟨hn.1, by omega⟩ ⟨hr.1, by omega⟩
  have m2 := mul64_f (a := b) (b := T) ⟨by omega, by omega⟩ hT
  have p1 : 0 ≤ n * r := Int.mul_nonneg hn.1 hr.1
  have p2 : 0 ≤ b * T := Int.mul_nonneg (by omega) hT.1
  have u := uw (a := b) (by omega) (by omega)
  generalize n * r = A at *
  generalize b * T = B at *
  refine Ev.step (f := fun _ => some (if A + B > 9223372036854775807 then 9223372036854775807 else A + B)) (fun k => ?_) (Ev.now _)
  rw [guard_Stop.j2, u, m1, m2]
  show (if A / 18446744073709551616 > 0 then some 9223372036854775807 else if B / 18446744073709551616 > 0 then some 9223372036854775807 else if (max (A % 18446744073709551616) 0 + max (B % 18446744073709551616) 0) / 18446744073709551616 > 0 then some 9223372036854775807 else if (max (A % 18446744073709551616) 0 + max (B % 18446744073709551616) 0) % 18446744073709551616 > 9223372036854775807 then some 9223372036854775807 else some (wrap64 ((max (A % 18446744073709551616) 0 + max (B % 18446744073709551616) 0) % 18446744073709551616))) = _
  by_cases g : A + B > 9223372036854775807
  · rw [if_pos g]
    (repeat' split) <;> first | rfl | (exfalso; omega)
  · rw [if_neg g, if_neg (by omega), if_neg (by omega), if_neg (by omega), if_neg (by omega)]
    congr 1
    unfold wrap64
    omega
theorem stop_ev {v b : Int} (hv : v ≤ 9223372036854775807) (hb : b ≤ 9223372036854775807) : Ev (fun k => guard_Stop.f k v b) (stp v b) := by
  by_cases c1 : v < 1
  · refine Ev.congr (fun k => by rw [guard_Stop.f, if_pos c1]) ?_
    exact Ev.step (fun k => by rw [guard_Stop.j0, if_pos rfl]) (ev_eq (by unfold stp; rw [if_pos (.inl c1)]) (Ev.now 0))
  by_cases c2 : b < 1
  · refine Ev.congr (fun k => by rw [guard_Stop.f, if_neg c1, decide_eq_true c2]) ?_
    exact Ev.step (fun k => by rw [guard_Stop.j0, if_pos rfl]) (ev_eq (by unfold stp; rw [if_pos (.inr c2)]) (Ev.now 0))
  have u1 : IntKind.u64.wrap v = v := uw (by omega) (by omega)
  have u2 : IntKind.u64.wrap b = b := uw (by omega) (by omega)
  have t1 : Int.tdiv v b = v / b := Int.tdiv_eq_ediv_of_nonneg (by omega)
  have t2 : Int.tmod v b = v % b := Int.tmod_eq_emod_of_nonneg (by omega)
  have n0 : 0 ≤ v / b := Int.ediv_nonneg (by omega) (by omega)
  have n1 : v / b ≤ v := Int.ediv_le_self _ (by omega)
  have r0 : 0 ≤ v % b := Int.emod_nonneg _ (by omega)
  have r1 : v % b < b := Int.emod_lt_of_pos _ (by omega)
  have un : IntKind.u64.wrap (v / b) = v / b := uw n0 (by omega)
  refine Ev.congr (fun k => by rw [guard_Stop.f, if_neg c1, decide_eq_false c2]) ?_
  unfold stp Wy
  rw [if_neg (by omega)]
  refine Ev.step (f := fun k => if v / b = 0 then some 0 else (bits_Mul64.f (v / b) (IntKind.u64.wrap (v / b - 1))).bind fun bt => if bt.1 > 0 then guard_Stop.j1 k b (v / b) (v % b) (IntKind.u64.wrap (Int.tdiv (IntKind.u64.wrap (v / b * IntKind.u64.wrap (v / b - 1))) 2)) bt.1 bt.2 true else guard_Stop.j1 k b (v / b) (v % b) (IntKind.u64.wrap (Int.tdiv (IntKind.u64.wrap (v / b * IntKind.u64.wrap (v / b - 1))) 2)) bt.1 bt.2 (decide (bt.2 > 9223372036854775807))) (fun k => by rw [guard_Stop.j0, if_neg (by decide), u1, u2, if_neg (by omega), t1, t2, un]) ?_
  clear t1 t2 u1 u2
  generalize v / b = n at *
  generalize v % b = r at *
  by_cases z : n = 0
  · subst z
    refine Ev.congr (fun k => by rw [if_pos rfl]) (ev_eq ?_ (Ev.now 0))
    simp
  have w1 : IntKind.u64.wrap (n - 1) = n - 1 := uw (by omega) (by omega)
  have m := mul64_f (a := n) (b := n - 1) ⟨n0, by omega⟩ ⟨by omega, by omega⟩
  obtain ⟨T, hT⟩ := even_q n
  have q0 : 0 ≤ n * (n - 1) := Int.mul_nonneg n0 (by omega)
  have T0 : n * (n - 1) / 2 = T := by omega
  refine Ev.congr (fun k => by rw [if_neg z, w1, m]) ?_
  rw [T0]
  rw [hT] at m q0
  have fin : T < 18446744073709551616 → Ev (fun k => guard_Stop.j2 k b n r T) (if n * r + b * T > 9223372036854775807 then 9223372036854775807 else n * r + b * T) := fun h => stop_j2 ⟨n0, by omega⟩ ⟨r0, by omega⟩ ⟨by omega, by omega⟩ ⟨by omega, h⟩
  have big : 2 * T / 18446744073709551616 > 1 → (if n * r + b * T > 9223372036854775807 then (9223372036854775807 : Int) else n * r + b * T) = 9223372036854775807 := by
    intro h
    have p1 : 0 ≤ n * r := Int.mul_nonneg n0 r0
    have p2 : 1 * T ≤ b * T := Int.mul_le_mul_of_nonneg_right (by omega) (by omega)
    rw [if_pos (by omega)]
  have yes : ∀ P, Ev (fun k => guard_Stop.j1 k b n r P (2 * T / 18446744073709551616) (2 * T % 18446744073709551616) true) (if n * r + b * T > 9223372036854775807 then 9223372036854775807 else n * r + b * T) := by
    intro P
    by_cases h : 2 * T / 18446744073709551616 > 1
    · rw [big h]
      exact Ev.step (fun k => by rw [guard_Stop.j1, if_pos rfl, if_pos h]) (Ev.now _)
    · refine Ev.step (fun k => by rw [guard_Stop.j1, if_pos rfl, if_neg h, half_or ⟨by omega, by omega⟩ ⟨by omega, by omega⟩, show (2 * T / 18446744073709551616 * 18446744073709551616 + 2 * T % 18446744073709551616) / 2 = T by omega]) (fin (by omega))
  rw [hT]
  refine Ev.bind (f := fun k (bt : Int × Int) => if bt.1 > 0 then guard_Stop.j1 k b n r (IntKind.u64.wrap (Int.tdiv (IntKind.u64.wrap (2 * T)) 2)) bt.1 bt.2 true else guard_Stop.j1 k b n r (IntKind.u64.wrap (Int.tdiv (IntKind.u64.wrap (2 * T)) 2)) bt.1 bt.2 (decide (bt.2 > 9223372036854775807))) (Ev.now (2 * T / 18446744073709551616, 2 * T % 18446744073709551616)) ?_
  dsimp only
  by_cases h : 2 * T / 18446744073709551616 > 0
  · exact Ev.congr (fun k => by rw [if_pos h]) (yes _)
  · by_cases g : 2 * T % 18446744073709551616 > 9223372036854775807
    · exact Ev.congr (fun k => by rw [if_neg h, decide_eq_true g]) (yes _)
    · refine Ev.congr (fun k => by rw [if_neg h, decide_eq_false g]) ?_
      have e : IntKind.u64.wrap (Int.tdiv (IntKind.u64.wrap (2 * T)) 2) = T := by
        rw [uw (a := 2 * T) (by omega) (by omega), Int.tdiv_eq_ediv_of_nonneg (by omega), uw (by omega) (by omega)]
        omega
      exact Ev.step (fun k => by rw [guard_Stop.j1, if_neg (by decide), e]) (fin (by omega))

theorem wy_nonneg {v b : Int} (hv : 0 ≤ v) (hb : 1 ≤ b) : 0 ≤ Wy v b := by
  obtain ⟨T, hT⟩ := even_q (v / b)
  have n0 : 0 ≤ v / b := Int.ediv_nonneg hv (by omega)
  have q0 : 0 ≤ v / b * (v / b - 1) := by
    by_cases h : v / b = 0
    · rw [h]; decide
    · exact Int.mul_nonneg n0 (by omega)
  have r0 : 0 ≤ v % b := Int.emod_nonneg _ (by omega)
  have a1 : 0 ≤ v / b * (v % b) := Int.mul_nonneg n0 r0
  have a2 : 0 ≤ b * (v / b * (v / b - 1) / 2) := Int.mul_nonneg (by omega) (by omega)
  unfold Wy
  omega
theorem wy_step {v b : Int} (hv : 1 ≤ v) (hb : 1 ≤ b) : Wy v b = if v ≤ b then 0 else v - b + Wy (v - b) b := by
  by_cases h : v ≤ b
  · rw [if_pos h]
    unfold Wy
    by_cases e : v = b
    · subst e
      rw [Int.ediv_self (by omega), Int.emod_self]
      simp
    · rw [Int.ediv_eq_zero_of_lt (by omega) (by omega)]
      simp
  · rw [if_neg h]
    have e1 : (v - b) / b = v / b - 1 := by rw [Int.sub_ediv_of_dvd _ (Int.dvd_refl b), Int.ediv_self (by omega)]
    have e2 : (v - b) % b = v % b := by rw [Int.sub_emod_right]
    unfold Wy
    rw [e1, e2]
    have d := Int.mul_ediv_add_emod v b
    obtain ⟨T, hT⟩ := even_q (v / b)
    obtain ⟨S, hS⟩ := even_q (v / b - 1)
    have s1 : v / b * (v / b - 1) = (v / b - 1) * (v / b - 1 - 1) + 2 * (v / b - 1) := by
      rw [Int.mul_comm (v / b)]
      have : (v / b - 1) * (v / b) = (v / b - 1) * (v / b - 1 - 1 + 2) := by rw [show v / b - 1 - 1 + 2 = v / b by omega]
      rw [this, Int.mul_add]
      omega
    rw [hT, hS] at s1
    rw [hT, hS, show 2 * T / 2 = T by omega, show 2 * S / 2 = S by omega, show T = S + (v / b - 1) by omega, Int.mul_add b S, Int.sub_mul, Int.mul_sub b]
    omega
def Sw (b x : Int) : Int := if x < 1 then 0 else Wy x b
theorem sw_step {b x : Int} (hb : 1 ≤ b) : Sw b x = if x ≤ b then 0 else x - b + Sw b (x - b) := by
  unfold Sw
  by_cases h : x < 1
  · rw [if_pos h, if_pos (by omega)]
  · rw [if_neg h, wy_step (by omega) hb]
    by_cases g : x ≤ b
    · rw [if_pos g, if_pos g]
    · rw [if_neg g, if_neg g, if_neg (by omega)]
theorem sw_nonneg {b x : Int} (hb : 1 ≤ b) : 0 ≤ Sw b x := by
  unfold Sw
  split
  · decide
  · exact wy_nonneg (by omega) hb
theorem wy_le {v b N V : Int} (hv : 0 ≤ v ∧ v ≤ V) (hb : 1 ≤ b) (hn : v / b ≤ N) : Wy v b ≤ N * V + N * V := by
  have n0 : 0 ≤ v / b := Int.ediv_nonneg hv.1 (by omega)
  have r0 : 0 ≤ v % b := Int.emod_nonneg _ (by omega)
  have r1 : v % b ≤ v := by have := Int.mul_ediv_add_emod v b; have := Int.mul_nonneg (show 0 ≤ b by omega) n0; omega
  have a1 : v / b * (v % b) ≤ N * V := Int.mul_le_mul hn (by omega) r0 (by omega)
  obtain ⟨T, hT⟩ := even_q (v / b)
  have bn : b * (v / b) ≤ V := by have := Int.mul_ediv_add_emod v b; omega
  have bn0 : 0 ≤ b * (v / b) := Int.mul_nonneg (by omega) n0
  have a2 : b * (v / b) * (v / b - 1) ≤ V * N := by
    by_cases z : v / b = 0
    · rw [z]; simp; exact Int.mul_nonneg (by omega) (by omega)
    · exact Int.mul_le_mul bn (by omega) (by omega) (by omega)
  rw [Int.mul_assoc, hT, ← Int.mul_assoc, Int.mul_comm b 2, Int.mul_assoc, Int.mul_comm V N] at a2
  have v0 : 0 ≤ N * V := Int.mul_nonneg (by omega) (by omega)
  unfold Wy
  rw [hT, show 2 * T / 2 = T by omega]
  omega

theorem awake_ev : Ev (fun k => windhoverlaw18_awake.f k) true := by
  have h : windhoverlaw18_awake.f 60 = some true := by decide +kernel
  exact Ev.of (fun k => windhoverlaw18_awake.mono k) h
theorem adds_loop {v b : Int} (hv : 1 ≤ v ∧ v ≤ 1099511627776) (hb : 1 ≤ b ∧ b ≤ 9223372036854775807) (hw : Wy v b ≤ 2305843009213693952) : ∀ (n : Nat) (s L : Int), L.toNat ≤ n → 0 ≤ s → -9223372036854775807 ≤ L → L ≤ v →
    s + (if L > 0 then L + Sw b L else 0) = Wy v b → Ev (fun k => windhoverlaw18_GuardAdds.l0 k v b s L) true := by
  have fin : ∀ s L, ¬ L > 0 → s = Wy v b → Ev (fun k => windhoverlaw18_GuardAdds.l0 k v b s L) true := by
    intro s L h e
    have st := stop_ev (v := v) (b := b) (by omega) hb.2
    have e2 : stp v b = s := by
      unfold stp
      rw [if_neg (by omega), if_neg (by omega), e]
    rw [e2] at st
    refine Ev.step (fun k => by rw [windhoverlaw18_GuardAdds.l0, if_neg h]) (Ev.bind st ?_)
    exact Ev.congr (fun k => by rw [if_pos rfl]) (Ev.bind awake_ev (Ev.now true))
  intro n
  induction n with
  | zero =>
    intro s L h1 h2 h3 h4 h5
    rw [if_neg (by omega)] at h5
    exact fin s L (by omega) (by omega)
  | succ n ih =>
    intro s L h1 h2 h3 h4 h5
    by_cases g : L > 0
    · rw [if_pos g] at h5
      have s0 := sw_nonneg (x := L) hb.1
      have st := sw_step (x := L) hb.1
      have w1 : wrap64 (s + L) = s + L := wsm (by omega) (by omega)
      have w2 : wrap64 (L - b) = L - b := wsm (by omega) (by omega)
      refine Ev.step (fun k => by rw [windhoverlaw18_GuardAdds.l0, if_pos g, w1, w2]) (ih _ _ (by omega) (by omega) (by omega) (by omega) ?_)
      by_cases c : L ≤ b
      · rw [if_pos c] at st
        rw [if_neg (by omega)]
        omega
      · rw [if_neg c] at st
        rw [if_pos (by omega)]
        omega
    · rw [if_neg g] at h5
      exact fin s L g (by omega)
theorem GuardAdds : windhoverlaw18_GuardAdds.Pure := by
  intro v b hv hb
  have V := I64_of hv
  have B := I64_of hb
  unfold I64 at V B
  apply Ev.rounds
  have yes : ∀ x0 x1, Ev (fun k => windhoverlaw18_GuardAdds.j0 k x0 x1 true) true := by
    intro x0 x1
    exact Ev.step (fun k => by rw [windhoverlaw18_GuardAdds.j0, if_pos rfl]) (Ev.bind awake_ev (Ev.now true))
  by_cases c1 : v < 1
  · exact Ev.congr (fun k => by rw [windhoverlaw18_GuardAdds.f, if_pos c1]) (yes _ _)
  by_cases c2 : b < 1
  · exact Ev.congr (fun k => by rw [windhoverlaw18_GuardAdds.f, if_neg c1, if_pos c2]) (yes _ _)
  have n0 : 0 ≤ v / b := Int.ediv_nonneg (by omega) (by omega)
  have n1 : v / b ≤ v := Int.ediv_le_self _ (by omega)
  have e : wrap64 (Int.tdiv v b) = v / b := by rw [Int.tdiv_eq_ediv_of_nonneg (by omega), wsm (by omega) (by omega)]
  by_cases c3 : v / b > 1048576
  · exact Ev.congr (fun k => by rw [windhoverlaw18_GuardAdds.f, if_neg c1, if_neg c2, if_neg (by omega), e, if_pos c3]) (yes _ _)
  by_cases c4 : v > 1099511627776
  · exact Ev.congr (fun k => by rw [windhoverlaw18_GuardAdds.f, if_neg c1, if_neg c2, if_neg (by omega), e, if_neg c3, decide_eq_true c4]) (yes _ _)
  refine Ev.congr (fun k => by rw [windhoverlaw18_GuardAdds.f, if_neg c1, if_neg c2, if_neg (by omega), e, if_neg c3, decide_eq_false c4]) ?_
  have w0 : wrap64 (v - b) = v - b := wsm (by omega) (by omega)
  have wl := wy_le (v := v) (b := b) (N := 1048576) (V := 1099511627776) ⟨by omega, by omega⟩ (by omega) (by omega)
  refine Ev.step (fun k => by rw [windhoverlaw18_GuardAdds.j0, if_neg (by decide), w0]) (adds_loop ⟨by omega, by omega⟩ ⟨by omega, by omega⟩ (by omega) _ 0 (v - b) (Nat.le_refl _) (by decide) (by omega) (by omega) ?_)
  have st := sw_step (x := v) (b := b) (by omega)
  have sv : Sw b v = Wy v b := by unfold Sw; rw [if_neg c1]
  rw [sv] at st
  rw [st]
  by_cases c : v ≤ b
  · rw [if_pos c, if_neg (by omega)]; decide
  · rw [if_neg c, if_pos (by omega)]; omega

end Go.Proofs.Ytfpggoiopjlkiaa.Pure
