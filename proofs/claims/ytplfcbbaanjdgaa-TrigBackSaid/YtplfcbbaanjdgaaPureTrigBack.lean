/- The angle of a direction that was made of an angle is that angle but for one part, for every angle and every length from 1 to 2^40. -/
import Derived.Test.YtplfcbbaanjdgaaPTrigBackx4
namespace Go.Proofs.Ytplfcbbaanjdgaa.Pure
open Go.RowKit Go.Proofs.Ytplfcbbaanjdgaa.PTrigBack Go.Proofs.YtplfcbbaanjdgaaW.PrintWords Go.Proofs.YtplfcbbaanjdgaaW.PrintLast

set_option linter.unusedVariables false
set_option linter.unusedSimpArgs false
theorem Ev.now {α : Type} (r : α) : Ev (fun _ => some r) r := ⟨0, fun _ _ => rfl⟩

theorem wsm {a : Int} (h1 : -9223372036854775808 ≤ a) (h2 : a ≤ 9223372036854775807) : wrap64 a = a := by unfold wrap64; omega
theorem ev_eq {α : Type} {g : Nat → Option α} {r s : α} (h : r = s) (e : Ev g s) : Ev g r := h ▸ e
def I64 (n : Int) : Prop := -9223372036854775808 ≤ n ∧ n ≤ 9223372036854775807

theorem awake_ev : Ev (fun k => windhoverlaw02_awake.f k) true := by
  have h : windhoverlaw02_awake.f 40 = some true := by decide +kernel
  exact Ev.of (fun k => windhoverlaw02_awake.mono k) h
theorem and_low (a : Int) (n : Nat) (h : n ≤ 62) : Go.bits .and .i64 a (2 ^ n - 1) = a % 2 ^ n := by
  have pw : ∀ n : Fin 63, (2 : Int) ^ n.val = ((2 ^ n.val : Nat) : Int) ∧ (2 ^ n.val : Nat) ≤ 4611686018427387904 ∧ 18446744073709551616 % (2 ^ n.val : Nat) = 0 := by decide +kernel
  obtain ⟨p1, p2, p3⟩ := pw ⟨n, by omega⟩
  have p4 : 0 < (2 ^ n : Nat) := Nat.two_pow_pos n
  have h1 : (BitVec.ofInt 64 (2 ^ n - 1)).toNat = 2 ^ n - 1 := by
    rw [BitVec.toNat_ofInt, p1]
    simp only at p2
    generalize (2 ^ n : Nat) = P at *
    omega
  show Go.IntKind.i64.wrap ((BitVec.ofInt 64 a &&& BitVec.ofInt 64 (2 ^ n - 1)).toNat : Int) = _
  rw [BitVec.toNat_and, h1, Nat.and_two_pow_sub_one_eq_mod, BitVec.toNat_ofInt, p1]
  simp only at p2 p3
  have d : ((2 ^ n : Nat) : Int) ∣ 18446744073709551616 := by
    have : (2 ^ n : Nat) ∣ 18446744073709551616 := Nat.dvd_of_mod_eq_zero p3
    exact Int.natCast_dvd_natCast.mpr this
  have e : (((a % ((2 ^ 64 : Nat) : Int)).toNat % 2 ^ n : Nat) : Int) = a % ((2 ^ n : Nat) : Int) := by
    rw [Int.natCast_emod, Int.toNat_of_nonneg (Int.emod_nonneg _ (by decide))]
    exact Int.emod_emod_of_dvd a d
  rw [e, IntKind.wrap_i64]
  have q0 := Int.emod_nonneg a (show ((2 ^ n : Nat) : Int) ≠ 0 by omega)
  have q1 := Int.emod_lt_of_pos a (show (0 : Int) < ((2 ^ n : Nat) : Int) by omega)
  generalize a % ((2 ^ n : Nat) : Int) = z at *
  omega
theorem and_16 (a : Int) : Go.bits .and .i64 a 65535 = a % 65536 := and_low a 16 (by decide)
theorem and_14 (a : Int) : Go.bits .and .i64 a 16383 = a % 16384 := and_low a 14 (by decide)
def Tb (i : Int) : Int := rd trig_sine.ns i
theorem tab_all : ∀ i : Fin 65, 0 ≤ Tb i.val ∧ Tb i.val ≤ Tb (mn ((i.val : Int) + 1) 64) ∧ Tb (mn ((i.val : Int) + 1) 64) ≤ 16384 := by decide +kernel
theorem tab_at (i : Int) (h0 : 0 ≤ i) (h1 : i < 65) : 0 ≤ Tb i ∧ Tb i ≤ Tb (mn (i + 1) 64) ∧ Tb (mn (i + 1) 64) ≤ 16384 := by
  have := tab_all ⟨i.toNat, by omega⟩
  rw [show ((i.toNat : Nat) : Int) = i from by omega] at this
  exact this
def S (r : Int) : Int := Tb (r / 256) + ((Tb (mn (r / 256 + 1) 64) - Tb (r / 256)) * (r % 256) + 128) / 256
theorem S_in {r : Int} (h0 : 0 ≤ r) (h1 : r ≤ 16384) : 0 ≤ S r ∧ S r ≤ 16384 ∧ 0 ≤ (Tb (mn (r / 256 + 1) 64) - Tb (r / 256)) * (r % 256) ∧ (Tb (mn (r / 256 + 1) 64) - Tb (r / 256)) * (r % 256) ≤ 16384 * 255 := by
  obtain ⟨t0, t1, t2⟩ := tab_at (r / 256) (by omega) (by omega)
  unfold S
  generalize Tb (mn (r / 256 + 1) 64) = B at *
  generalize Tb (r / 256) = A at *
  have m1 : (B - A) * (r % 256) ≤ (B - A) * 255 := Int.mul_le_mul_of_nonneg_left (by omega) (by omega)
  have m0 : 0 ≤ (B - A) * (r % 256) := Int.mul_nonneg (by omega) (by omega)
  generalize (B - A) * (r % 256) = p at *
  omega
theorem sine_f {r : Int} (h0 : 0 ≤ r) (h1 : r ≤ 16384) : trig_sine.f r = some (S r) := by
  obtain ⟨t0, t1, t2⟩ := tab_at (r / 256) (by omega) (by omega)
  obtain ⟨s0, s1, s2, s3⟩ := S_in h0 h1
  rw [trig_sine.f, if_pos ⟨h0, h1⟩, trig_between.f]
  unfold S at s0 s1 ⊢
  show some (wrap64 (wrap64 (Tb (r / 256)) + wrap64 (wrap64 (wrap64 (IntKind.u16.wrap (Tb (mn (r / 256 + 1) 64) - Tb (r / 256))) * (r % 256)) + 128) / 256)) = _
  generalize Tb (mn (r / 256 + 1) 64) = B at *
  generalize Tb (r / 256) = A at *
  have u : IntKind.u16.wrap (B - A) = B - A := by rw [IntKind.wrap_u16]; omega
  rw [u, wsm (a := A) (by omega) (by omega), wsm (a := B - A) (by omega) (by omega)]
  generalize (B - A) * (r % 256) = p at *
  rw [wsm (a := p) (by omega) (by omega), wsm (a := p + 128) (by omega) (by omega), wsm (by omega) (by omega)]
def sn (x : Int) : Int := if x / 16384 = 0 then S (x % 16384) else if x / 16384 = 1 then S (16384 - x % 16384) else if x / 16384 = 2 then -S (x % 16384) else -S (16384 - x % 16384)
theorem sin_f (a : Int) : trig_Sin.f a = some (sn (a % 65536)) := by
  have e0 : a % 65536 % 16384 = a % 16384 := by omega
  have e1 : Int.tdiv (a % 65536) 16384 = a % 65536 / 16384 := Int.tdiv_eq_ediv_of_nonneg (by omega)
  have e2 : wrap64 (a % 65536 / 16384) = a % 65536 / 16384 := wsm (by omega) (by omega)
  have e3 : wrap64 (16384 - a % 16384) = 16384 - a % 16384 := wsm (by omega) (by omega)
  have s1 := sine_f (r := a % 16384) (by omega) (by omega)
  have s2 := sine_f (r := 16384 - a % 16384) (by omega) (by omega)
  have b1 := S_in (r := a % 16384) (by omega) (by omega)
  have b2 := S_in (r := 16384 - a % 16384) (by omega) (by omega)
  rw [trig_Sin.f, and_16, and_14, e1, e2, e3, s1, s2]
  unfold sn
  rw [e0]
  by_cases c0 : a % 65536 / 16384 = 0
  · rw [if_pos c0, if_pos c0]; rfl
  · rw [if_neg c0, if_neg c0]
    by_cases c1 : a % 65536 / 16384 = 1
    · rw [if_pos c1, if_pos c1]; rfl
    · rw [if_neg c1, if_neg c1]
      by_cases c2 : a % 65536 / 16384 = 2
      · rw [if_pos c2, if_pos c2]
        show some (wrap64 (-S (a % 16384))) = _
        rw [wsm (by omega) (by omega)]
      · rw [if_neg c2, if_neg c2]
        show some (wrap64 (-S (16384 - a % 16384))) = _
        rw [wsm (by omega) (by omega)]
theorem cos_f (a : Int) : trig_Cos.f a = some (sn ((a + 16384) % 65536)) := by
  have : wrap64 (a + 16384) % 65536 = (a + 16384) % 65536 := by unfold wrap64; omega
  rw [trig_Cos.f, sin_f, this]; rfl
theorem sn_in (x : Int) : -16384 ≤ sn x ∧ sn x ≤ 16384 := by
  have b1 := S_in (r := x % 16384) (by omega) (by omega)
  have b2 := S_in (r := 16384 - x % 16384) (by omega) (by omega)
  unfold sn
  split
  · omega
  · split
    · omega
    · split <;> omega

theorem uw {a : Int} (h1 : 0 ≤ a) (h2 : a < 18446744073709551616) : IntKind.u64.wrap a = a := by rw [IntKind.wrap_u64]; omega
theorem and32 {a : Int} (h1 : 0 ≤ a) (h2 : a < 18446744073709551616) : Go.bits .and .u64 a 4294967295 = a % 4294967296 := by
  have := bits_mask .u64 64 (by decide) (fun n h0 h1 => by rw [IntKind.wrap_u64]; omega) 32 (by decide) a h1 (by omega)
  simpa using this
theorem prod32 {x y : Int} (hx : 0 ≤ x ∧ x ≤ 4294967295) (hy : 0 ≤ y ∧ y ≤ 4294967295) : 0 ≤ x * y ∧ x * y ≤ 18446744065119617025 := by
  refine ⟨Int.mul_nonneg hx.1 hy.1, ?_⟩
  have := Int.mul_le_mul hx.2 hy.2 hy.1 (by decide)
  omega
/-- The 128 bits of a product. -/
theorem mul64_f {a b : Int} (ha : 0 ≤ a ∧ a < 18446744073709551616) (hb : 0 ≤ b ∧ b < 18446744073709551616) : bits_Mul64.f a b = some (a * b / 18446744073709551616, a * b % 18446744073709551616) := by
  obtain ⟨p, q, rfl, hp, hq⟩ : ∃ p q : Int, a = p * 4294967296 + q ∧ (0 ≤ p ∧ p ≤ 4294967295) ∧ (0 ≤ q ∧ q ≤ 4294967295) := ⟨a / 4294967296, a % 4294967296, by omega, by omega, by omega⟩
  obtain ⟨r, s, rfl, hr, hs⟩ : ∃ r s : Int, b = r * 4294967296 + s ∧ (0 ≤ r ∧ r ≤ 4294967295) ∧ (0 ≤ s ∧ s ≤ 4294967295) := ⟨b / 4294967296, b % 4294967296, by omega, by omega, by omega⟩
  have e1 : (p * 4294967296 + q) / 4294967296 = p := by omega
  have e2 : (r * 4294967296 + s) / 4294967296 = r := by omega
  have e3 : Go.bits .and .u64 (p * 4294967296 + q) 4294967295 = q := by rw [and32 ha.1 ha.2]; omega
  have e4 : Go.bits .and .u64 (r * 4294967296 + s) 4294967295 = s := by rw [and32 hb.1 hb.2]; omega
  have hpr := prod32 hp hr
  have hps := prod32 hp hs
  have hqr := prod32 hq hr
  have hqs := prod32 hq hs
  have hx : (p * 4294967296 + q) * (r * 4294967296 + s) = p * r * 18446744073709551616 + (p * s + q * r) * 4294967296 + q * s := by
    rw [Int.add_mul, Int.mul_add, Int.mul_add]
    have a1 : p * 4294967296 * (r * 4294967296) = p * r * 18446744073709551616 := by rw [Int.mul_assoc, Int.mul_comm r, ← Int.mul_assoc 4294967296, Int.mul_comm _ r, ← Int.mul_assoc]; omega
    have a2 : p * 4294967296 * s = p * s * 4294967296 := by rw [Int.mul_assoc, Int.mul_comm 4294967296 s, ← Int.mul_assoc]
    have a3 : q * (r * 4294967296) = q * r * 4294967296 := by rw [Int.mul_assoc]
    rw [a1, a2, a3]; omega
  unfold bits_Mul64.f
  rw [e1, e2, e3, e4, hx]
  generalize p * r = A at *
  generalize p * s = B at *
  generalize q * r = C at *
  generalize q * s = D at *
  clear e1 e2 e3 e4 hx ha hb
  rw [uw (a := D) (by omega) (by omega), uw (a := B) (by omega) (by omega), uw (a := A) (by omega) (by omega), uw (a := C) (by omega) (by omega), uw (a := B + D / 4294967296) (by omega) (by omega), and32 (a := B + D / 4294967296) (by omega) (by omega), uw (a := A + _) (by omega) (by omega), uw (a := (B + D / 4294967296) % 4294967296 + C) (by omega) (by omega), uw (by omega) (by omega), IntKind.wrap_u64]
  congr 2
  omega

theorem tab_fin2 : ∀ i : Fin 256, 0 ≤ bt (⟨#[0, 1, 2, 2, 3, 3, 3, 3, 4, 4, 4, 4, 4, 4, 4, 4, 5, 5, 5, 5, 5, 5, 5, 5, 5, 5, 5, 5, 5, 5, 5, 5, 6, 6, 6, 6, 6, 6, 6, 6, 6, 6, 6, 6, 6, 6, 6, 6, 6, 6, 6, 6, 6, 6, 6, 6, 6, 6, 6, 6, 6, 6, 6, 6, 7, 7, 7, 7, 7, 7, 7, 7, 7, 7, 7, 7, 7, 7, 7, 7, 7, 7, 7, 7, 7, 7, 7, 7, 7, 7, 7, 7, 7, 7, 7, 7, 7, 7, 7, 7, 7, 7, 7, 7, 7, 7, 7, 7, 7, 7, 7, 7, 7, 7, 7, 7, 7, 7, 7, 7, 7, 7, 7, 7, 7, 7, 7, 7, 8, 8, 8, 8, 8, 8, 8, 8, 8, 8, 8, 8, 8, 8, 8, 8, 8, 8, 8, 8, 8, 8, 8, 8, 8, 8, 8, 8, 8, 8, 8, 8, 8, 8, 8, 8, 8, 8, 8, 8, 8, 8, 8, 8, 8, 8, 8, 8, 8, 8, 8, 8, 8, 8, 8, 8, 8, 8, 8, 8, 8, 8, 8, 8, 8, 8, 8, 8, 8, 8, 8, 8, 8, 8, 8, 8, 8, 8, 8, 8, 8, 8, 8, 8, 8, 8, 8, 8, 8, 8, 8, 8, 8, 8, 8, 8, 8, 8, 8, 8, 8, 8, 8, 8, 8, 8, 8, 8, 8, 8, 8, 8, 8, 8, 8, 8, 8, 8, 8, 8, 8, 8, 8, 8, 8, 8, 8, 8]⟩ : ByteArray) (i.val : Int) ∧ bt (⟨#[0, 1, 2, 2, 3, 3, 3, 3, 4, 4, 4, 4, 4, 4, 4, 4, 5, 5, 5, 5, 5, 5, 5, 5, 5, 5, 5, 5, 5, 5, 5, 5, 6, 6, 6, 6, 6, 6, 6, 6, 6, 6, 6, 6, 6, 6, 6, 6, 6, 6, 6, 6, 6, 6, 6, 6, 6, 6, 6, 6, 6, 6, 6, 6, 7, 7, 7, 7, 7, 7, 7, 7, 7, 7, 7, 7, 7, 7, 7, 7, 7, 7, 7, 7, 7, 7, 7, 7, 7, 7, 7, 7, 7, 7, 7, 7, 7, 7, 7, 7, 7, 7, 7, 7, 7, 7, 7, 7, 7, 7, 7, 7, 7, 7, 7, 7, 7, 7, 7, 7, 7, 7, 7, 7, 7, 7, 7, 7, 8, 8, 8, 8, 8, 8, 8, 8, 8, 8, 8, 8, 8, 8, 8, 8, 8, 8, 8, 8, 8, 8, 8, 8, 8, 8, 8, 8, 8, 8, 8, 8, 8, 8, 8, 8, 8, 8, 8, 8, 8, 8, 8, 8, 8, 8, 8, 8, 8, 8, 8, 8, 8, 8, 8, 8, 8, 8, 8, 8, 8, 8, 8, 8, 8, 8, 8, 8, 8, 8, 8, 8, 8, 8, 8, 8, 8, 8, 8, 8, 8, 8, 8, 8, 8, 8, 8, 8, 8, 8, 8, 8, 8, 8, 8, 8, 8, 8, 8, 8, 8, 8, 8, 8, 8, 8, 8, 8, 8, 8, 8, 8, 8, 8, 8, 8, 8, 8, 8, 8, 8, 8, 8, 8, 8, 8, 8, 8]⟩ : ByteArray) (i.val : Int) ≤ 8 ∧ (i.val : Int) < 2 ^ (bt (⟨#[0, 1, 2, 2, 3, 3, 3, 3, 4, 4, 4, 4, 4, 4, 4, 4, 5, 5, 5, 5, 5, 5, 5, 5, 5, 5, 5, 5, 5, 5, 5, 5, 6, 6, 6, 6, 6, 6, 6, 6, 6, 6, 6, 6, 6, 6, 6, 6, 6, 6, 6, 6, 6, 6, 6, 6, 6, 6, 6, 6, 6, 6, 6, 6, 7, 7, 7, 7, 7, 7, 7, 7, 7, 7, 7, 7, 7, 7, 7, 7, 7, 7, 7, 7, 7, 7, 7, 7, 7, 7, 7, 7, 7, 7, 7, 7, 7, 7, 7, 7, 7, 7, 7, 7, 7, 7, 7, 7, 7, 7, 7, 7, 7, 7, 7, 7, 7, 7, 7, 7, 7, 7, 7, 7, 7, 7, 7, 7, 8, 8, 8, 8, 8, 8, 8, 8, 8, 8, 8, 8, 8, 8, 8, 8, 8, 8, 8, 8, 8, 8, 8, 8, 8, 8, 8, 8, 8, 8, 8, 8, 8, 8, 8, 8, 8, 8, 8, 8, 8, 8, 8, 8, 8, 8, 8, 8, 8, 8, 8, 8, 8, 8, 8, 8, 8, 8, 8, 8, 8, 8, 8, 8, 8, 8, 8, 8, 8, 8, 8, 8, 8, 8, 8, 8, 8, 8, 8, 8, 8, 8, 8, 8, 8, 8, 8, 8, 8, 8, 8, 8, 8, 8, 8, 8, 8, 8, 8, 8, 8, 8, 8, 8, 8, 8, 8, 8, 8, 8, 8, 8, 8, 8, 8, 8, 8, 8, 8, 8, 8, 8, 8, 8, 8, 8, 8, 8]⟩ : ByteArray) (i.val : Int)).toNat ∧ (1 ≤ (i.val : Int) → 2 ^ (bt (⟨#[0, 1, 2, 2, 3, 3, 3, 3, 4, 4, 4, 4, 4, 4, 4, 4, 5, 5, 5, 5, 5, 5, 5, 5, 5, 5, 5, 5, 5, 5, 5, 5, 6, 6, 6, 6, 6, 6, 6, 6, 6, 6, 6, 6, 6, 6, 6, 6, 6, 6, 6, 6, 6, 6, 6, 6, 6, 6, 6, 6, 6, 6, 6, 6, 7, 7, 7, 7, 7, 7, 7, 7, 7, 7, 7, 7, 7, 7, 7, 7, 7, 7, 7, 7, 7, 7, 7, 7, 7, 7, 7, 7, 7, 7, 7, 7, 7, 7, 7, 7, 7, 7, 7, 7, 7, 7, 7, 7, 7, 7, 7, 7, 7, 7, 7, 7, 7, 7, 7, 7, 7, 7, 7, 7, 7, 7, 7, 7, 8, 8, 8, 8, 8, 8, 8, 8, 8, 8, 8, 8, 8, 8, 8, 8, 8, 8, 8, 8, 8, 8, 8, 8, 8, 8, 8, 8, 8, 8, 8, 8, 8, 8, 8, 8, 8, 8, 8, 8, 8, 8, 8, 8, 8, 8, 8, 8, 8, 8, 8, 8, 8, 8, 8, 8, 8, 8, 8, 8, 8, 8, 8, 8, 8, 8, 8, 8, 8, 8, 8, 8, 8, 8, 8, 8, 8, 8, 8, 8, 8, 8, 8, 8, 8, 8, 8, 8, 8, 8, 8, 8, 8, 8, 8, 8, 8, 8, 8, 8, 8, 8, 8, 8, 8, 8, 8, 8, 8, 8, 8, 8, 8, 8, 8, 8, 8, 8, 8, 8, 8, 8, 8, 8, 8, 8, 8, 8]⟩ : ByteArray) (i.val : Int)).toNat ≤ 2 * (i.val : Int)) := by decide +kernel
theorem tab_ok2 (i : Int) (h0 : 0 ≤ i) (h1 : i < 256) : ∃ m : Nat, m ≤ 8 ∧ bt (⟨#[0, 1, 2, 2, 3, 3, 3, 3, 4, 4, 4, 4, 4, 4, 4, 4, 5, 5, 5, 5, 5, 5, 5, 5, 5, 5, 5, 5, 5, 5, 5, 5, 6, 6, 6, 6, 6, 6, 6, 6, 6, 6, 6, 6, 6, 6, 6, 6, 6, 6, 6, 6, 6, 6, 6, 6, 6, 6, 6, 6, 6, 6, 6, 6, 7, 7, 7, 7, 7, 7, 7, 7, 7, 7, 7, 7, 7, 7, 7, 7, 7, 7, 7, 7, 7, 7, 7, 7, 7, 7, 7, 7, 7, 7, 7, 7, 7, 7, 7, 7, 7, 7, 7, 7, 7, 7, 7, 7, 7, 7, 7, 7, 7, 7, 7, 7, 7, 7, 7, 7, 7, 7, 7, 7, 7, 7, 7, 7, 8, 8, 8, 8, 8, 8, 8, 8, 8, 8, 8, 8, 8, 8, 8, 8, 8, 8, 8, 8, 8, 8, 8, 8, 8, 8, 8, 8, 8, 8, 8, 8, 8, 8, 8, 8, 8, 8, 8, 8, 8, 8, 8, 8, 8, 8, 8, 8, 8, 8, 8, 8, 8, 8, 8, 8, 8, 8, 8, 8, 8, 8, 8, 8, 8, 8, 8, 8, 8, 8, 8, 8, 8, 8, 8, 8, 8, 8, 8, 8, 8, 8, 8, 8, 8, 8, 8, 8, 8, 8, 8, 8, 8, 8, 8, 8, 8, 8, 8, 8, 8, 8, 8, 8, 8, 8, 8, 8, 8, 8, 8, 8, 8, 8, 8, 8, 8, 8, 8, 8, 8, 8, 8, 8, 8, 8, 8, 8]⟩ : ByteArray) i = (m : Int) ∧ i < 2 ^ m ∧ (1 ≤ i → 2 ^ m ≤ 2 * i) := by
  have h := tab_fin2 ⟨i.toNat, by omega⟩
  rw [show ((i.toNat : Nat) : Int) = i from by omega] at h
  exact ⟨(bt (⟨#[0, 1, 2, 2, 3, 3, 3, 3, 4, 4, 4, 4, 4, 4, 4, 4, 5, 5, 5, 5, 5, 5, 5, 5, 5, 5, 5, 5, 5, 5, 5, 5, 6, 6, 6, 6, 6, 6, 6, 6, 6, 6, 6, 6, 6, 6, 6, 6, 6, 6, 6, 6, 6, 6, 6, 6, 6, 6, 6, 6, 6, 6, 6, 6, 7, 7, 7, 7, 7, 7, 7, 7, 7, 7, 7, 7, 7, 7, 7, 7, 7, 7, 7, 7, 7, 7, 7, 7, 7, 7, 7, 7, 7, 7, 7, 7, 7, 7, 7, 7, 7, 7, 7, 7, 7, 7, 7, 7, 7, 7, 7, 7, 7, 7, 7, 7, 7, 7, 7, 7, 7, 7, 7, 7, 7, 7, 7, 7, 8, 8, 8, 8, 8, 8, 8, 8, 8, 8, 8, 8, 8, 8, 8, 8, 8, 8, 8, 8, 8, 8, 8, 8, 8, 8, 8, 8, 8, 8, 8, 8, 8, 8, 8, 8, 8, 8, 8, 8, 8, 8, 8, 8, 8, 8, 8, 8, 8, 8, 8, 8, 8, 8, 8, 8, 8, 8, 8, 8, 8, 8, 8, 8, 8, 8, 8, 8, 8, 8, 8, 8, 8, 8, 8, 8, 8, 8, 8, 8, 8, 8, 8, 8, 8, 8, 8, 8, 8, 8, 8, 8, 8, 8, 8, 8, 8, 8, 8, 8, 8, 8, 8, 8, 8, 8, 8, 8, 8, 8, 8, 8, 8, 8, 8, 8, 8, 8, 8, 8, 8, 8, 8, 8, 8, 8, 8, 8]⟩ : ByteArray) i).toNat, by omega, by omega, h.2.2⟩
theorem len_j2 {x y : Int} (hx : 0 ≤ x ∧ x < 4294967296) (hy : 0 ≤ y ∧ y ≤ 32) : ∃ m : Nat, m ≤ 32 ∧ x < 2 ^ m ∧ (1 ≤ x → 2 ^ m ≤ 2 * x) ∧ Ev (fun k => bits_Len64.j0 k x y) (y + m) := by
  have st : ∀ r : Int, (∀ k, bits_Len64.j0 (k + 1) x y = some r) → Ev (fun k => bits_Len64.j0 k x y) r := fun r h => Ev.step (f := fun _ => some r) h (Ev.now _)
  by_cases h1 : x ≥ 65536
  · by_cases h2 : x / 65536 ≥ 256
    · obtain ⟨m, m8, e, l, l'⟩ := tab_ok2 ((x / 65536 / 256) % 256) (by omega) (by omega)
      refine ⟨m + 24, by omega, ?_, ?_, st _ fun k => ?_⟩
      · rw [Int.pow_add, show (2 : Int) ^ 24 = 16777216 from by decide]; omega
      · rw [Int.pow_add, show (2 : Int) ^ 24 = 16777216 from by decide]; omega
      · rw [bits_Len64.j0, if_pos h1, if_pos h2, if_pos (by omega), if_pos (by omega), e, wsm (a := y + 16) (by omega) (by omega), wsm (a := y + 16 + 8) (by omega) (by omega), wsm (a := (m : Int)) (by omega) (by omega), wsm (by omega) (by omega)]
        exact congrArg some (by clear e; omega)
    · obtain ⟨m, m8, e, l, l'⟩ := tab_ok2 ((x / 65536) % 256) (by omega) (by omega)
      refine ⟨m + 16, by omega, ?_, ?_, st _ fun k => ?_⟩
      · rw [Int.pow_add, show (2 : Int) ^ 16 = 65536 from by decide]; omega
      · rw [Int.pow_add, show (2 : Int) ^ 16 = 65536 from by decide]; omega
      · rw [bits_Len64.j0, if_pos h1, if_neg h2, if_pos (by omega), if_pos (by omega), e, wsm (a := y + 16) (by omega) (by omega), wsm (a := (m : Int)) (by omega) (by omega), wsm (by omega) (by omega)]
        exact congrArg some (by clear e; omega)
  · by_cases h2 : x ≥ 256
    · obtain ⟨m, m8, e, l, l'⟩ := tab_ok2 ((x / 256) % 256) (by omega) (by omega)
      refine ⟨m + 8, by omega, ?_, ?_, st _ fun k => ?_⟩
      · rw [Int.pow_add, show (2 : Int) ^ 8 = 256 from by decide]; omega
      · rw [Int.pow_add, show (2 : Int) ^ 8 = 256 from by decide]; omega
      · rw [bits_Len64.j0, if_neg h1, if_pos h2, if_pos (by omega), if_pos (by omega), e, wsm (a := y + 8) (by omega) (by omega), wsm (a := (m : Int)) (by omega) (by omega), wsm (by omega) (by omega)]
        exact congrArg some (by clear e; omega)
    · obtain ⟨m, m8, e, l, l'⟩ := tab_ok2 (x % 256) (by omega) (by omega)
      refine ⟨m, by omega, by omega, by omega, st _ fun k => ?_⟩
      rw [bits_Len64.j0, if_neg h1, if_neg h2, if_pos (by omega), if_pos (by omega), e, wsm (a := (m : Int)) (by omega) (by omega), wsm (by omega) (by omega)]
theorem len_ev2 {x : Int} (hx : 0 ≤ x ∧ x < 18446744073709551616) : ∃ m : Nat, m ≤ 64 ∧ x < 2 ^ m ∧ (1 ≤ x → 2 ^ m ≤ 2 * x) ∧ Ev (fun k => bits_Len64.f k x) (m : Int) := by
  by_cases h : x ≥ 4294967296
  · obtain ⟨m, m1, l, l', e⟩ := len_j2 (x := x / 4294967296) (y := 32) (by omega) (by omega)
    refine ⟨m + 32, by omega, ?_, ?_, Ev.congr (fun k => by rw [bits_Len64.f, if_pos h]) (ev_eq (by omega) e)⟩
    · rw [Int.pow_add, show (2 : Int) ^ 32 = 4294967296 from by decide]; omega
    · rw [Int.pow_add, show (2 : Int) ^ 32 = 4294967296 from by decide]; omega
  · obtain ⟨m, m1, l, l', e⟩ := len_j2 (x := x) (y := 0) (by omega) (by omega)
    exact ⟨m, by omega, l, l', Ev.congr (fun k => by rw [bits_Len64.f, if_neg h]) (ev_eq (by omega) e)⟩

theorem kn_gt {q Q D N : Int} (hD : 0 < D) (h1 : Q * D ≤ N) (h : N < q * D) : Q < q := by
  apply Int.not_le.mp; intro g
  have := Int.mul_le_mul_of_nonneg_right g (show 0 ≤ D by omega); omega
theorem kn_le {q Q D N : Int} (hD : 0 < D) (h2 : N < (Q + 1) * D) (h : q * D ≤ N) : q ≤ Q := by
  apply Int.not_lt.mp; intro g
  have := Int.mul_le_mul_of_nonneg_right (show Q + 1 ≤ q by omega) (show 0 ≤ D by omega); omega
theorem div_l0 {y s y1 y0 U c Q : Int} {e : Int} {res : Int × Int} (hy1 : 2147483648 ≤ y1 ∧ y1 < 4294967296) (hy0 : 0 ≤ y0 ∧ y0 < 4294967296) (hy : y = y1 * 4294967296 + y0) (hc : 0 ≤ c ∧ c < 4294967296) (hQ : 0 ≤ Q ∧ Q < 4294967296)
    (h1 : Q * y ≤ U * 4294967296 + c) (h2 : U * 4294967296 + c < (Q + 1) * y) (hk : Ev (fun k => bits_Div64.j2 k y s y1 y0 U c e Q) res) :
    ∀ (n : Nat) (q r : Int), (4294967296 - r).toNat ≤ n → 0 ≤ r → r < 4294967296 → r = U - q * y1 → Q ≤ q → q ≤ 4294967297 → Ev (fun k => bits_Div64.l0 k y s y1 y0 U c e q r) res := by
  intro n
  induction n with
  | zero => intro q r h0 h3 h4; omega
  | succ n ih =>
    intro q r h0 h3 h4 h5 h6 h7
    have a : q * y = q * y1 * 4294967296 + q * y0 := by rw [hy, Int.mul_add, Int.mul_assoc]
    have a' : (q - 1) * y = q * y - y := by rw [Int.sub_mul, Int.one_mul]
    have b : (q - 1) * y1 = q * y1 - y1 := by rw [Int.sub_mul, Int.one_mul]
    have b0 : (q - 1) * y0 = q * y0 - y0 := by rw [Int.sub_mul, Int.one_mul]
    have p0 : 0 ≤ q * y0 := Int.mul_nonneg (by omega) hy0.1
    have yp : 0 < y := by omega
    have back : Q < q → Ev (fun k => bits_Div64.j1 k y s y1 y0 U c e q r true) res := by
      intro g
      have w1 : IntKind.u64.wrap (r + y1) = r + y1 := uw (by omega) (by omega)
      have w2 : IntKind.u64.wrap (q - 1) = q - 1 := uw (by omega) (by omega)
      by_cases t : r + y1 ≥ 4294967296
      · have m : (q - 1) * y0 ≤ 4294967296 * 4294967295 := Int.le_trans (Int.mul_le_mul_of_nonneg_right (show q - 1 ≤ 4294967296 by omega) hy0.1) (Int.mul_le_mul_of_nonneg_left (show y0 ≤ 4294967295 by omega) (by decide))
        have e : q - 1 = Q := by
          have := kn_le (q := q - 1) yp h2 (by rw [a', a]; omega)
          omega
        exact Ev.step (fun k => by rw [bits_Div64.j1, if_pos rfl, w1, if_pos t, w2, e]) hk
      · refine Ev.step (fun k => by rw [bits_Div64.j1, if_pos rfl, w1, if_neg t, w2]) (ih (q - 1) (r + y1) (by omega) (by omega) (by omega) (by omega) (by omega) (by omega))
    by_cases g1 : q ≥ 4294967296
    · exact Ev.step (fun k => by rw [bits_Div64.l0, if_pos g1]) (back (by omega))
    · have p1 : q * y0 ≤ 4294967295 * 4294967295 := Int.le_trans (Int.mul_le_mul_of_nonneg_right (show q ≤ 4294967295 by omega) hy0.1) (Int.mul_le_mul_of_nonneg_left (show y0 ≤ 4294967295 by omega) (by decide))
      have w3 : IntKind.u64.wrap (q * y0) = q * y0 := uw p0 (by omega)
      have w4 : IntKind.u64.wrap (4294967296 * r) = 4294967296 * r := uw (by omega) (by omega)
      have w5 : IntKind.u64.wrap (4294967296 * r + c) = 4294967296 * r + c := uw (by omega) (by omega)
      by_cases g2 : q * y0 > 4294967296 * r + c
      · exact Ev.step (fun k => by rw [bits_Div64.l0, if_neg g1, w3, w4, w5, decide_eq_true g2]) (back (kn_gt yp h1 (by rw [a]; omega)))
      · have e : q = Q := by
          have := kn_le (q := q) yp h2 (by rw [a]; omega)
          omega
        refine Ev.step (fun k => by rw [bits_Div64.l0, if_neg g1, w3, w4, w5, decide_eq_false g2]) ?_
        exact Ev.step (fun k => by rw [bits_Div64.j1, if_neg (by decide), e]) hk
theorem div_l1 {y s y1 y0 U c Q : Int} {Z : Int} {res : Int × Int} (hy1 : 2147483648 ≤ y1 ∧ y1 < 4294967296) (hy0 : 0 ≤ y0 ∧ y0 < 4294967296) (hy : y = y1 * 4294967296 + y0) (hc : 0 ≤ c ∧ c < 4294967296) (hQ : 0 ≤ Q ∧ Q < 4294967296)
    (h1 : Q * y ≤ U * 4294967296 + c) (h2 : U * 4294967296 + c < (Q + 1) * y) (hs : 0 ≤ s) (hk : res = (IntKind.u64.wrap ((IntKind.u64.wrap (Z * 4294967296)) + Q), shr .u64 (IntKind.u64.wrap ((IntKind.u64.wrap ((IntKind.u64.wrap (U * 4294967296)) + c)) - (IntKind.u64.wrap (Q * y)))) s)) :
    ∀ (n : Nat) (q r : Int), (4294967296 - r).toNat ≤ n → 0 ≤ r → r < 4294967296 → r = U - q * y1 → Q ≤ q → q ≤ 4294967297 → Ev (fun k => bits_Div64.l1 k y s y1 y0 c Z r U q) res := by
  intro n
  induction n with
  | zero => intro q r h0 h3 h4; omega
  | succ n ih =>
    intro q r h0 h3 h4 h5 h6 h7
    have a : q * y = q * y1 * 4294967296 + q * y0 := by rw [hy, Int.mul_add, Int.mul_assoc]
    have a' : (q - 1) * y = q * y - y := by rw [Int.sub_mul, Int.one_mul]
    have b : (q - 1) * y1 = q * y1 - y1 := by rw [Int.sub_mul, Int.one_mul]
    have b0 : (q - 1) * y0 = q * y0 - y0 := by rw [Int.sub_mul, Int.one_mul]
    have p0 : 0 ≤ q * y0 := Int.mul_nonneg (by omega) hy0.1
    have yp : 0 < y := by omega
    have back : Q < q → Ev (fun k => bits_Div64.j4 k y s y1 y0 c Z r U q true) res := by
      intro g
      have w1 : IntKind.u64.wrap (r + y1) = r + y1 := uw (by omega) (by omega)
      have w2 : IntKind.u64.wrap (q - 1) = q - 1 := uw (by omega) (by omega)
      by_cases t : r + y1 ≥ 4294967296
      · have m : (q - 1) * y0 ≤ 4294967296 * 4294967295 := Int.le_trans (Int.mul_le_mul_of_nonneg_right (show q - 1 ≤ 4294967296 by omega) hy0.1) (Int.mul_le_mul_of_nonneg_left (show y0 ≤ 4294967295 by omega) (by decide))
        have e : q - 1 = Q := by
          have := kn_le (q := q - 1) yp h2 (by rw [a', a]; omega)
          omega
        exact Ev.step (fun k => by rw [bits_Div64.j4, if_pos rfl, w1, if_pos t, if_pos hs, w2, e, ← hk]) (Ev.now res)
      · refine Ev.step (fun k => by rw [bits_Div64.j4, if_pos rfl, w1, if_neg t, w2]) (ih (q - 1) (r + y1) (by omega) (by omega) (by omega) (by omega) (by omega) (by omega))
    by_cases g1 : q ≥ 4294967296
    · exact Ev.step (fun k => by rw [bits_Div64.l1, if_pos g1]) (back (by omega))
    · have p1 : q * y0 ≤ 4294967295 * 4294967295 := Int.le_trans (Int.mul_le_mul_of_nonneg_right (show q ≤ 4294967295 by omega) hy0.1) (Int.mul_le_mul_of_nonneg_left (show y0 ≤ 4294967295 by omega) (by decide))
      have w3 : IntKind.u64.wrap (q * y0) = q * y0 := uw p0 (by omega)
      have w4 : IntKind.u64.wrap (4294967296 * r) = 4294967296 * r := uw (by omega) (by omega)
      have w5 : IntKind.u64.wrap (4294967296 * r + c) = 4294967296 * r + c := uw (by omega) (by omega)
      by_cases g2 : q * y0 > 4294967296 * r + c
      · exact Ev.step (fun k => by rw [bits_Div64.l1, if_neg g1, w3, w4, w5, decide_eq_true g2]) (back (kn_gt yp h1 (by rw [a]; omega)))
      · have e : q = Q := by
          have := kn_le (q := q) yp h2 (by rw [a]; omega)
          omega
        refine Ev.step (fun k => by rw [bits_Div64.l1, if_neg g1, w3, w4, w5, decide_eq_false g2]) ?_
        exact Ev.step (fun k => by rw [bits_Div64.j4, if_neg (by decide), if_pos hs, e, ← hk]) (Ev.now res)
theorem u64_eq (a : Int) : IntKind.u64.wrap a = a % 18446744073709551616 := by rw [IntKind.wrap_u64]
theorem step_facts {D N c U : Int} (hD : 0 < D) (hU : 0 ≤ U ∧ U < D) (hc : 0 ≤ c ∧ c < 4294967296) (hN : N = U * 4294967296 + c) : 0 ≤ N / D ∧ N / D < 4294967296 ∧ N / D * D ≤ N ∧ N < (N / D + 1) * D ∧ 0 ≤ N % D ∧ N % D < D ∧ N = N / D * D + N % D := by
  have e := Int.mul_ediv_add_emod N D
  have r0 := Int.emod_nonneg N (show D ≠ 0 by omega)
  have r1 := Int.emod_lt_of_pos N hD
  rw [Int.mul_comm] at e
  have f : (N / D + 1) * D = N / D * D + D := by rw [Int.add_mul, Int.one_mul]
  refine ⟨Int.ediv_nonneg (by omega) (by omega), Int.ediv_lt_of_lt_mul hD ?_, by omega, by omega, r0, r1, by omega⟩
  rw [Int.mul_comm]
  have : D * 4294967296 ≥ (U + 1) * 4294967296 := Int.mul_le_mul_of_nonneg_right (by omega) (by decide)
  omega
theorem first_q {y1 y0 Y U : Int} (hy1 : 2147483648 ≤ y1 ∧ y1 < 4294967296) (hy0 : 0 ≤ y0 ∧ y0 < 4294967296) (hy : Y = y1 * 4294967296 + y0) (hU : 0 ≤ U ∧ U < Y) :
    IntKind.u64.wrap (Int.tdiv U y1) = U / y1 ∧ IntKind.u64.wrap (U - IntKind.u64.wrap (U / y1 * y1)) = U % y1 ∧ U % y1 = U - U / y1 * y1 ∧ 0 ≤ U % y1 ∧ U % y1 < y1 ∧ 0 ≤ U / y1 ∧ U / y1 ≤ 4294967297 := by
  have e := Int.mul_ediv_add_emod U y1
  have r0 := Int.emod_nonneg U (show y1 ≠ 0 by omega)
  have r1 := Int.emod_lt_of_pos U (show 0 < y1 by omega)
  have q0 : 0 ≤ U / y1 := Int.ediv_nonneg (by omega) (by omega)
  have q1 : U / y1 ≤ 4294967297 := by
    apply Int.lt_add_one_iff.mp
    exact Int.ediv_lt_of_lt_mul (by omega) (by omega)
  rw [Int.mul_comm] at e
  refine ⟨?_, ?_, by omega, r0, r1, q0, q1⟩
  · rw [Int.tdiv_eq_ediv_of_nonneg hU.1, uw q0 (by omega)]
  · rw [uw (a := U / y1 * y1) (Int.mul_nonneg q0 (by omega)) (by omega), uw (by omega) (by omega)]; omega
theorem div_core {Y s y1 y0 U c e : Int} (hs : 0 ≤ s) (hy1 : 2147483648 ≤ y1 ∧ y1 < 4294967296) (hy0 : 0 ≤ y0 ∧ y0 < 4294967296) (hy : Y = y1 * 4294967296 + y0) (hU : 0 ≤ U ∧ U < Y) (hc : 0 ≤ c ∧ c < 4294967296) (he : 0 ≤ e ∧ e < 4294967296) :
    ∃ q r, Ev (fun k => bits_Div64.l0 k Y s y1 y0 U c e (IntKind.u64.wrap (Int.tdiv U y1)) (IntKind.u64.wrap (U - IntKind.u64.wrap (IntKind.u64.wrap (Int.tdiv U y1) * y1)))) (q, shr .u64 r s) ∧ U * 18446744073709551616 + (c * 4294967296 + e) = q * Y + r ∧ 0 ≤ r ∧ r < Y ∧ 0 ≤ q ∧ q < 18446744073709551616 := by
  obtain ⟨a1, a2, a3, a4, a5, a6, a7⟩ := first_q hy1 hy0 hy hU
  obtain ⟨b1, b2, b3, b4, b5, b6, b7⟩ := step_facts (show 0 < Y by omega) hU hc rfl
  rw [a1, a2]
  generalize hQ : (U * 4294967296 + c) / Y = Q at *
  generalize hR : (U * 4294967296 + c) % Y = R at *
  obtain ⟨c1, c2, c3, c4, c5, c6, c7⟩ := first_q hy1 hy0 hy ⟨b5, b6⟩
  obtain ⟨d1, d2, d3, d4, d5, d6, d7⟩ := step_facts (show 0 < Y by omega) ⟨b5, b6⟩ he rfl
  generalize hQ2 : (R * 4294967296 + e) / Y = Q2 at *
  generalize hR2 : (R * 4294967296 + e) % Y = R2 at *
  refine ⟨Q * 4294967296 + Q2, R2, ?_, ?_, d5, d6, by omega, by omega⟩
  · refine div_l0 hy1 hy0 hy hc ⟨b1, b2⟩ b3 b4 ?_ (4294967296 : Int).toNat _ _ (by omega) a4 (by omega) a3 ?_ a7
    · have w : IntKind.u64.wrap ((IntKind.u64.wrap ((IntKind.u64.wrap (U * 4294967296)) + c)) - (IntKind.u64.wrap (Q * Y))) = R := by
        rw [u64_eq, u64_eq, u64_eq, u64_eq]
        generalize Q * Y = p at *
        clear a1 a2 a3 c1 c2 c3
        omega
      have w2 : IntKind.u64.wrap ((IntKind.u64.wrap ((IntKind.u64.wrap (R * 4294967296)) + e)) - (IntKind.u64.wrap (Q2 * Y))) = R2 := by
        rw [u64_eq, u64_eq, u64_eq, u64_eq]
        generalize Q2 * Y = p at *
        generalize Q * Y = p' at *
        clear a1 a2 a3 c1 c2 c3
        omega
      refine Ev.step (fun k => by rw [bits_Div64.j2, if_neg (by omega), w, c1, c2]) ?_
      refine div_l1 hy1 hy0 hy he ⟨d1, d2⟩ d3 d4 hs ?_ (4294967296 : Int).toNat _ _ (by omega) c4 (by omega) c3 ?_ c7
      · rw [w2, uw (a := Q * 4294967296) (by omega) (by omega), uw (by omega) (by omega)]
      · have x : (R / y1 + 1) * y1 = R / y1 * y1 + y1 := by rw [Int.add_mul, Int.one_mul]
        have x2 : (R / y1 + 1) * Y = (R / y1 + 1) * y1 * 4294967296 + (R / y1 + 1) * y0 := by rw [hy, Int.mul_add, Int.mul_assoc]
        have x3 : 0 ≤ (R / y1 + 1) * y0 := Int.mul_nonneg (by omega) hy0.1
        have := kn_gt (q := R / y1 + 1) (show 0 < Y by omega) d3 (by rw [x2, x]; omega)
        omega
    · have x : (U / y1 + 1) * y1 = U / y1 * y1 + y1 := by rw [Int.add_mul, Int.one_mul]
      have x2 : (U / y1 + 1) * Y = (U / y1 + 1) * y1 * 4294967296 + (U / y1 + 1) * y0 := by rw [hy, Int.mul_add, Int.mul_assoc]
      have x3 : 0 ≤ (U / y1 + 1) * y0 := Int.mul_nonneg (by omega) hy0.1
      have := kn_gt (q := U / y1 + 1) (show 0 < Y by omega) b3 (by rw [x2, x]; omega)
      omega
  · have z : (Q * 4294967296 + Q2) * Y = Q * Y * 4294967296 + Q2 * Y := by rw [Int.add_mul, Int.mul_assoc, Int.mul_comm 4294967296 Y, ← Int.mul_assoc]
    rw [z]
    generalize Q2 * Y = p at *
    generalize Q * Y = p' at *
    clear a1 a2 a3 c1 c2 c3
    omega

theorem pw64 (m : Nat) (h : m ≤ 64) : (2 : Int) ^ m * 2 ^ (64 - m) = 18446744073709551616 ∧ 1 ≤ (2 : Int) ^ m ∧ 1 ≤ (2 : Int) ^ (64 - m) := by
  have : ∀ m : Fin 65, (2 : Int) ^ m.val * 2 ^ (64 - m.val) = 18446744073709551616 ∧ 1 ≤ (2 : Int) ^ m.val ∧ 1 ≤ (2 : Int) ^ (64 - m.val) := by decide +kernel
  exact this ⟨m, by omega⟩
theorem shl_u (x : Int) (n : Nat) (h : n ≤ 64) : shl .u64 x (n : Int) = (x * 2 ^ n) % 18446744073709551616 := by
  unfold shl
  rw [Int.toNat_natCast, show IntKind.u64.bits = 64 from rfl, Nat.min_eq_left h, u64_eq]
theorem shr_u (x : Int) (n : Nat) (h : n ≤ 64) : shr .u64 x (n : Int) = x / 2 ^ n := by
  unfold shr
  rw [Int.toNat_natCast, show IntKind.u64.bits = 64 from rfl, Nat.min_eq_left h]
theorem or_add {a b : Int} (n : Nat) (ha : 0 ≤ a) (hb : 0 ≤ b ∧ b < 2 ^ n) (h : a * 2 ^ n + b < 18446744073709551616) : Go.bits .or .u64 (a * 2 ^ n) b = a * 2 ^ n + b := by
  obtain ⟨A, rfl⟩ := Int.eq_ofNat_of_zero_le ha
  obtain ⟨B, rfl⟩ := Int.eq_ofNat_of_zero_le hb.1
  have e : (A : Int) * 2 ^ n = ((A * 2 ^ n : Nat) : Int) := by simp
  have hb2 : B < 2 ^ n := by
    have := hb.2
    rw [show (2 : Int) ^ n = ((2 ^ n : Nat) : Int) from by simp] at this
    omega
  rw [e] at h ⊢
  have o := Nat.shiftLeft_add_eq_or_of_lt hb2 A
  rw [Nat.shiftLeft_eq] at o
  generalize A * 2 ^ n = C at *
  show IntKind.u64.wrap ((BitVec.ofInt 64 (C : Int) ||| BitVec.ofInt 64 (B : Int)).toNat : Int) = _
  rw [BitVec.toNat_or, BitVec.toNat_ofInt, BitVec.toNat_ofInt]
  rw [show ((C : Int) % ((2 ^ 64 : Nat) : Int)).toNat = C from by omega, show ((B : Int) % ((2 ^ 64 : Nat) : Int)).toNat = B from by omega, ← o, u64_eq]
  omega
theorem div64_ev {hi lo y : Int} (hlo : 0 ≤ lo ∧ lo < 18446744073709551616) (hhi : 0 ≤ hi ∧ hi < y) (hy : y < 18446744073709551616) :
    Ev (fun k => bits_Div64.f k hi lo y) ((hi * 18446744073709551616 + lo) / y, (hi * 18446744073709551616 + lo) % y) := by
  by_cases h0 : hi = 0
  · subst h0
    have q0 : 0 ≤ lo / y := Int.ediv_nonneg hlo.1 (by omega)
    have q1 : lo / y ≤ lo := Int.ediv_le_self _ hlo.1
    rw [show (0 : Int) * 18446744073709551616 + lo = lo from by omega]
    exact Ev.congr (fun k => by rw [bits_Div64.f, if_neg (by omega), if_neg (by omega), if_pos rfl, Int.tdiv_eq_ediv_of_nonneg hlo.1, Int.tmod_eq_emod_of_nonneg hlo.1, uw q0 (by omega)]) (Ev.now _)
  obtain ⟨m, m1, l, l', ev⟩ := len_ev2 (x := y) (by omega)
  have l' := l' (by omega)
  obtain ⟨n, hn⟩ : ∃ n : Nat, n = 64 - m := ⟨_, rfl⟩
  have pw := pw64 m m1
  rw [← hn] at pw
  obtain ⟨pw1, pw2, pw3⟩ := pw
  -- the shifted divisor
  have Y0 : y * 2 ^ n < 18446744073709551616 := by
    rw [← pw1]
    have := Int.mul_le_mul_of_nonneg_right (show y + 1 ≤ 2 ^ m by omega) (show 0 ≤ (2 : Int) ^ n by omega)
    rw [Int.add_mul, Int.one_mul] at this
    omega
  have Y1 : 9223372036854775808 ≤ y * 2 ^ n := by
    have := Int.mul_le_mul_of_nonneg_right l' (show 0 ≤ (2 : Int) ^ n by omega)
    rw [pw1, Int.mul_assoc] at this
    omega
  have sY : shl .u64 y (n : Int) = y * 2 ^ n := by rw [shl_u _ _ (by omega)]; exact Int.emod_eq_of_lt (by omega) Y0
  -- the shifted number
  have H0 : hi * 2 ^ n + 2 ^ n ≤ y * 2 ^ n := by
    have := Int.mul_le_mul_of_nonneg_right (show hi + 1 ≤ y by omega) (show 0 ≤ (2 : Int) ^ n by omega)
    rw [Int.add_mul, Int.one_mul] at this
    exact this
  have H1 : 0 ≤ hi * 2 ^ n := Int.mul_nonneg hhi.1 (by omega)
  have T0 : 0 ≤ lo / 2 ^ m := Int.ediv_nonneg hlo.1 (by omega)
  have T1 : lo / 2 ^ m < 2 ^ n := Int.ediv_lt_of_lt_mul (by omega) (by rw [Int.mul_comm, pw1]; omega)
  have sH : shl .u64 hi (n : Int) = hi * 2 ^ n := by rw [shl_u _ _ (by omega)]; exact Int.emod_eq_of_lt H1 (by omega)
  have sU : Go.bits .or .u64 (hi * 2 ^ n) (lo / 2 ^ m) = hi * 2 ^ n + lo / 2 ^ m := or_add n hhi.1 ⟨T0, T1⟩ (by omega)
  have sL : shl .u64 lo (n : Int) = (lo * 2 ^ n) % 18446744073709551616 := shl_u _ _ (by omega)
  have dL : lo * 2 ^ n / 18446744073709551616 = lo / 2 ^ m := by rw [← pw1, Int.mul_ediv_mul_of_pos_left _ _ (by omega)]
  have eL : lo * 2 ^ n = lo / 2 ^ m * 18446744073709551616 + lo * 2 ^ n % 18446744073709551616 := by rw [← dL]; omega
  have N1 : (hi * 18446744073709551616 + lo) * 2 ^ n = (hi * 2 ^ n + lo / 2 ^ m) * 18446744073709551616 + lo * 2 ^ n % 18446744073709551616 := by
    rw [Int.add_mul, Int.mul_assoc, Int.mul_comm 18446744073709551616, ← Int.mul_assoc]; omega
  generalize hL : lo * 2 ^ n % 18446744073709551616 = L at *
  have L0 : 0 ≤ L ∧ L < 18446744073709551616 := by omega
  generalize hU : hi * 2 ^ n + lo / 2 ^ m = U at *
  have U0 : 0 ≤ U ∧ U < y * 2 ^ n := by omega
  have lz : Ev (fun k => bits_LeadingZeros64.f k y) (n : Int) := by
    refine Ev.congr (fun k => by rw [bits_LeadingZeros64.f]) (Ev.bind ev ?_)
    have : wrap64 (64 - (m : Int)) = (n : Int) := by
      clear pw1 pw2 pw3 l l' N1 eL dL
      rw [wsm (by omega) (by omega)]; omega
    rw [this]; exact Ev.now _
  generalize hY : y * 2 ^ n = Y at *
  obtain ⟨q, r, ev2, f1, f2, f3, f4, f5⟩ := div_core (Y := Y) (s := (n : Int)) (y1 := Y / 4294967296) (y0 := Y % 4294967296) (U := U) (c := L / 4294967296) (e := L % 4294967296) (by omega) (by omega) (by omega) (by omega) U0 (by omega) (by omega)
  -- the answer
  have A1 : (hi * 18446744073709551616 + lo - q * y) * 2 ^ n = r := by
    rw [Int.sub_mul, N1, Int.mul_assoc, hY]; omega
  have A2 : r / 2 ^ n = hi * 18446744073709551616 + lo - q * y := by rw [← A1]; exact Int.mul_ediv_cancel _ (by omega)
  have A3 : 0 ≤ r / 2 ^ n := Int.ediv_nonneg f2 (by omega)
  have A4 : r / 2 ^ n < y := Int.ediv_lt_of_lt_mul (by omega) (by rw [hY]; exact f3)
  have D1 : (hi * 18446744073709551616 + lo) / y = q := by
    rw [show hi * 18446744073709551616 + lo = r / 2 ^ n + y * q from by rw [A2, Int.mul_comm y q]; omega, Int.add_mul_ediv_left _ _ (by omega), Int.ediv_eq_zero_of_lt A3 A4]; omega
  have D2 : (hi * 18446744073709551616 + lo) % y = r / 2 ^ n := by
    rw [show hi * 18446744073709551616 + lo = r / 2 ^ n + y * q from by rw [A2, Int.mul_comm y q]; omega, Int.add_mul_emod_self_left, Int.emod_eq_of_lt A3 A4]
  rw [shr_u _ _ (by omega)] at ev2
  rw [D1, D2]
  refine Ev.congr (fun k => by rw [bits_Div64.f, if_neg (by omega), if_neg (by omega), if_neg h0]) (Ev.bind lz ?_)
  have w1 : IntKind.u64.wrap (n : Int) = (n : Int) := uw (by omega) (by clear pw1 pw2 pw3 l l' N1 eL dL; omega)
  have w2 : IntKind.u64.wrap (64 - (n : Int)) = (m : Int) := by
    clear pw1 pw2 pw3 l l' N1 eL dL
    rw [uw (by omega) (by omega)]; omega
  refine Ev.congr (fun k => by rw [w1, w2, if_pos (by omega), if_pos (by omega), sY, sH, sL, shr_u _ _ m1, sU, and32 (by omega) (by omega), and32 L0.1 L0.2, if_neg (by omega)]) ev2

def Ta (i : Int) : Int := rd trig_angle.ns i
theorem tba_all : ∀ i : Fin 65, 0 ≤ Ta i.val ∧ Ta i.val ≤ Ta (mn ((i.val : Int) + 1) 64) ∧ Ta (mn ((i.val : Int) + 1) 64) ≤ 16384 := by decide +kernel
theorem tba_at (i : Int) (h0 : 0 ≤ i) (h1 : i < 65) : 0 ≤ Ta i ∧ Ta i ≤ Ta (mn (i + 1) 64) ∧ Ta (mn (i + 1) 64) ≤ 16384 := by
  have := tba_all ⟨i.toNat, by omega⟩
  rw [show ((i.toNat : Nat) : Int) = i from by omega] at this
  exact this
def Ang (r : Int) : Int := Ta (r / 256) + ((Ta (mn (r / 256 + 1) 64) - Ta (r / 256)) * (r % 256) + 128) / 256
theorem A_in {r : Int} (h0 : 0 ≤ r) (h1 : r ≤ 16384) : 0 ≤ Ang r ∧ Ang r ≤ 16384 ∧ 0 ≤ (Ta (mn (r / 256 + 1) 64) - Ta (r / 256)) * (r % 256) ∧ (Ta (mn (r / 256 + 1) 64) - Ta (r / 256)) * (r % 256) ≤ 16384 * 255 := by
  obtain ⟨t0, t1, t2⟩ := tba_at (r / 256) (by omega) (by omega)
  unfold Ang
  generalize Ta (mn (r / 256 + 1) 64) = B at *
  generalize Ta (r / 256) = A at *
  have m1 : (B - A) * (r % 256) ≤ (B - A) * 255 := Int.mul_le_mul_of_nonneg_left (by omega) (by omega)
  have m0 : 0 ≤ (B - A) * (r % 256) := Int.mul_nonneg (by omega) (by omega)
  generalize (B - A) * (r % 256) = p at *
  omega
theorem angle_f {r : Int} (h0 : 0 ≤ r) (h1 : r ≤ 16384) : trig_angle.f r = some (Ang r) := by
  obtain ⟨t0, t1, t2⟩ := tba_at (r / 256) (by omega) (by omega)
  obtain ⟨s0, s1, s2, s3⟩ := A_in h0 h1
  rw [trig_angle.f, if_pos ⟨h0, h1⟩, trig_between.f]
  unfold Ang at s0 s1 ⊢
  show some (wrap64 (wrap64 (Ta (r / 256)) + wrap64 (wrap64 (wrap64 (IntKind.u16.wrap (Ta (mn (r / 256 + 1) 64) - Ta (r / 256))) * (r % 256)) + 128) / 256)) = _
  generalize Ta (mn (r / 256 + 1) 64) = B at *
  generalize Ta (r / 256) = A at *
  have u : IntKind.u16.wrap (B - A) = B - A := by rw [IntKind.wrap_u16]; omega
  rw [u, wsm (a := A) (by omega) (by omega), wsm (a := B - A) (by omega) (by omega)]
  generalize (B - A) * (r % 256) = p at *
  rw [wsm (a := p) (by omega) (by omega), wsm (a := p + 128) (by omega) (by omega), wsm (by omega) (by omega)]
def sz (a : Int) : Int := if a < 0 then -a else a
theorem size_t {a : Int} (A : I64 a) : trig_size.f a = some (sz a) := by
  unfold I64 at A
  rw [trig_size.f]
  unfold sz
  by_cases h : a < 0
  · rw [if_pos h, if_pos h, IntKind.wrap_u64, IntKind.wrap_u64]; congr 1; omega
  · rw [if_neg h, if_neg h, IntKind.wrap_u64]; congr 1; omega
def quad (y x b : Int) : Int := if y ≥ 0 ∧ x < 0 then 32768 - b else if y < 0 ∧ x < 0 then b + 32768 else if y < 0 then (-b) % 65536 else b
theorem quad_ev (y x : Int) {b : Int} (hb : 0 ≤ b ∧ b ≤ 16384) : Ev (fun k => trig_Atan2.j2 k y x b) (quad y x b, true) := by
  have w1 : wrap64 (32768 - b) = 32768 - b := wsm (by omega) (by omega)
  have w2 : wrap64 (b + 32768) = b + 32768 := wsm (by omega) (by omega)
  have w3 : wrap64 (-b) = -b := wsm (by omega) (by omega)
  unfold quad
  by_cases h1 : y ≥ 0
  · by_cases h2 : x < 0
    · rw [if_pos ⟨h1, h2⟩]
      refine Ev.step (fun k => by rw [trig_Atan2.j2, if_pos h1, decide_eq_true h2]) ?_
      exact Ev.step (fun k => by rw [trig_Atan2.j3, if_pos rfl, w1]) (Ev.now _)
    · rw [if_neg (by omega), if_neg (by omega), if_neg (by omega)]
      refine Ev.step (fun k => by rw [trig_Atan2.j2, if_pos h1, decide_eq_false h2]) ?_
      refine Ev.step (fun k => by rw [trig_Atan2.j3, if_neg (by decide), if_neg (by omega)]) ?_
      exact Ev.step (fun k => by rw [trig_Atan2.j4, if_neg (by decide), if_neg (by omega)]) (Ev.now _)
  · rw [if_neg (by omega)]
    by_cases h2 : x < 0
    · rw [if_pos ⟨by omega, h2⟩]
      refine Ev.step (fun k => by rw [trig_Atan2.j2, if_neg h1]) ?_
      refine Ev.step (fun k => by rw [trig_Atan2.j3, if_neg (by decide), if_pos (by omega), decide_eq_true h2]) ?_
      exact Ev.step (fun k => by rw [trig_Atan2.j4, if_pos rfl, w2]) (Ev.now _)
    · rw [if_neg (by omega), if_pos (by omega)]
      refine Ev.step (fun k => by rw [trig_Atan2.j2, if_neg h1]) ?_
      refine Ev.step (fun k => by rw [trig_Atan2.j3, if_neg (by decide), if_pos (by omega), decide_eq_false h2]) ?_
      exact Ev.step (fun k => by rw [trig_Atan2.j4, if_neg (by decide), if_pos (by omega), w3, and_16]) (Ev.now _)
def tan (l g : Int) : Int := if l < g then l * 16384 / g else 16384
theorem tan_in {l g : Int} (hl : 0 ≤ l) (hg : l ≤ g) : 0 ≤ tan l g ∧ tan l g ≤ 16384 := by
  unfold tan
  by_cases h : l < g
  · rw [if_pos h]
    refine ⟨Int.ediv_nonneg (by omega) (by omega), ?_⟩
    apply Int.lt_add_one_iff.mp
    exact Int.ediv_lt_of_lt_mul (by omega) (by omega)
  · rw [if_neg h]; decide
def atn (y x : Int) : Int × Bool :=
  if sz y > sz x then (quad y x (16384 - Ang (tan (sz x) (sz y))), true)
  else if sz x = 0 then (0, false) else (quad y x (Ang (tan (sz y) (sz x))), true)
theorem j0_ev (y x : Int) {l g : Int} (s : Bool) (hl : 0 ≤ l) (hlg : l ≤ g) (hg : 0 < g ∧ g < 18446744073709551616) : Ev (fun k => trig_Atan2.j0 k y x l g s) (quad y x (if s = true then 16384 - Ang (tan l g) else Ang (tan l g)), true) := by
  have ti := tan_in hl hlg
  have ai := A_in ti.1 ti.2
  have af := angle_f ti.1 ti.2
  have wt : wrap64 (tan l g) = tan l g := wsm (by omega) (by omega)
  have w2 : wrap64 (16384 - Ang (tan l g)) = 16384 - Ang (tan l g) := wsm (by omega) (by omega)
  have nx : Ev (fun k => trig_Atan2.j1 k y x s (tan l g)) (quad y x (if s = true then 16384 - Ang (tan l g) else Ang (tan l g)), true) := by
    refine Ev.step (fun k => by rw [trig_Atan2.j1, wt, af]) ?_
    refine Ev.bind (f := fun k t => _) (Ev.now _) ?_
    cases s
    · refine Ev.congr (fun k => by rw [if_neg (by decide)]) ?_
      rw [if_neg (by decide)]
      exact quad_ev y x ⟨ai.1, ai.2.1⟩
    · refine Ev.congr (fun k => by rw [if_pos rfl, w2]) ?_
      rw [if_pos rfl]
      exact quad_ev y x (by omega)
  by_cases h : l < g
  · have m := mul64_f (a := l) (b := 16384) ⟨hl, by omega⟩ ⟨by decide, by decide⟩
    have dv := div64_ev (hi := l * 16384 / 18446744073709551616) (lo := l * 16384 % 18446744073709551616) (y := g) ⟨by omega, by omega⟩ ⟨by omega, by omega⟩ hg.2
    rw [show l * 16384 / 18446744073709551616 * 18446744073709551616 + l * 16384 % 18446744073709551616 = l * 16384 from by omega] at dv
    have te : tan l g = l * 16384 / g := by unfold tan; rw [if_pos h]
    refine Ev.step (fun k => by rw [trig_Atan2.j0, if_neg (by omega), if_pos h, m]) ?_
    refine Ev.bind (f := fun k t => _) (Ev.now _) (Ev.bind dv ?_)
    rw [← te]; exact nx
  · have te : tan l g = 16384 := by unfold tan; rw [if_neg h]
    refine Ev.step (fun k => by rw [trig_Atan2.j0, if_neg (by omega), if_neg h]) ?_
    rw [te] at nx ⊢; exact nx
theorem atan_ev {y x : Int} (Y : I64 y) (X : I64 x) : Ev (fun k => trig_Atan2.f k y x) (atn y x) := by
  have sy := size_t Y
  have sx := size_t X
  have by' : 0 ≤ sz y ∧ sz y ≤ 9223372036854775808 := by unfold I64 at Y; unfold sz; split <;> omega
  have bx : 0 ≤ sz x ∧ sz x ≤ 9223372036854775808 := by unfold I64 at X; unfold sz; split <;> omega
  refine Ev.congr (fun k => by rw [trig_Atan2.f, sy, sx]) ?_
  refine Ev.bind (f := fun k t => _) (Ev.now _) (Ev.bind (f := fun k t => _) (Ev.now _) ?_)
  unfold atn
  by_cases h : sz y > sz x
  · rw [if_pos h]
    refine Ev.congr (fun k => by rw [if_pos h, decide_eq_true h]) ?_
    have := j0_ev y x (l := sz x) (g := sz y) true bx.1 (by omega) (by omega)
    rw [if_pos rfl] at this
    exact this
  · rw [if_neg h]
    refine Ev.congr (fun k => by rw [if_neg h, decide_eq_false h]) ?_
    by_cases g : sz x = 0
    · rw [if_pos g]
      exact Ev.step (fun k => by rw [trig_Atan2.j0, if_pos g]) (Ev.now _)
    · rw [if_neg g]
      have := j0_ev y x (l := sz y) (g := sz x) false by'.1 (by omega) (by omega)
      rw [if_neg (by decide)] at this
      exact this

def bk (r : Int) : Bool := decide ((S r = 0 → r = 0) ∧ (S r ≤ S (16384 - r) → 0 < S (16384 - r) ∧ r ≤ Ang (tan (S r) (S (16384 - r))) + 1 ∧ Ang (tan (S r) (S (16384 - r))) ≤ r + 1))
theorem bk_all : ∀ i : Fin 65, ∀ f : Fin 256, (i.val = 64 → f.val = 0) → bk (i.val * 256 + f.val) = true := by decide +kernel
theorem back_at {r : Int} (h0 : 0 ≤ r) (h1 : r ≤ 16384) : (S r = 0 → r = 0) ∧ (S r ≤ S (16384 - r) → 0 < S (16384 - r) ∧ r ≤ Ang (tan (S r) (S (16384 - r))) + 1 ∧ Ang (tan (S r) (S (16384 - r))) ≤ r + 1) := by
  have c := bk_all ⟨(r / 256).toNat, by omega⟩ ⟨(r % 256).toNat, by omega⟩ (by simp only; omega)
  unfold bk at c
  simp only [show (((r / 256).toNat : Nat) : Int) = r / 256 from by omega, show (((r % 256).toNat : Nat) : Int) = r % 256 from by omega, show r / 256 * 256 + r % 256 = r from by omega] at c
  exact of_decide_eq_true c
def th (l g : Int) : Int := if l > g then 16384 - Ang (tan g l) else Ang (tan l g)
theorem th_at {r : Int} (h0 : 0 ≤ r) (h1 : r ≤ 16384) : (0 < S r ∨ 0 < S (16384 - r)) ∧ 0 ≤ th (S r) (S (16384 - r)) ∧ th (S r) (S (16384 - r)) ≤ 16384 ∧ r ≤ th (S r) (S (16384 - r)) + 1 ∧ th (S r) (S (16384 - r)) ≤ r + 1 := by
  have p := S_in h0 h1
  have q := S_in (r := 16384 - r) (by omega) (by omega)
  unfold th
  by_cases h : S r > S (16384 - r)
  · have b := (back_at (r := 16384 - r) (by omega) (by omega)).2
    rw [show (16384 : Int) - (16384 - r) = r by omega] at b
    have b' := b (by omega)
    have t := tan_in (l := S (16384 - r)) (g := S r) (by omega) (by omega)
    have a := A_in t.1 t.2
    rw [if_pos h]
    omega
  · have b := (back_at h0 h1).2 (by omega)
    have t := tan_in (l := S r) (g := S (16384 - r)) (by omega) (by omega)
    have a := A_in t.1 t.2
    rw [if_neg h]
    omega
theorem sz_k {k y : Int} (hk : 0 < k) : sz (k * y) = k * sz y := by
  unfold sz
  by_cases h : y < 0
  · rw [if_pos h, if_pos (Int.mul_neg_of_pos_of_neg hk h), Int.mul_neg]
  · have := Int.mul_nonneg (Int.le_of_lt hk) (show 0 ≤ y by omega)
    rw [if_neg h, if_neg (by omega)]
theorem tan_k {k l g : Int} (hk : 0 < k) : tan (k * l) (k * g) = tan l g := by
  unfold tan
  by_cases h : l < g
  · rw [if_pos h, if_pos (Int.mul_lt_mul_of_pos_left h hk), Int.mul_assoc, Int.mul_ediv_mul_of_pos _ _ hk]
  · have := Int.mul_le_mul_of_nonneg_left (show g ≤ l by omega) (Int.le_of_lt hk)
    rw [if_neg h, if_neg (by omega)]
theorem sgn_k {k y : Int} (hk : 0 < k) : (k * y ≥ 0 ↔ y ≥ 0) ∧ (k * y < 0 ↔ y < 0) := by
  by_cases h : y < 0
  · have := Int.mul_neg_of_pos_of_neg hk h
    omega
  · have := Int.mul_nonneg (Int.le_of_lt hk) (show 0 ≤ y by omega)
    omega
theorem atn_k {k y x : Int} (hk : 0 < k) : atn (k * y) (k * x) = atn y x := by
  have g1 : (k * sz y > k * sz x) = (sz y > sz x) := by
    apply propext
    constructor
    · intro h; exact Int.lt_of_mul_lt_mul_left h (Int.le_of_lt hk)
    · intro h; exact Int.mul_lt_mul_of_pos_left h hk
  have g2 : (k * sz x = 0) = (sz x = 0) := by
    apply propext
    rw [Int.mul_eq_zero]
    omega
  have g3 : ∀ b, quad (k * y) (k * x) b = quad y x b := by
    intro b
    unfold quad
    obtain ⟨p, q⟩ := sgn_k (y := y) hk
    obtain ⟨u, v⟩ := sgn_k (y := x) hk
    simp only [p, q, v]
  unfold atn
  rw [sz_k hk, sz_k hk, tan_k hk, tan_k hk, g3, g3]
  simp only [g1, g2]
theorem atn_th {y x : Int} (h : 0 < sz y ∨ 0 < sz x) : atn y x = (quad y x (th (sz y) (sz x)), true) := by
  unfold atn th
  by_cases g : sz y > sz x
  · rw [if_pos g, if_pos g]
  · rw [if_neg g, if_neg g, if_neg (by omega)]
theorem back_core {x : Int} (h0 : 0 ≤ x) (h1 : x < 65536) : ∃ b, atn (sn x) (sn ((x + 16384) % 65536)) = (b, true) ∧ 0 ≤ b ∧ b < 65536 ∧ -1 ≤ (b - x + 32768) % 65536 - 32768 ∧ (b - x + 32768) % 65536 - 32768 ≤ 1 := by
  have p := S_in (r := x % 16384) (by omega) (by omega)
  have q := S_in (r := 16384 - x % 16384) (by omega) (by omega)
  have t1 := th_at (r := x % 16384) (by omega) (by omega)
  have t2 := th_at (r := 16384 - x % 16384) (by omega) (by omega)
  have z1 := (back_at (r := x % 16384) (by omega) (by omega)).1
  have z2 := (back_at (r := 16384 - x % 16384) (by omega) (by omega)).1
  rw [show (16384 : Int) - (16384 - x % 16384) = x % 16384 by omega] at t2
  unfold sn
  rw [show (x + 16384) % 65536 % 16384 = x % 16384 by omega]
  have s1 : ∀ {u : Int}, 0 ≤ u → sz u = u := fun h => by unfold sz; rw [if_neg (by omega)]
  have s2 : ∀ {u : Int}, 0 ≤ u → sz (-u) = u := fun {u} h => by unfold sz; split <;> omega
  generalize S (x % 16384) = s at *
  generalize S (16384 - x % 16384) = c at *
  have hq : x / 16384 = 0 ∨ x / 16384 = 1 ∨ x / 16384 = 2 ∨ x / 16384 = 3 := by omega
  rcases hq with h | h | h | h
  · rw [if_pos h, if_neg (by omega), if_pos (by omega), atn_th (by rw [s1 (by omega), s1 (by omega)]; omega), s1 (by omega), s1 (by omega)]
    refine ⟨_, rfl, ?_⟩
    generalize th s c = t at *
    unfold quad
    rw [if_neg (by omega), if_neg (by omega), if_neg (by omega)]
    omega
  · rw [if_neg (by omega), if_pos h, if_neg (by omega), if_neg (by omega), if_pos (by omega), atn_th (by rw [s1 (by omega), s2 (by omega)]; omega), s1 (by omega), s2 (by omega)]
    refine ⟨_, rfl, ?_⟩
    generalize th c s = t at *
    unfold quad
    by_cases g : -s < 0
    · rw [if_pos ⟨by omega, g⟩]; omega
    · rw [if_neg (by omega), if_neg (by omega), if_neg (by omega)]; omega
  · rw [if_neg (by omega), if_neg (by omega), if_pos h, if_neg (by omega), if_neg (by omega), if_neg (by omega), atn_th (by rw [s2 (by omega), s2 (by omega)]; omega), s2 (by omega), s2 (by omega)]
    refine ⟨_, rfl, ?_⟩
    generalize th s c = t at *
    unfold quad
    by_cases g : -s < 0
    · rw [if_neg (by omega), if_pos ⟨g, by omega⟩]; omega
    · rw [if_pos ⟨by omega, by omega⟩]; omega
  · rw [if_neg (by omega), if_neg (by omega), if_neg (by omega), if_pos (by omega), atn_th (by rw [s2 (by omega), s1 (by omega)]; omega), s2 (by omega), s1 (by omega)]
    refine ⟨_, rfl, ?_⟩
    generalize th c s = t at *
    unfold quad
    rw [if_neg (by omega), if_neg (by omega), if_pos (by omega)]
    omega
theorem way_f (a b : Int) : trig_Way.f a b = some ((b - a + 32768) % 65536 - 32768) := by
  have e : IntKind.i16.wrap (wrap64 (b - a)) = (b - a + 32768) % 65536 - 32768 := by
    show (if (true && decide (wrap64 (b - a) % 65536 ≥ 32768)) = true then wrap64 (b - a) % 65536 - 65536 else wrap64 (b - a) % 65536) = _
    have w : wrap64 (b - a) % 65536 = (b - a) % 65536 := by unfold wrap64; omega
    rw [w, Bool.true_and]
    by_cases g : (b - a) % 65536 ≥ 32768
    · rw [decide_eq_true g, if_pos rfl]; omega
    · rw [decide_eq_false g, if_neg (by decide)]; omega
  rw [trig_Way.f, e, wsm (by omega) (by omega)]
theorem mul_in {k s : Int} (hk : 0 < k ∧ k ≤ 1099511627776) (hs : -16384 ≤ s ∧ s ≤ 16384) : -18014398509481984 ≤ k * s ∧ k * s ≤ 18014398509481984 := by
  have h1 : k * s ≤ k * 16384 := Int.mul_le_mul_of_nonneg_left hs.2 (by omega)
  have h2 : k * (-16384) ≤ k * s := Int.mul_le_mul_of_nonneg_left hs.1 (by omega)
  omega
theorem TrigBack : windhoverlaw02_TrigBack.Pure := by
  intro a k ha hk
  apply Ev.rounds
  by_cases g1 : k < 1
  · refine Ev.congr (fun n => by rw [windhoverlaw02_TrigBack.f, if_pos g1]) ?_
    exact Ev.step (fun n => by rw [windhoverlaw02_TrigBack.j0, if_pos rfl]) (Ev.bind awake_ev (Ev.now _))
  refine Ev.congr (fun n => by rw [windhoverlaw02_TrigBack.f, if_neg g1]) ?_
  by_cases g2 : k > 1099511627776
  · refine Ev.congr (fun n => by rw [decide_eq_true g2]) ?_
    exact Ev.step (fun n => by rw [windhoverlaw02_TrigBack.j0, if_pos rfl]) (Ev.bind awake_ev (Ev.now _))
  refine Ev.congr (fun n => by rw [decide_eq_false g2]) ?_
  obtain ⟨b, hb, b0, b1, w0, w1⟩ := back_core (x := a % 65536) (by omega) (by omega)
  rw [show (a % 65536 + 16384) % 65536 = (a + 16384) % 65536 by omega] at hb
  rw [show (b - a % 65536 + 32768) % 65536 - 32768 = (b - a + 32768) % 65536 - 32768 by omega] at w0 w1
  have s1 := sn_in (a % 65536)
  have s2 := sn_in ((a + 16384) % 65536)
  have m1 := mul_in (k := k) (by omega) s1
  have m2 := mul_in (k := k) (by omega) s2
  have at1 := atan_ev (y := k * sn (a % 65536)) (x := k * sn ((a + 16384) % 65536)) (by unfold I64; omega) (by unfold I64; omega)
  rw [atn_k (by omega), hb] at at1
  have q1 : wrap64 (k * sn (a % 65536)) = k * sn (a % 65536) := wsm (by omega) (by omega)
  have q2 : wrap64 (k * sn ((a + 16384) % 65536)) = k * sn ((a + 16384) % 65536) := wsm (by omega) (by omega)
  refine Ev.step (fun n => by rw [windhoverlaw02_TrigBack.j0, if_neg (by decide), sin_f, cos_f]) ?_
  refine Ev.bind (f := fun k t => _) (Ev.now _) (Ev.bind (f := fun k t => _) (Ev.now _) ?_)
  refine Ev.congr (fun n => by rw [if_neg (by omega), if_neg (by omega), if_neg (by omega), decide_eq_false (by omega)]) ?_
  refine Ev.step (fun n => by rw [windhoverlaw02_TrigBack.j1, if_neg (by decide), q1, q2]) (Ev.bind at1 ?_)
  refine Ev.congr (fun n => by rw [way_f]) ?_
  refine Ev.bind (f := fun k t => _) (Ev.now _) (Ev.bind awake_ev ?_)
  refine Ev.congr (fun n => ?_) (Ev.now true)
  dsimp only
  rw [if_pos rfl, if_pos rfl, if_pos (by omega), if_pos (by omega), if_pos (by omega), decide_eq_true (by omega)]

end Go.Proofs.Ytplfcbbaanjdgaa.Pure
