/- The law TrigCircle: the squares of sine and cosine keep close to the circle for every angle. -/
import Derived.Test.YtplfcbbaanjdgaaPTrigCirclex3
namespace Go.Proofs.Ytplfcbbaanjdgaa.Pure
open Go.RowKit Go.Proofs.Ytplfcbbaanjdgaa.PTrigCircle Go.Proofs.YtplfcbbaanjdgaaW.PrintWords Go.Proofs.YtplfcbbaanjdgaaW.PrintLast

set_option linter.unusedVariables false
set_option linter.unusedSimpArgs false
theorem wsm {a : Int} (h1 : -9223372036854775808 ≤ a) (h2 : a ≤ 9223372036854775807) : wrap64 a = a := by unfold wrap64; omega
theorem awake_ev : Ev (fun k => windhoverlaw02_awake.f k) true := by
  have h : windhoverlaw02_awake.f 40 = some true := by decide +kernel
  exact Ev.of (fun k => windhoverlaw02_awake.mono k) h
theorem and_low (a : Int) (n : Nat) (h : n ≤ 62) : Go.bits .and .i64 a (2 ^ n - 1) = a % 2 ^ n := by
  have pw : ∀ n : Fin 63, (2 : Int) ^ n.val = ((2 ^ n.val : Nat) : Int) ∧ (2 ^ n.val : Nat) ≤ 4611686018427387904 ∧ 18446744073709551616 % (2 ^ n.val : Nat) = 0 := by decide +kernel
  obtain ⟨p1, p2, p3⟩ := pw ⟨n, by omega⟩
  have p4 : 0 < (2 ^ n : Nat) := Nat.two_pow_pos n
  have h1 : (BitVec.ofInt 64 (2 ^ n - 1)).toNat = 2 ^ n - 1 := by
    rw [BitVec.toNat_ofInt, p1]
    simp only at p2
    generalize (2 ^ n : Nat) = P at *
    omega
  show Go.IntKind.i64.wrap ((BitVec.ofInt 64 a &&& BitVec.ofInt 64 (2 ^ n - 1)).toNat : Int) = _
  rw [BitVec.toNat_and, h1, Nat.and_two_pow_sub_one_eq_mod, BitVec.toNat_ofInt, p1]
  simp only at p2 p3
  have d : ((2 ^ n : Nat) : Int) ∣ 18446744073709551616 := by
    have : (2 ^ n : Nat) ∣ 18446744073709551616 := Nat.dvd_of_mod_eq_zero p3
    exact Int.natCast_dvd_natCast.mpr this
  have e : (((a % ((2 ^ 64 : Nat) : Int)).toNat % 2 ^ n : Nat) : Int) = a % ((2 ^ n : Nat) : Int) := by
    rw [Int.natCast_emod, Int.toNat_of_nonneg (Int.emod_nonneg _ (by decide))]
    exact Int.emod_emod_of_dvd a d
  rw [e, IntKind.wrap_i64]
  have q0 := Int.emod_nonneg a (show ((2 ^ n : Nat) : Int) ≠ 0 by omega)
  have q1 := Int.emod_lt_of_pos a (show (0 : Int) < ((2 ^ n : Nat) : Int) by omega)
  generalize a % ((2 ^ n : Nat) : Int) = z at *
  omega
theorem and_16 (a : Int) : Go.bits .and .i64 a 65535 = a % 65536 := and_low a 16 (by decide)
theorem and_14 (a : Int) : Go.bits .and .i64 a 16383 = a % 16384 := and_low a 14 (by decide)
def Tb (i : Int) : Int := rd trig_sine.ns i
theorem tab_all : ∀ i : Fin 65, 0 ≤ Tb i.val ∧ Tb i.val ≤ Tb (mn ((i.val : Int) + 1) 64) ∧ Tb (mn ((i.val : Int) + 1) 64) ≤ 16384 := by decide +kernel
theorem tab_at (i : Int) (h0 : 0 ≤ i) (h1 : i < 65) : 0 ≤ Tb i ∧ Tb i ≤ Tb (mn (i + 1) 64) ∧ Tb (mn (i + 1) 64) ≤ 16384 := by
  have := tab_all ⟨i.toNat, by omega⟩
  rw [show ((i.toNat : Nat) : Int) = i from by omega] at this
  exact this
def S (r : Int) : Int := Tb (r / 256) + ((Tb (mn (r / 256 + 1) 64) - Tb (r / 256)) * (r % 256) + 128) / 256
theorem S_in {r : Int} (h0 : 0 ≤ r) (h1 : r ≤ 16384) : 0 ≤ S r ∧ S r ≤ 16384 ∧ 0 ≤ (Tb (mn (r / 256 + 1) 64) - Tb (r / 256)) * (r % 256) ∧ (Tb (mn (r / 256 + 1) 64) - Tb (r / 256)) * (r % 256) ≤ 16384 * 255 := by
  obtain ⟨t0, t1, t2⟩ := tab_at (r / 256) (by omega) (by omega)
  unfold S
  generalize Tb (mn (r / 256 + 1) 64) = B at *
  generalize Tb (r / 256) = A at *
  have m1 : (B - A) * (r % 256) ≤ (B - A) * 255 := Int.mul_le_mul_of_nonneg_left (by omega) (by omega)
  have m0 : 0 ≤ (B - A) * (r % 256) := Int.mul_nonneg (by omega) (by omega)
  generalize (B - A) * (r % 256) = p at *
  omega
theorem sine_f {r : Int} (h0 : 0 ≤ r) (h1 : r ≤ 16384) : trig_sine.f r = some (S r) := by
  obtain ⟨t0, t1, t2⟩ := tab_at (r / 256) (by omega) (by omega)
  obtain ⟨s0, s1, s2, s3⟩ := S_in h0 h1
  rw [trig_sine.f, if_pos ⟨h0, h1⟩, trig_between.f]
  unfold S at s0 s1 ⊢
  show some (wrap64 (wrap64 (Tb (r / 256)) + wrap64 (wrap64 (wrap64 (IntKind.u16.wrap (Tb (mn (r / 256 + 1) 64) - Tb (r / 256))) * (r % 256)) + 128) / 256)) = _
  generalize Tb (mn (r / 256 + 1) 64) = B at *
  generalize Tb (r / 256) = A at *
  have u : IntKind.u16.wrap (B - A) = B - A := by rw [IntKind.wrap_u16]; omega
  rw [u, wsm (a := A) (by omega) (by omega), wsm (a := B - A) (by omega) (by omega)]
  generalize (B - A) * (r % 256) = p at *
  rw [wsm (a := p) (by omega) (by omega), wsm (a := p + 128) (by omega) (by omega), wsm (by omega) (by omega)]
def sn (x : Int) : Int := if x / 16384 = 0 then S (x % 16384) else if x / 16384 = 1 then S (16384 - x % 16384) else if x / 16384 = 2 then -S (x % 16384) else -S (16384 - x % 16384)
theorem sin_f (a : Int) : trig_Sin.f a = some (sn (a % 65536)) := by
  have e0 : a % 65536 % 16384 = a % 16384 := by omega
  have e1 : Int.tdiv (a % 65536) 16384 = a % 65536 / 16384 := Int.tdiv_eq_ediv_of_nonneg (by omega)
  have e2 : wrap64 (a % 65536 / 16384) = a % 65536 / 16384 := wsm (by omega) (by omega)
  have e3 : wrap64 (16384 - a % 16384) = 16384 - a % 16384 := wsm (by omega) (by omega)
  have s1 := sine_f (r := a % 16384) (by omega) (by omega)
  have s2 := sine_f (r := 16384 - a % 16384) (by omega) (by omega)
  have b1 := S_in (r := a % 16384) (by omega) (by omega)
  have b2 := S_in (r := 16384 - a % 16384) (by omega) (by omega)
  rw [trig_Sin.f, and_16, and_14, e1, e2, e3, s1, s2]
  unfold sn
  rw [e0]
  by_cases c0 : a % 65536 / 16384 = 0
  · rw [if_pos c0, if_pos c0]; rfl
  · rw [if_neg c0, if_neg c0]
    by_cases c1 : a % 65536 / 16384 = 1
    · rw [if_pos c1, if_pos c1]; rfl
    · rw [if_neg c1, if_neg c1]
      by_cases c2 : a % 65536 / 16384 = 2
      · rw [if_pos c2, if_pos c2]
        show some (wrap64 (-S (a % 16384))) = _
        rw [wsm (by omega) (by omega)]
      · rw [if_neg c2, if_neg c2]
        show some (wrap64 (-S (16384 - a % 16384))) = _
        rw [wsm (by omega) (by omega)]
theorem cos_f (a : Int) : trig_Cos.f a = some (sn ((a + 16384) % 65536)) := by
  have : wrap64 (a + 16384) % 65536 = (a + 16384) % 65536 := by unfold wrap64; omega
  rw [trig_Cos.f, sin_f, this]; rfl
theorem sn_in (x : Int) : -16384 ≤ sn x ∧ sn x ≤ 16384 := by
  have b1 := S_in (r := x % 16384) (by omega) (by omega)
  have b2 := S_in (r := 16384 - x % 16384) (by omega) (by omega)
  unfold sn
  split
  · omega
  · split
    · omega
    · split <;> omega

def circ (i f : Int) : Bool := decide (-70000 ≤ (Tb i + ((Tb (mn (i + 1) 64) - Tb i) * f + 128) / 256) * (Tb i + ((Tb (mn (i + 1) 64) - Tb i) * f + 128) / 256) + S (16384 - (i * 256 + f)) * S (16384 - (i * 256 + f)) - 268435456 ∧ (Tb i + ((Tb (mn (i + 1) 64) - Tb i) * f + 128) / 256) * (Tb i + ((Tb (mn (i + 1) 64) - Tb i) * f + 128) / 256) + S (16384 - (i * 256 + f)) * S (16384 - (i * 256 + f)) - 268435456 ≤ 70000)
theorem circ_all : ∀ i : Fin 65, ∀ f : Fin 256, (i.val = 64 → f.val = 0) → circ i.val f.val = true := by decide +kernel
theorem circle {r : Int} (h0 : 0 ≤ r) (h1 : r ≤ 16384) : -70000 ≤ S r * S r + S (16384 - r) * S (16384 - r) - 268435456 ∧ S r * S r + S (16384 - r) * S (16384 - r) - 268435456 ≤ 70000 := by
  have c := circ_all ⟨(r / 256).toNat, by omega⟩ ⟨(r % 256).toNat, by omega⟩ (by simp only; omega)
  unfold circ at c
  simp only [show (((r / 256).toNat : Nat) : Int) = r / 256 from by omega, show (((r % 256).toNat : Nat) : Int) = r % 256 from by omega, show r / 256 * 256 + r % 256 = r from by omega] at c
  exact of_decide_eq_true c
theorem sq_in {a : Int} (h : -16384 ≤ a ∧ a ≤ 16384) : 0 ≤ a * a ∧ a * a ≤ 268435456 := by
  rcases Int.le_total 0 a with g | g
  · exact ⟨Int.mul_nonneg g g, Int.le_trans (Int.mul_le_mul_of_nonneg_left h.2 g) (by omega)⟩
  · rw [← Int.neg_mul_neg]
    exact ⟨Int.mul_nonneg (by omega) (by omega), Int.le_trans (Int.mul_le_mul_of_nonneg_left (show -a ≤ 16384 by omega) (by omega)) (by omega)⟩
theorem TrigCircle : windhoverlaw02_TrigCircle.Pure := by
  intro a ha
  apply Ev.rounds
  have b1 := sn_in (a % 65536)
  have b2 := sn_in ((a + 16384) % 65536)
  have q1 := sq_in b1
  have q2 := sq_in b2
  have key : -70000 ≤ sn (a % 65536) * sn (a % 65536) + sn ((a + 16384) % 65536) * sn ((a + 16384) % 65536) - 268435456 ∧ sn (a % 65536) * sn (a % 65536) + sn ((a + 16384) % 65536) * sn ((a + 16384) % 65536) - 268435456 ≤ 70000 := by
    have c1 := circle (r := a % 16384) (by omega) (by omega)
    have c2 := circle (r := 16384 - a % 16384) (by omega) (by omega)
    rw [show (16384 : Int) - (16384 - a % 16384) = a % 16384 by omega] at c2
    unfold sn
    rw [show a % 65536 % 16384 = a % 16384 by omega, show (a + 16384) % 65536 % 16384 = a % 16384 by omega]
    have hq : a % 65536 / 16384 = 0 ∨ a % 65536 / 16384 = 1 ∨ a % 65536 / 16384 = 2 ∨ a % 65536 / 16384 = 3 := by omega
    rcases hq with q | q | q | q
    · rw [show (a + 16384) % 65536 / 16384 = 1 by omega, q]; simpa using c1
    · rw [show (a + 16384) % 65536 / 16384 = 2 by omega, q]; simpa [Int.neg_mul_neg] using c2
    · rw [show (a + 16384) % 65536 / 16384 = 3 by omega, q]; simpa [Int.neg_mul_neg] using c1
    · rw [show (a + 16384) % 65536 / 16384 = 0 by omega, q]; simpa [Int.neg_mul_neg] using c2
  refine Ev.congr (fun k => by rw [windhoverlaw02_TrigCircle.f, sin_f, cos_f]) ?_
  refine Ev.bind (f := fun k t => _) (Ev.now _) (Ev.bind (f := fun k t => _) (Ev.now _) ?_)
  generalize sn (a % 65536) = s at *
  generalize sn ((a + 16384) % 65536) = c at *
  refine Ev.congr (fun k => by rw [if_neg (by omega), if_neg (by omega), if_neg (by omega), if_neg (by omega)]) (Ev.bind awake_ev ?_)
  generalize s * s = p at *
  generalize c * c = q at *
  have w1 : wrap64 p = p := wsm (by omega) (by omega)
  have w2 : wrap64 q = q := wsm (by omega) (by omega)
  have w3 : wrap64 (p + q) = p + q := wsm (by omega) (by omega)
  have w4 : wrap64 (p + q - 268435456) = p + q - 268435456 := wsm (by omega) (by omega)
  refine Ev.congr (fun k => ?_) (Ev.now true)
  rw [if_pos rfl, w1, w2, w3, w4, if_pos (by omega)]
  simp
  omega

end Go.Proofs.Ytplfcbbaanjdgaa.Pure
