/- The law TrigMirrors: sine and cosine are mirrored at the quarters, for every angle. -/
import Derived.Test.YtplfcbbaanjdgaaPTrigMirrorsx3
namespace Go.Proofs.Ytplfcbbaanjdgaa.Pure
open Go.RowKit Go.Proofs.Ytplfcbbaanjdgaa.PTrigMirrors Go.Proofs.YtplfcbbaanjdgaaW.PrintWords Go.Proofs.YtplfcbbaanjdgaaW.PrintLast

set_option linter.unusedVariables false
set_option linter.unusedSimpArgs false
theorem wsm {a : Int} (h1 : -9223372036854775808 ≤ a) (h2 : a ≤ 9223372036854775807) : wrap64 a = a := by unfold wrap64; omega
def I64 (n : Int) : Prop := -9223372036854775808 ≤ n ∧ n ≤ 9223372036854775807
theorem I64_of {a : Int} (h : (Lit.int .i64 a).wf = true) : I64 a := by
  simp [Lit.wf, IntKind.min, IntKind.max, IntKind.signed, IntKind.bits] at h
  unfold I64; omega
theorem awake_ev : Ev (fun k => windhoverlaw02_awake.f k) true := by
  have h : windhoverlaw02_awake.f 40 = some true := by decide +kernel
  exact Ev.of (fun k => windhoverlaw02_awake.mono k) h
theorem and_low (a : Int) (n : Nat) (h : n ≤ 62) : Go.bits .and .i64 a (2 ^ n - 1) = a % 2 ^ n := by
  have pw : ∀ n : Fin 63, (2 : Int) ^ n.val = ((2 ^ n.val : Nat) : Int) ∧ (2 ^ n.val : Nat) ≤ 4611686018427387904 ∧ 18446744073709551616 % (2 ^ n.val : Nat) = 0 := by decide +kernel
  obtain ⟨p1, p2, p3⟩ := pw ⟨n, by omega⟩
  have p4 : 0 < (2 ^ n : Nat) := Nat.two_pow_pos n
  have h1 : (BitVec.ofInt 64 (2 ^ n - 1)).toNat = 2 ^ n - 1 := by
    rw [BitVec.toNat_ofInt, p1]
    simp only at p2
    generalize (2 ^ n : Nat) = P at *
    omega
  show Go.IntKind.i64.wrap ((BitVec.ofInt 64 a &&& BitVec.ofInt 64 (2 ^ n - 1)).toNat : Int) = _
  rw [BitVec.toNat_and, h1, Nat.and_two_pow_sub_one_eq_mod, BitVec.toNat_ofInt, p1]
  simp only at p2 p3
  have d : ((2 ^ n : Nat) : Int) ∣ 18446744073709551616 := by
    have : (2 ^ n : Nat) ∣ 18446744073709551616 := Nat.dvd_of_mod_eq_zero p3
    exact Int.natCast_dvd_natCast.mpr this
  have e : (((a % ((2 ^ 64 : Nat) : Int)).toNat % 2 ^ n : Nat) : Int) = a % ((2 ^ n : Nat) : Int) := by
    rw [Int.natCast_emod, Int.toNat_of_nonneg (Int.emod_nonneg _ (by decide))]
    exact Int.emod_emod_of_dvd a d
  rw [e, IntKind.wrap_i64]
  have q0 := Int.emod_nonneg a (show ((2 ^ n : Nat) : Int) ≠ 0 by omega)
  have q1 := Int.emod_lt_of_pos a (show (0 : Int) < ((2 ^ n : Nat) : Int) by omega)
  generalize a % ((2 ^ n : Nat) : Int) = z at *
  omega
theorem and_16 (a : Int) : Go.bits .and .i64 a 65535 = a % 65536 := and_low a 16 (by decide)
theorem and_14 (a : Int) : Go.bits .and .i64 a 16383 = a % 16384 := and_low a 14 (by decide)
def Tb (i : Int) : Int := rd trig_sine.ns i
theorem tab_all : ∀ i : Fin 65, 0 ≤ Tb i.val ∧ Tb i.val ≤ Tb (mn ((i.val : Int) + 1) 64) ∧ Tb (mn ((i.val : Int) + 1) 64) ≤ 16384 := by decide +kernel
theorem tab_at (i : Int) (h0 : 0 ≤ i) (h1 : i < 65) : 0 ≤ Tb i ∧ Tb i ≤ Tb (mn (i + 1) 64) ∧ Tb (mn (i + 1) 64) ≤ 16384 := by
  have := tab_all ⟨i.toNat, by omega⟩
  rw [show ((i.toNat : Nat) : Int) = i from by omega] at this
  exact this
def S (r : Int) : Int := Tb (r / 256) + ((Tb (mn (r / 256 + 1) 64) - Tb (r / 256)) * (r % 256) + 128) / 256
theorem S_in {r : Int} (h0 : 0 ≤ r) (h1 : r ≤ 16384) : 0 ≤ S r ∧ S r ≤ 16384 ∧ 0 ≤ (Tb (mn (r / 256 + 1) 64) - Tb (r / 256)) * (r % 256) ∧ (Tb (mn (r / 256 + 1) 64) - Tb (r / 256)) * (r % 256) ≤ 16384 * 255 := by
  obtain ⟨t0, t1, t2⟩ := tab_at (r / 256) (by omega) (by omega)
  unfold S
  generalize Tb (mn (r / 256 + 1) 64) = B at *
  generalize Tb (r / 256) = A at *
  have m1 : (B - A) * (r % 256) ≤ (B - A) * 255 := Int.mul_le_mul_of_nonneg_left (by omega) (by omega)
  have m0 : 0 ≤ (B - A) * (r % 256) := Int.mul_nonneg (by omega) (by omega)
  generalize (B - A) * (r % 256) = p at *
  omega
theorem sine_f {r : Int} (h0 : 0 ≤ r) (h1 : r ≤ 16384) : trig_sine.f r = some (S r) := by
  obtain ⟨t0, t1, t2⟩ := tab_at (r / 256) (by omega) (by omega)
  obtain ⟨s0, s1, s2, s3⟩ := S_in h0 h1
  rw [trig_sine.f, if_pos ⟨h0, h1⟩, trig_between.f]
  unfold S at s0 s1 ⊢
  show some (wrap64 (wrap64 (Tb (r / 256)) + wrap64 (wrap64 (wrap64 (IntKind.u16.wrap (Tb (mn (r / 256 + 1) 64) - Tb (r / 256))) * (r % 256)) + 128) / 256)) = _
  generalize Tb (mn (r / 256 + 1) 64) = B at *
  generalize Tb (r / 256) = A at *
  have u : IntKind.u16.wrap (B - A) = B - A := by rw [IntKind.wrap_u16]; omega
  rw [u, wsm (a := A) (by omega) (by omega), wsm (a := B - A) (by omega) (by omega)]
  generalize (B - A) * (r % 256) = p at *
  rw [wsm (a := p) (by omega) (by omega), wsm (a := p + 128) (by omega) (by omega), wsm (by omega) (by omega)]
def sn (x : Int) : Int := if x / 16384 = 0 then S (x % 16384) else if x / 16384 = 1 then S (16384 - x % 16384) else if x / 16384 = 2 then -S (x % 16384) else -S (16384 - x % 16384)
theorem sin_f (a : Int) : trig_Sin.f a = some (sn (a % 65536)) := by
  have e0 : a % 65536 % 16384 = a % 16384 := by omega
  have e1 : Int.tdiv (a % 65536) 16384 = a % 65536 / 16384 := Int.tdiv_eq_ediv_of_nonneg (by omega)
  have e2 : wrap64 (a % 65536 / 16384) = a % 65536 / 16384 := wsm (by omega) (by omega)
  have e3 : wrap64 (16384 - a % 16384) = 16384 - a % 16384 := wsm (by omega) (by omega)
  have s1 := sine_f (r := a % 16384) (by omega) (by omega)
  have s2 := sine_f (r := 16384 - a % 16384) (by omega) (by omega)
  have b1 := S_in (r := a % 16384) (by omega) (by omega)
  have b2 := S_in (r := 16384 - a % 16384) (by omega) (by omega)
  rw [trig_Sin.f, and_16, and_14, e1, e2, e3, s1, s2]
  unfold sn
  rw [e0]
  by_cases c0 : a % 65536 / 16384 = 0
  · rw [if_pos c0, if_pos c0]; rfl
  · rw [if_neg c0, if_neg c0]
    by_cases c1 : a % 65536 / 16384 = 1
    · rw [if_pos c1, if_pos c1]; rfl
    · rw [if_neg c1, if_neg c1]
      by_cases c2 : a % 65536 / 16384 = 2
      · rw [if_pos c2, if_pos c2]
        show some (wrap64 (-S (a % 16384))) = _
        rw [wsm (by omega) (by omega)]
      · rw [if_neg c2, if_neg c2]
        show some (wrap64 (-S (16384 - a % 16384))) = _
        rw [wsm (by omega) (by omega)]
theorem cos_f (a : Int) : trig_Cos.f a = some (sn ((a + 16384) % 65536)) := by
  have : wrap64 (a + 16384) % 65536 = (a + 16384) % 65536 := by unfold wrap64; omega
  rw [trig_Cos.f, sin_f, this]; rfl
theorem sn_in (x : Int) : -16384 ≤ sn x ∧ sn x ≤ 16384 := by
  have b1 := S_in (r := x % 16384) (by omega) (by omega)
  have b2 := S_in (r := 16384 - x % 16384) (by omega) (by omega)
  unfold sn
  split
  · omega
  · split
    · omega
    · split <;> omega

theorem sn_mirror (x : Int) : sn ((-x) % 65536) = -sn (x % 65536) ∧ sn ((x + 32768) % 65536) = -sn (x % 65536) ∧ sn ((32768 - x) % 65536) = sn (x % 65536) := by
  have z0 : S 0 = 0 := by decide +kernel
  have k1 : ∀ y : Int, S y = S y := fun _ => rfl
  have hq : x % 65536 / 16384 = 0 ∨ x % 65536 / 16384 = 1 ∨ x % 65536 / 16384 = 2 ∨ x % 65536 / 16384 = 3 := by omega
  have hr : x % 65536 % 16384 = x % 16384 := by omega
  have n1 : (-x) % 65536 % 16384 = if x % 16384 = 0 then 0 else 16384 - x % 16384 := by split <;> omega
  have n3 : (32768 - x) % 65536 % 16384 = if x % 16384 = 0 then 0 else 16384 - x % 16384 := by split <;> omega
  have n2 : (x + 32768) % 65536 % 16384 = x % 16384 := by omega
  have t : S 16384 = 16384 := by decide +kernel
  unfold sn
  rw [hr, n1, n2, n3]
  by_cases g : x % 16384 = 0
  · rw [if_pos g, g]
    simp only [Int.sub_zero, z0, t]
    rcases hq with q | q | q | q
    · rw [show (-x) % 65536 / 16384 = 0 by omega, show (x + 32768) % 65536 / 16384 = 2 by omega, show (32768 - x) % 65536 / 16384 = 2 by omega, q]; decide
    · rw [show (-x) % 65536 / 16384 = 3 by omega, show (x + 32768) % 65536 / 16384 = 3 by omega, show (32768 - x) % 65536 / 16384 = 1 by omega, q]; decide
    · rw [show (-x) % 65536 / 16384 = 2 by omega, show (x + 32768) % 65536 / 16384 = 0 by omega, show (32768 - x) % 65536 / 16384 = 0 by omega, q]; decide
    · rw [show (-x) % 65536 / 16384 = 1 by omega, show (x + 32768) % 65536 / 16384 = 1 by omega, show (32768 - x) % 65536 / 16384 = 3 by omega, q]; decide
  · rw [if_neg g, show (16384 : Int) - (16384 - x % 16384) = x % 16384 by omega]
    generalize S (x % 16384) = A at *
    generalize S (16384 - x % 16384) = B at *
    rcases hq with q | q | q | q
    · rw [show (-x) % 65536 / 16384 = 3 by omega, show (x + 32768) % 65536 / 16384 = 2 by omega, show (32768 - x) % 65536 / 16384 = 1 by omega, q]; simp
    · rw [show (-x) % 65536 / 16384 = 2 by omega, show (x + 32768) % 65536 / 16384 = 3 by omega, show (32768 - x) % 65536 / 16384 = 0 by omega, q]; simp
    · rw [show (-x) % 65536 / 16384 = 1 by omega, show (x + 32768) % 65536 / 16384 = 0 by omega, show (32768 - x) % 65536 / 16384 = 3 by omega, q]; simp
    · rw [show (-x) % 65536 / 16384 = 0 by omega, show (x + 32768) % 65536 / 16384 = 1 by omega, show (32768 - x) % 65536 / 16384 = 2 by omega, q]; simp
theorem TrigMirrors : windhoverlaw02_TrigMirrors.Pure := by
  intro a ha
  have A := I64_of ha
  unfold I64 at A
  apply Ev.rounds
  have T : ∃ t, Int.tmod a 65536 = t ∧ -65536 < t ∧ t < 65536 ∧ t % 65536 = a % 65536 := by
    by_cases h : 0 ≤ a
    · exact ⟨a % 65536, Int.tmod_eq_emod_of_nonneg h, by omega, by omega, by omega⟩
    · refine ⟨-((-a) % 65536), ?_, by omega, by omega, by omega⟩
      have := Int.tmod_eq_emod_of_nonneg (a := -a) (b := 65536) (by omega)
      rw [Int.neg_tmod] at this
      omega
  obtain ⟨t, ht, t0, t1, t2⟩ := T
  have w1 : wrap64 (-t) = -t := wsm (by omega) (by omega)
  have w2 : wrap64 (t + 32768) = t + 32768 := wsm (by omega) (by omega)
  have w3 : wrap64 (32768 - t) = 32768 - t := wsm (by omega) (by omega)
  have w4 : wrap64 (t + 16384) = t + 16384 := wsm (by omega) (by omega)
  have b := sn_in (t % 65536)
  have w5 : wrap64 (-sn (t % 65536)) = -sn (t % 65536) := wsm (by omega) (by omega)
  obtain ⟨m1, m2, m3⟩ := sn_mirror t
  have c1 : sn ((-t + 16384) % 65536) = sn ((t + 16384) % 65536) := by
    have := (sn_mirror (t + 16384)).2.2
    rw [show (32768 : Int) - (t + 16384) = -t + 16384 by omega] at this
    exact this
  refine Ev.congr (fun k => by rw [windhoverlaw02_TrigMirrors.f, ht, w1, w2, w3, sin_f, sin_f, sin_f, sin_f, sin_f, m1, m2, m3, ← t2]) ?_
  refine Ev.bind (f := fun k t => _) (Ev.now _) (Ev.bind (f := fun k t => _) (Ev.now _) ?_)
  refine Ev.congr (fun k => by rw [w5, if_pos rfl]) (Ev.bind (f := fun k t => _) (Ev.now _) ?_)
  refine Ev.congr (fun k => by rw [if_pos rfl]) (Ev.bind (f := fun k t => _) (Ev.now _) ?_)
  refine Ev.congr (fun k => by rw [if_pos rfl]) (Ev.bind (f := fun k t => _) (Ev.now _) ?_)
  refine Ev.step (fun k => by rw [windhoverlaw02_TrigMirrors.j0, cos_f, sin_f, w1, cos_f, w4, c1]) ?_
  refine Ev.bind awake_ev (Ev.congr (fun k => ?_) (Ev.now true))
  simp
  omega

end Go.Proofs.Ytplfcbbaanjdgaa.Pure
