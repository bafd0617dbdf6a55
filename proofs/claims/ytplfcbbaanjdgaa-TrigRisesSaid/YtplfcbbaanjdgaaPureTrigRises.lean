/- The law TrigRises: in the first quarter the sine rises, the cosine falls, and the sine is not below half the angle. -/
import Derived.Test.YtplfcbbaanjdgaaPTrigRisesx3
namespace Go.Proofs.Ytplfcbbaanjdgaa.Pure
open Go.RowKit Go.Proofs.Ytplfcbbaanjdgaa.PTrigRises Go.Proofs.YtplfcbbaanjdgaaW.PrintWords Go.Proofs.YtplfcbbaanjdgaaW.PrintLast

set_option linter.unusedVariables false
set_option linter.unusedSimpArgs false
theorem wsm {a : Int} (h1 : -9223372036854775808 ≤ a) (h2 : a ≤ 9223372036854775807) : wrap64 a = a := by unfold wrap64; omega
theorem awake_ev : Ev (fun k => windhoverlaw02_awake.f k) true := by
  have h : windhoverlaw02_awake.f 40 = some true := by decide +kernel
  exact Ev.of (fun k => windhoverlaw02_awake.mono k) h
theorem and_low (a : Int) (n : Nat) (h : n ≤ 62) : Go.bits .and .i64 a (2 ^ n - 1) = a % 2 ^ n := by
  have pw : ∀ n : Fin 63, (2 : Int) ^ n.val = ((2 ^ n.val : Nat) : Int) ∧ (2 ^ n.val : Nat) ≤ 4611686018427387904 ∧ 18446744073709551616 % (2 ^ n.val : Nat) = 0 := by decide +kernel
  obtain ⟨p1, p2, p3⟩ := pw ⟨n, by omega⟩
  have p4 : 0 < (2 ^ n : Nat) := Nat.two_pow_pos n
  have h1 : (BitVec.ofInt 64 (2 ^ n - 1)).toNat = 2 ^ n - 1 := by
    rw [BitVec.toNat_ofInt, p1]
    simp only at p2
    generalize (2 ^ n : Nat) = P at *
    omega
  show Go.IntKind.i64.wrap ((BitVec.ofInt 64 a &&& BitVec.ofInt 64 (2 ^ n - 1)).toNat : Int) = _
  rw [BitVec.toNat_and, h1, Nat.and_two_pow_sub_one_eq_mod, BitVec.toNat_ofInt, p1]
  simp only at p2 p3
  have d : ((2 ^ n : Nat) : Int) ∣ 18446744073709551616 := by
    have : (2 ^ n : Nat) ∣ 18446744073709551616 := Nat.dvd_of_mod_eq_zero p3
    exact Int.natCast_dvd_natCast.mpr this
  have e : (((a % ((2 ^ 64 : Nat) : Int)).toNat % 2 ^ n : Nat) : Int) = a % ((2 ^ n : Nat) : Int) := by
    rw [Int.natCast_emod, Int.toNat_of_nonneg (Int.emod_nonneg _ (by decide))]
    exact Int.emod_emod_of_dvd a d
  rw [e, IntKind.wrap_i64]
  have q0 := Int.emod_nonneg a (show ((2 ^ n : Nat) : Int) ≠ 0 by omega)
  have q1 := Int.emod_lt_of_pos a (show (0 : Int) < ((2 ^ n : Nat) : Int) by omega)
  generalize a % ((2 ^ n : Nat) : Int) = z at *
  omega
theorem and_16 (a : Int) : Go.bits .and .i64 a 65535 = a % 65536 := and_low a 16 (by decide)
theorem and_14 (a : Int) : Go.bits .and .i64 a 16383 = a % 16384 := and_low a 14 (by decide)
def Tb (i : Int) : Int := rd trig_sine.ns i
theorem tab_all : ∀ i : Fin 65, 0 ≤ Tb i.val ∧ Tb i.val ≤ Tb (mn ((i.val : Int) + 1) 64) ∧ Tb (mn ((i.val : Int) + 1) 64) ≤ 16384 := by decide +kernel
theorem tab_at (i : Int) (h0 : 0 ≤ i) (h1 : i < 65) : 0 ≤ Tb i ∧ Tb i ≤ Tb (mn (i + 1) 64) ∧ Tb (mn (i + 1) 64) ≤ 16384 := by
  have := tab_all ⟨i.toNat, by omega⟩
  rw [show ((i.toNat : Nat) : Int) = i from by omega] at this
  exact this
def S (r : Int) : Int := Tb (r / 256) + ((Tb (mn (r / 256 + 1) 64) - Tb (r / 256)) * (r % 256) + 128) / 256
theorem S_in {r : Int} (h0 : 0 ≤ r) (h1 : r ≤ 16384) : 0 ≤ S r ∧ S r ≤ 16384 ∧ 0 ≤ (Tb (mn (r / 256 + 1) 64) - Tb (r / 256)) * (r % 256) ∧ (Tb (mn (r / 256 + 1) 64) - Tb (r / 256)) * (r % 256) ≤ 16384 * 255 := by
  obtain ⟨t0, t1, t2⟩ := tab_at (r / 256) (by omega) (by omega)
  unfold S
  generalize Tb (mn (r / 256 + 1) 64) = B at *
  generalize Tb (r / 256) = A at *
  have m1 : (B - A) * (r % 256) ≤ (B - A) * 255 := Int.mul_le_mul_of_nonneg_left (by omega) (by omega)
  have m0 : 0 ≤ (B - A) * (r % 256) := Int.mul_nonneg (by omega) (by omega)
  generalize (B - A) * (r % 256) = p at *
  omega
theorem sine_f {r : Int} (h0 : 0 ≤ r) (h1 : r ≤ 16384) : trig_sine.f r = some (S r) := by
  obtain ⟨t0, t1, t2⟩ := tab_at (r / 256) (by omega) (by omega)
  obtain ⟨s0, s1, s2, s3⟩ := S_in h0 h1
  rw [trig_sine.f, if_pos ⟨h0, h1⟩, trig_between.f]
  unfold S at s0 s1 ⊢
  show some (wrap64 (wrap64 (Tb (r / 256)) + wrap64 (wrap64 (wrap64 (IntKind.u16.wrap (Tb (mn (r / 256 + 1) 64) - Tb (r / 256))) * (r % 256)) + 128) / 256)) = _
  generalize Tb (mn (r / 256 + 1) 64) = B at *
  generalize Tb (r / 256) = A at *
  have u : IntKind.u16.wrap (B - A) = B - A := by rw [IntKind.wrap_u16]; omega
  rw [u, wsm (a := A) (by omega) (by omega), wsm (a := B - A) (by omega) (by omega)]
  generalize (B - A) * (r % 256) = p at *
  rw [wsm (a := p) (by omega) (by omega), wsm (a := p + 128) (by omega) (by omega), wsm (by omega) (by omega)]
def sn (x : Int) : Int := if x / 16384 = 0 then S (x % 16384) else if x / 16384 = 1 then S (16384 - x % 16384) else if x / 16384 = 2 then -S (x % 16384) else -S (16384 - x % 16384)
theorem sin_f (a : Int) : trig_Sin.f a = some (sn (a % 65536)) := by
  have e0 : a % 65536 % 16384 = a % 16384 := by omega
  have e1 : Int.tdiv (a % 65536) 16384 = a % 65536 / 16384 := Int.tdiv_eq_ediv_of_nonneg (by omega)
  have e2 : wrap64 (a % 65536 / 16384) = a % 65536 / 16384 := wsm (by omega) (by omega)
  have e3 : wrap64 (16384 - a % 16384) = 16384 - a % 16384 := wsm (by omega) (by omega)
  have s1 := sine_f (r := a % 16384) (by omega) (by omega)
  have s2 := sine_f (r := 16384 - a % 16384) (by omega) (by omega)
  have b1 := S_in (r := a % 16384) (by omega) (by omega)
  have b2 := S_in (r := 16384 - a % 16384) (by omega) (by omega)
  rw [trig_Sin.f, and_16, and_14, e1, e2, e3, s1, s2]
  unfold sn
  rw [e0]
  by_cases c0 : a % 65536 / 16384 = 0
  · rw [if_pos c0, if_pos c0]; rfl
  · rw [if_neg c0, if_neg c0]
    by_cases c1 : a % 65536 / 16384 = 1
    · rw [if_pos c1, if_pos c1]; rfl
    · rw [if_neg c1, if_neg c1]
      by_cases c2 : a % 65536 / 16384 = 2
      · rw [if_pos c2, if_pos c2]
        show some (wrap64 (-S (a % 16384))) = _
        rw [wsm (by omega) (by omega)]
      · rw [if_neg c2, if_neg c2]
        show some (wrap64 (-S (16384 - a % 16384))) = _
        rw [wsm (by omega) (by omega)]
theorem cos_f (a : Int) : trig_Cos.f a = some (sn ((a + 16384) % 65536)) := by
  have : wrap64 (a + 16384) % 65536 = (a + 16384) % 65536 := by unfold wrap64; omega
  rw [trig_Cos.f, sin_f, this]; rfl
theorem up_all : ∀ i : Fin 64, ∀ f : Fin 256, S ((i.val : Int) * 256 + f.val) ≤ S ((i.val : Int) * 256 + f.val + 1) ∧ ((i.val : Int) * 256 + f.val) / 2 ≤ S ((i.val : Int) * 256 + f.val) := by decide +kernel
theorem up_at {r : Int} (h0 : 0 ≤ r) (h1 : r < 16384) : S r ≤ S (r + 1) ∧ r / 2 ≤ S r := by
  have c := up_all ⟨(r / 256).toNat, by omega⟩ ⟨(r % 256).toNat, by omega⟩
  simp only [show (((r / 256).toNat : Nat) : Int) = r / 256 from by omega, show (((r % 256).toNat : Nat) : Int) = r % 256 from by omega, show r / 256 * 256 + r % 256 = r from by omega] at c
  exact c
theorem S_mono : ∀ (n : Nat) (r : Int), 0 ≤ r → r + n ≤ 16384 → S r ≤ S (r + n)
  | 0, r, _, _ => by simp
  | n + 1, r, h0, h1 => by
    have i := S_mono n r h0 (by omega)
    have u := (up_at (r := r + n) (by omega) (by omega)).1
    rw [show r + ((n + 1 : Nat) : Int) = r + n + 1 by omega]
    omega
theorem S_le {x y : Int} (h0 : 0 ≤ x) (h : x ≤ y) (h1 : y ≤ 16384) : S x ≤ S y := by
  have := S_mono (y - x).toNat x h0 (by omega)
  rw [show x + ((y - x).toNat : Int) = y by omega] at this
  exact this
theorem top_S : S 16384 = 16384 := by decide +kernel
theorem sn_low {x : Int} (h0 : 0 ≤ x) (h1 : x ≤ 16384) : sn (x % 65536) = S x ∧ sn ((x + 16384) % 65536) = S (16384 - x) := by
  by_cases g : x = 16384
  · subst g; decide +kernel
  · unfold sn
    rw [show x % 65536 / 16384 = 0 by omega, show (x + 16384) % 65536 / 16384 = 1 by omega, show x % 65536 % 16384 = x by omega, show (x + 16384) % 65536 % 16384 = x by omega]
    simp
theorem TrigRises : windhoverlaw02_TrigRises.Pure := by
  intro a b ha hb
  apply Ev.rounds
  have yes : Ev (fun k => windhoverlaw02_TrigRises.j0 k a b true) true :=
    Ev.step (fun k => by rw [windhoverlaw02_TrigRises.j0, if_pos rfl]) (Ev.bind awake_ev (Ev.now _))
  by_cases h1 : a < 0
  · exact Ev.congr (fun k => by rw [windhoverlaw02_TrigRises.f, if_pos h1]) yes
  by_cases h2 : b < a
  · exact Ev.congr (fun k => by rw [windhoverlaw02_TrigRises.f, if_neg h1, if_pos h2]) yes
  by_cases h3 : b > 16384
  · exact Ev.congr (fun k => by rw [windhoverlaw02_TrigRises.f, if_neg h1, if_neg h2, decide_eq_true h3]) yes
  refine Ev.congr (fun k => by rw [windhoverlaw02_TrigRises.f, if_neg h1, if_neg h2, decide_eq_false h3]) ?_
  obtain ⟨a1, a2⟩ := sn_low (x := a) (by omega) (by omega)
  obtain ⟨b1, b2⟩ := sn_low (x := b) (by omega) (by omega)
  have m1 := S_le (x := a) (y := b) (by omega) (by omega) (by omega)
  have m2 := S_le (x := 16384 - b) (y := 16384 - a) (by omega) (by omega) (by omega)
  have m3 : b / 2 ≤ S b := by
    by_cases g : b = 16384
    · rw [g, top_S]; decide
    · exact (up_at (r := b) (by omega) (by omega)).2
  have w : wrap64 (Int.tdiv b 2) = b / 2 := by rw [Int.tdiv_eq_ediv_of_nonneg (by omega), wsm (by omega) (by omega)]
  refine Ev.step (fun k => by rw [windhoverlaw02_TrigRises.j0, if_neg (by decide), sin_f, sin_f, cos_f, cos_f, a1, a2, b1, b2, w]) ?_
  refine Ev.bind awake_ev (Ev.congr (fun k => ?_) (Ev.now true))
  simp [m1, m2, m3]

end Go.Proofs.Ytplfcbbaanjdgaa.Pure
