/- The law TrigSins: sine and cosine are the document's for every angle. -/
import Derived.Test.YtplfcbbaanjdgaaPTrigSinsx4
namespace Go.Proofs.Ytplfcbbaanjdgaa.Pure
open Go.RowKit Go.Proofs.Ytplfcbbaanjdgaa.PTrigSins Go.Proofs.YtplfcbbaanjdgaaW.PrintWords Go.Proofs.YtplfcbbaanjdgaaW.PrintLast

set_option linter.unusedVariables false
set_option linter.unusedSimpArgs false
theorem wsm {a : Int} (h1 : -9223372036854775808 ≤ a) (h2 : a ≤ 9223372036854775807) : wrap64 a = a := by unfold wrap64; omega
theorem ev_eq {α : Type} {g : Nat → Option α} {r s : α} (h : r = s) (e : Ev g s) : Ev g r := h ▸ e
def I64 (n : Int) : Prop := -9223372036854775808 ≤ n ∧ n ≤ 9223372036854775807
theorem I64_of {a : Int} (h : (Lit.int .i64 a).wf = true) : I64 a := by
  simp [Lit.wf, IntKind.min, IntKind.max, IntKind.signed, IntKind.bits] at h
  unfold I64; omega
theorem awake_ev : Ev (fun k => windhoverlaw02_awake.f k) true := by
  have h : windhoverlaw02_awake.f 40 = some true := by decide +kernel
  exact Ev.of (fun k => windhoverlaw02_awake.mono k) h
theorem and_low (a : Int) (n : Nat) (h : n ≤ 62) : Go.bits .and .i64 a (2 ^ n - 1) = a % 2 ^ n := by
  have pw : ∀ n : Fin 63, (2 : Int) ^ n.val = ((2 ^ n.val : Nat) : Int) ∧ (2 ^ n.val : Nat) ≤ 4611686018427387904 ∧ 18446744073709551616 % (2 ^ n.val : Nat) = 0 := by decide +kernel
  obtain ⟨p1, p2, p3⟩ := pw ⟨n, by omega⟩
  have p4 : 0 < (2 ^ n : Nat) := Nat.two_pow_pos n
  have h1 : (BitVec.ofInt 64 (2 ^ n - 1)).toNat = 2 ^ n - 1 := by
    rw [BitVec.toNat_ofInt, p1]
    simp only at p2
    generalize (2 ^ n : Nat) = P at *
    omega
  show Go.IntKind.i64.wrap ((BitVec.ofInt 64 a &&& BitVec.ofInt 64 (2 ^ n - 1)).toNat : Int) = _
  rw [BitVec.toNat_and, h1, Nat.and_two_pow_sub_one_eq_mod, BitVec.toNat_ofInt, p1]
  simp only at p2 p3
  have d : ((2 ^ n : Nat) : Int) ∣ 18446744073709551616 := by
    have : (2 ^ n : Nat) ∣ 18446744073709551616 := Nat.dvd_of_mod_eq_zero p3
    exact Int.natCast_dvd_natCast.mpr this
  have e : (((a % ((2 ^ 64 : Nat) : Int)).toNat % 2 ^ n : Nat) : Int) = a % ((2 ^ n : Nat) : Int) := by
    rw [Int.natCast_emod, Int.toNat_of_nonneg (Int.emod_nonneg _ (by decide))]
    exact Int.emod_emod_of_dvd a d
  rw [e, IntKind.wrap_i64]
  have q0 := Int.emod_nonneg a (show ((2 ^ n : Nat) : Int) ≠ 0 by omega)
  have q1 := Int.emod_lt_of_pos a (show (0 : Int) < ((2 ^ n : Nat) : Int) by omega)
  generalize a % ((2 ^ n : Nat) : Int) = z at *
  omega
theorem and_16 (a : Int) : Go.bits .and .i64 a 65535 = a % 65536 := and_low a 16 (by decide)
theorem and_14 (a : Int) : Go.bits .and .i64 a 16383 = a % 16384 := and_low a 14 (by decide)
def Tb (i : Int) : Int := rd trig_sine.ns i
theorem tab_all : ∀ i : Fin 65, 0 ≤ Tb i.val ∧ Tb i.val ≤ Tb (mn ((i.val : Int) + 1) 64) ∧ Tb (mn ((i.val : Int) + 1) 64) ≤ 16384 := by decide +kernel
theorem tab_at (i : Int) (h0 : 0 ≤ i) (h1 : i < 65) : 0 ≤ Tb i ∧ Tb i ≤ Tb (mn (i + 1) 64) ∧ Tb (mn (i + 1) 64) ≤ 16384 := by
  have := tab_all ⟨i.toNat, by omega⟩
  rw [show ((i.toNat : Nat) : Int) = i from by omega] at this
  exact this
def S (r : Int) : Int := Tb (r / 256) + ((Tb (mn (r / 256 + 1) 64) - Tb (r / 256)) * (r % 256) + 128) / 256
theorem S_in {r : Int} (h0 : 0 ≤ r) (h1 : r ≤ 16384) : 0 ≤ S r ∧ S r ≤ 16384 ∧ 0 ≤ (Tb (mn (r / 256 + 1) 64) - Tb (r / 256)) * (r % 256) ∧ (Tb (mn (r / 256 + 1) 64) - Tb (r / 256)) * (r % 256) ≤ 16384 * 255 := by
  obtain ⟨t0, t1, t2⟩ := tab_at (r / 256) (by omega) (by omega)
  unfold S
  generalize Tb (mn (r / 256 + 1) 64) = B at *
  generalize Tb (r / 256) = A at *
  have m1 : (B - A) * (r % 256) ≤ (B - A) * 255 := Int.mul_le_mul_of_nonneg_left (by omega) (by omega)
  have m0 : 0 ≤ (B - A) * (r % 256) := Int.mul_nonneg (by omega) (by omega)
  generalize (B - A) * (r % 256) = p at *
  omega
theorem sine_f {r : Int} (h0 : 0 ≤ r) (h1 : r ≤ 16384) : trig_sine.f r = some (S r) := by
  obtain ⟨t0, t1, t2⟩ := tab_at (r / 256) (by omega) (by omega)
  obtain ⟨s0, s1, s2, s3⟩ := S_in h0 h1
  rw [trig_sine.f, if_pos ⟨h0, h1⟩, trig_between.f]
  unfold S at s0 s1 ⊢
  show some (wrap64 (wrap64 (Tb (r / 256)) + wrap64 (wrap64 (wrap64 (IntKind.u16.wrap (Tb (mn (r / 256 + 1) 64) - Tb (r / 256))) * (r % 256)) + 128) / 256)) = _
  generalize Tb (mn (r / 256 + 1) 64) = B at *
  generalize Tb (r / 256) = A at *
  have u : IntKind.u16.wrap (B - A) = B - A := by rw [IntKind.wrap_u16]; omega
  rw [u, wsm (a := A) (by omega) (by omega), wsm (a := B - A) (by omega) (by omega)]
  generalize (B - A) * (r % 256) = p at *
  rw [wsm (a := p) (by omega) (by omega), wsm (a := p + 128) (by omega) (by omega), wsm (by omega) (by omega)]
def sn (x : Int) : Int := if x / 16384 = 0 then S (x % 16384) else if x / 16384 = 1 then S (16384 - x % 16384) else if x / 16384 = 2 then -S (x % 16384) else -S (16384 - x % 16384)
theorem sin_f (a : Int) : trig_Sin.f a = some (sn (a % 65536)) := by
  have e0 : a % 65536 % 16384 = a % 16384 := by omega
  have e1 : Int.tdiv (a % 65536) 16384 = a % 65536 / 16384 := Int.tdiv_eq_ediv_of_nonneg (by omega)
  have e2 : wrap64 (a % 65536 / 16384) = a % 65536 / 16384 := wsm (by omega) (by omega)
  have e3 : wrap64 (16384 - a % 16384) = 16384 - a % 16384 := wsm (by omega) (by omega)
  have s1 := sine_f (r := a % 16384) (by omega) (by omega)
  have s2 := sine_f (r := 16384 - a % 16384) (by omega) (by omega)
  have b1 := S_in (r := a % 16384) (by omega) (by omega)
  have b2 := S_in (r := 16384 - a % 16384) (by omega) (by omega)
  rw [trig_Sin.f, and_16, and_14, e1, e2, e3, s1, s2]
  unfold sn
  rw [e0]
  by_cases c0 : a % 65536 / 16384 = 0
  · rw [if_pos c0, if_pos c0]; rfl
  · rw [if_neg c0, if_neg c0]
    by_cases c1 : a % 65536 / 16384 = 1
    · rw [if_pos c1, if_pos c1]; rfl
    · rw [if_neg c1, if_neg c1]
      by_cases c2 : a % 65536 / 16384 = 2
      · rw [if_pos c2, if_pos c2]
        show some (wrap64 (-S (a % 16384))) = _
        rw [wsm (by omega) (by omega)]
      · rw [if_neg c2, if_neg c2]
        show some (wrap64 (-S (16384 - a % 16384))) = _
        rw [wsm (by omega) (by omega)]
theorem cos_f (a : Int) : trig_Cos.f a = some (sn ((a + 16384) % 65536)) := by
  have : wrap64 (a + 16384) % 65536 = (a + 16384) % 65536 := by unfold wrap64; omega
  rw [trig_Cos.f, sin_f, this]; rfl
theorem place_f {a : Int} (A : I64 a) : windhoverref02_Place.f a = some (a % 65536) := by
  unfold I64 at A
  have T : (0 ≤ Int.tmod a 65536 ∧ Int.tmod a 65536 = a % 65536) ∨ (Int.tmod a 65536 < 0 ∧ Int.tmod a 65536 + 65536 = a % 65536) := by
    by_cases h : 0 ≤ a
    · have := Int.tmod_eq_emod_of_nonneg (a := a) (b := 65536) h
      omega
    · have := Int.tmod_eq_emod_of_nonneg (a := -a) (b := 65536) (by omega)
      rw [Int.neg_tmod] at this
      omega
  rw [windhoverref02_Place.f]
  rcases T with ⟨g, e⟩ | ⟨g, e⟩
  · rw [if_neg (by omega), e]
  · rw [if_pos g, e, wsm (by omega) (by omega)]
theorem at_f {r : Int} (h0 : 0 ≤ r) (h1 : r ≤ 16384) : windhoverref02_at.f trig_sine.ns r = some (S r) := by
  obtain ⟨t0, t1, t2⟩ := tab_at (r / 256) (by omega) (by omega)
  obtain ⟨s0, s1, s2, s3⟩ := S_in h0 h1
  have l : (trig_sine.ns.length : Int) = 65 := rfl
  have e1 : Int.tdiv r 256 = r / 256 := Int.tdiv_eq_ediv_of_nonneg h0
  have e2 : Int.tmod r 256 = r % 256 := Int.tmod_eq_emod_of_nonneg h0
  have e3 : wrap64 (r / 256) = r / 256 := wsm (by omega) (by omega)
  have e4 : wrap64 (r / 256 + 1) = r / 256 + 1 := wsm (by omega) (by omega)
  rw [windhoverref02_at.f, l, e1, e2, e3, e4]
  unfold S at s0 s1 ⊢
  by_cases g : r % 256 = 0
  · rw [if_pos g, if_pos (by omega), if_pos (by omega), g]
    show some (Tb (r / 256)) = _
    rw [Int.mul_zero]; congr 1; omega
  · rw [if_neg g, if_pos (by omega), if_pos (by omega), if_pos (by omega), if_pos (by omega)]
    have m : mn (r / 256 + 1) 64 = r / 256 + 1 := by unfold mn; rw [if_neg (by omega)]
    rw [m] at s0 s1 s2 s3 t1 t2 ⊢
    show some (wrap64 (Tb (r / 256) + wrap64 (Int.tdiv (wrap64 (wrap64 (wrap64 (Tb (r / 256 + 1) - Tb (r / 256)) * (r % 256)) + 128)) 256))) = _
    generalize Tb (r / 256 + 1) = B at *
    generalize Tb (r / 256) = A at *
    rw [wsm (a := B - A) (by omega) (by omega)]
    generalize (B - A) * (r % 256) = p at *
    rw [wsm (a := p) (by omega) (by omega), wsm (a := p + 128) (by omega) (by omega), Int.tdiv_eq_ediv_of_nonneg (by omega), wsm (a := (p + 128) / 256) (by omega) (by omega), wsm (by omega) (by omega)]
theorem rsin_ev {a : Int} (A : I64 a) : Ev (fun k => windhoverref02_Sin.f k a) (sn (a % 65536)) := by
  have e1 : Int.tdiv (a % 65536) 16384 = a % 65536 / 16384 := Int.tdiv_eq_ediv_of_nonneg (by omega)
  have e2 : wrap64 (a % 65536 / 16384) = a % 65536 / 16384 := wsm (by omega) (by omega)
  have e3 : Int.tmod (a % 65536) 16384 = a % 65536 % 16384 := Int.tmod_eq_emod_of_nonneg (by omega)
  have e4 : Int.tmod (a % 65536 / 16384) 2 = a % 65536 / 16384 % 2 := Int.tmod_eq_emod_of_nonneg (by omega)
  have e5 : wrap64 (16384 - a % 65536 % 16384) = 16384 - a % 65536 % 16384 := wsm (by omega) (by omega)
  have a1 := at_f (r := a % 65536 % 16384) (by omega) (by omega)
  have a2 := at_f (r := 16384 - a % 65536 % 16384) (by omega) (by omega)
  have b1 := S_in (r := a % 65536 % 16384) (by omega) (by omega)
  have b2 := S_in (r := 16384 - a % 65536 % 16384) (by omega) (by omega)
  have js : ∀ q r v : Int, windhoverref02_at.f trig_sine.ns r = some v → 0 ≤ v ∧ v ≤ 16384 → Ev (fun k => windhoverref02_Sin.j0 k q r) (if q ≥ 2 then -v else v) := by
    intro q r v h hv
    refine Ev.step (f := fun _ => some (if q ≥ 2 then -v else v)) (fun k => ?_) (Ev.now _)
    rw [windhoverref02_Sin.j0, windhoverref02_sines.f]
    show ((windhoverref02_at.f trig_sine.ns r).bind fun t => if q ≥ 2 then some (wrap64 (-t)) else some t) = _
    rw [h]
    show (if q ≥ 2 then some (wrap64 (-v)) else some v) = _
    rw [wsm (a := -v) (by omega) (by omega)]
    split <;> rfl
  refine Ev.congr (fun k => by rw [windhoverref02_Sin.f, place_f A]) ?_
  refine Ev.bind (f := fun k t => _) (Ev.now _) ?_
  refine Ev.congr (fun k => by rw [e1, e2, e3, e4, e5]) ?_
  unfold sn
  by_cases g : a % 65536 / 16384 % 2 = 1
  · refine Ev.congr (fun k => by rw [if_pos g]) (ev_eq ?_ (js _ _ _ a2 ⟨b2.1, b2.2.1⟩))
    have : a % 65536 / 16384 = 1 ∨ a % 65536 / 16384 = 3 := by omega
    rcases this with q | q <;> rw [q] <;> simp
  · refine Ev.congr (fun k => by rw [if_neg g]) (ev_eq ?_ (js _ _ _ a1 ⟨b1.1, b1.2.1⟩))
    have : a % 65536 / 16384 = 0 ∨ a % 65536 / 16384 = 2 := by omega
    rcases this with q | q <;> rw [q] <;> simp
theorem rcos_ev {a : Int} (A : I64 a) : Ev (fun k => windhoverref02_Cos.f k a) (sn ((a + 16384) % 65536)) := by
  have w : wrap64 (a % 65536 + 16384) = a % 65536 + 16384 := wsm (by omega) (by omega)
  refine Ev.congr (fun k => by rw [windhoverref02_Cos.f, place_f A]) ?_
  refine Ev.bind (f := fun k t => _) (Ev.now _) ?_
  refine Ev.congr (fun k => by rw [w]) ?_
  exact ev_eq (by congr 1; omega) (Ev.bind (f := fun _ t => some t) (rsin_ev (a := a % 65536 + 16384) (by unfold I64; omega)) (Ev.now _))
theorem TrigSins : windhoverlaw02_TrigSins.Pure := by
  intro a ha
  have A := I64_of ha
  apply Ev.rounds
  refine Ev.congr (fun k => by rw [windhoverlaw02_TrigSins.f, sin_f, cos_f]) ?_
  refine Ev.bind awake_ev ?_
  simp only [if_true]
  refine Ev.bind (f := fun k t => _) (Ev.now _) (Ev.bind (rsin_ev A) ?_)
  simp only [if_true]
  refine Ev.bind (f := fun k t => _) (Ev.now _) (Ev.bind (rcos_ev A) ?_)
  exact Ev.congr (fun k => by rw [beq_self_eq_true]) (Ev.now _)

end Go.Proofs.Ytplfcbbaanjdgaa.Pure
