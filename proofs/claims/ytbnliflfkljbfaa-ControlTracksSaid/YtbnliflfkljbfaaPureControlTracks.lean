/- ControlTracks: for every chase, an axis that a steer of the defaults leads stays as near to its reference as the air and the telling are off, and the awake example holds. -/
import Derived.Test.YtbnliflfkljbfaaPControlTracksx7
namespace Go.Proofs.Ytbnliflfkljbfaa.Pure
open Go.RowKit Go.Proofs.Ytbnliflfkljbfaa.PControlTracks Go.Proofs.YtbnliflfkljbfaaW.PrintWords Go.Proofs.YtbnliflfkljbfaaW.PrintLast

set_option linter.unusedVariables false
set_option linter.unusedSimpArgs false
theorem Ev.now {α : Type} (r : α) : Ev (fun _ => some r) r := ⟨0, fun _ _ => rfl⟩

theorem wsm {a : Int} (h1 : -9223372036854775808 ≤ a) (h2 : a ≤ 9223372036854775807) : wrap64 a = a := by unfold wrap64; omega
theorem ev_eq {α : Type} {g : Nat → Option α} {r s : α} (h : r = s) (e : Ev g s) : Ev g r := h ▸ e
def I64 (n : Int) : Prop := -9223372036854775808 ≤ n ∧ n ≤ 9223372036854775807

def sat (n : Int) : Int := if n > 9223372036854775807 then 9223372036854775807 else if n < -9223372036854775808 then -9223372036854775808 else n

theorem I64_of {a : Int} (h : (Lit.int .i64 a).wf = true) : I64 a := by
  simp [Lit.wf, IntKind.min, IntKind.max, IntKind.signed, IntKind.bits] at h
  unfold I64; omega

/-! ### Add, Sub, Mul: kept within an int -/
theorem add_ev' {a b : Int} (ha : I64 a) (hb : I64 b) : Ev (fun k => fix_Add.f k a b) (sat (a + b)) := by
  have key : ∀ c : Bool, c = decide (a > 0 ∧ b > 0 ∧ wrap64 (a + b) < 0) → Ev (fun k => fix_Add.j0 k a b (wrap64 (a + b)) c) (sat (a + b)) := by
    intro c hc
    refine Ev.step (f := fun _ => some (sat (a + b))) (fun k => ?_) (Ev.now _)
    rw [fix_Add.j0]
    unfold I64 at *
    have hw : (wrap64 (a + b) = a + b ∧ -9223372036854775808 ≤ a + b ∧ a + b ≤ 9223372036854775807) ∨ (wrap64 (a + b) = a + b - 18446744073709551616 ∧ a + b > 9223372036854775807) ∨ (wrap64 (a + b) = a + b + 18446744073709551616 ∧ a + b < -9223372036854775808) := by
      unfold wrap64; omega
    generalize wrap64 (a + b) = s at *
    unfold sat
    by_cases h : a > 0 ∧ b > 0 ∧ s < 0
    · rw [hc, if_pos (by simpa using h)]
      rw [if_pos (by omega)]
    · rw [hc, if_neg (by simpa using h)]
      by_cases h1 : a < 0
      · rw [if_pos h1]
        by_cases h2 : b < 0
        · rw [if_pos h2]
          by_cases h3 : s ≥ 0
          · rw [if_pos h3, if_neg (by omega), if_pos (by omega)]
          · rw [if_neg h3, if_neg (by omega), if_neg (by omega)]; congr 1; omega
        · rw [if_neg h2, if_neg (by omega), if_neg (by omega)]; congr 1; omega
      · rw [if_neg h1, if_neg (by omega), if_neg (by omega)]; congr 1; omega
  by_cases h1 : a > 0
  · by_cases h2 : b > 0
    · exact Ev.congr (fun k => by rw [fix_Add.f, if_pos h1, if_pos h2]) (key _ (by simp [h1, h2]))
    · exact Ev.congr (fun k => by rw [fix_Add.f, if_pos h1, if_neg h2]) (key _ (by simp [h2]))
  · exact Ev.congr (fun k => by rw [fix_Add.f, if_neg h1]) (key _ (by simp [h1]))
theorem sub_ev' {a b : Int} (ha : I64 a) (hb : I64 b) : Ev (fun k => fix_Sub.f k a b) (sat (a - b)) := by
  have key : ∀ c : Bool, c = decide (a ≥ 0 ∧ b < 0 ∧ wrap64 (a - b) < 0) → Ev (fun k => fix_Sub.j0 k a b (wrap64 (a - b)) c) (sat (a - b)) := by
    intro c hc
    refine Ev.step (f := fun _ => some (sat (a - b))) (fun k => ?_) (Ev.now _)
    rw [fix_Sub.j0]
    unfold I64 at *
    have hw : (wrap64 (a - b) = a - b ∧ -9223372036854775808 ≤ a - b ∧ a - b ≤ 9223372036854775807) ∨ (wrap64 (a - b) = a - b - 18446744073709551616 ∧ a - b > 9223372036854775807) ∨ (wrap64 (a - b) = a - b + 18446744073709551616 ∧ a - b < -9223372036854775808) := by
      unfold wrap64; omega
    generalize wrap64 (a - b) = s at *
    unfold sat
    by_cases h : a ≥ 0 ∧ b < 0 ∧ s < 0
    · rw [hc, if_pos (by simpa using h)]
      rw [if_pos (by omega)]
    · rw [hc, if_neg (by simpa using h)]
      by_cases h1 : a < 0
      · rw [if_pos h1]
        by_cases h2 : b > 0
        · rw [if_pos h2]
          by_cases h3 : s ≥ 0
          · rw [if_pos h3, if_neg (by omega), if_pos (by omega)]
          · rw [if_neg h3, if_neg (by omega), if_neg (by omega)]; congr 1; omega
        · rw [if_neg h2, if_neg (by omega), if_neg (by omega)]; congr 1; omega
      · rw [if_neg h1, if_neg (by omega), if_neg (by omega)]; congr 1; omega
  by_cases h1 : a ≥ 0
  · by_cases h2 : b < 0
    · exact Ev.congr (fun k => by rw [fix_Sub.f, if_pos h1, if_pos h2]) (key _ (by simp [h1, h2]))
    · exact Ev.congr (fun k => by rw [fix_Sub.f, if_pos h1, if_neg h2]) (key _ (by simp [h2]))
  · exact Ev.congr (fun k => by rw [fix_Sub.f, if_neg h1]) (key _ (by simp [h1]))

/-! ### A steer's step, where the numbers are small -/
set_option maxRecDepth 100000 in
theorem awake17_ev : Ev (fun k => windhoverlaw17_awake.f k) true := by
  have h : windhoverlaw17_awake.f 120 = some true := by decide +kernel
  exact Ev.of (fun k => windhoverlaw17_awake.mono k) h
theorem clamp_f (a lo hi : Int) : fix_Clamp.f a lo hi = some (if a < lo then lo else if a > hi then hi else a) := by
  unfold fix_Clamp.f; split; · rfl
  split <;> rfl
theorem rclamp_f (a lo hi : Int) : windhoverref01_Clamp.f a lo hi = some (if a < lo then lo else if a > hi then hi else a) := by
  unfold windhoverref01_Clamp.f; split; · rfl
  split <;> rfl
theorem sat_in {a : Int} (h1 : -9223372036854775808 ≤ a) (h2 : a ≤ 9223372036854775807) : sat a = a := by unfold sat; rw [if_neg (by omega), if_neg (by omega)]
theorem add_small {a b : Int} (a1 : -4000000000000000000 ≤ a) (a2 : a ≤ 4000000000000000000) (b1 : -4000000000000000000 ≤ b) (b2 : b ≤ 4000000000000000000) : Ev (fun k => fix_Add.f k a b) (a + b) :=
  ev_eq (sat_in (by omega) (by omega)).symm (add_ev' (by unfold I64; omega) (by unfold I64; omega))
theorem sub_small {a b : Int} (a1 : -4000000000000000000 ≤ a) (a2 : a ≤ 4000000000000000000) (b1 : -4000000000000000000 ≤ b) (b2 : b ≤ 4000000000000000000) : Ev (fun k => fix_Sub.f k a b) (a - b) :=
  ev_eq (sat_in (by omega) (by omega)).symm (sub_ev' (by unfold I64; omega) (by unfold I64; omega))
def slw (r a : Int) : Int := if a > r then (if a < r + 12 then a else r + 12) else (if a > r - 12 then a else r - 12)
theorem slew_small {r a : Int} (r1 : -2000000000000 ≤ r) (r2 : r ≤ 2000000000000) (a1 : -2000000000000 ≤ a) (a2 : a ≤ 2000000000000) : Ev (fun k => fix_Slew.f k r a 12) (slw r a) := by
  unfold slw
  by_cases c : a > r
  · rw [if_pos c]
    refine Ev.congr (fun k => by rw [fix_Slew.f, if_neg (by decide), if_pos c]) ?_
    refine Ev.bind (add_small (by omega) (by omega) (by omega) (by omega)) ?_
    refine ev_eq ?_ (Ev.now _)
    unfold mn; split <;> split <;> omega
  · rw [if_neg c]
    refine Ev.congr (fun k => by rw [fix_Slew.f, if_neg (by decide), if_neg c]) ?_
    refine Ev.bind (sub_small (by omega) (by omega) (by omega) (by omega)) ?_
    refine ev_eq ?_ (Ev.now _)
    unfold mx; split <;> split <;> omega
theorem slw_of (r a : Int) : -12 ≤ slw r a - r ∧ slw r a - r ≤ 12 ∧ (slw r a ≤ r ∨ slw r a ≤ a) ∧ (r ≤ slw r a ∨ a ≤ slw r a) := by
  unfold slw; split <;> split <;> omega
theorem tracks_step {r a t : Int} (r1 : -1099511627776 ≤ r) (r2 : r ≤ 1099511627776) (a1 : -1099511627776 ≤ a) (a2 : a ≤ 1099511627776) (t1 : -2000000000000 ≤ t) (t2 : t ≤ 2000000000000) :
    Ev (fun k => control_Steer_Step.f k 12 r 0 0 false 0 a false 0 0 false 0 0 0 0 0 t 0 0) (if slw r a - t < -64 then -64 else if slw r a - t > 64 then 64 else slw r a - t, 0, 0, 12, slw r a, 0, 0) := by
  have hs := slw_of r a
  have s0 : slw 0 0 = 0 := by decide
  have z : Ev (fun k => fix_Slew.f k 0 0 12) 0 := ev_eq s0.symm (slew_small (by decide) (by decide) (by decide) (by decide))
  have y : Ev (fun k => fix_Sub.f k 0 0) 0 := sub_small (by decide) (by decide) (by decide) (by decide)
  refine Ev.congr (fun k => by rw [control_Steer_Step.f]) ?_
  refine Ev.step (fun k => by rw [control_Steer_Step.l0, if_pos (by decide), if_pos rfl, if_neg (by decide), control_Steer_drift.f]) ?_
  refine Ev.bind (f := fun _ t => _) (Ev.now _) ?_
  refine Ev.bind (slew_small (r := r) (a := a) (by omega) (by omega) (by omega) (by omega)) ?_
  refine Ev.bind (sub_small (by omega) (by omega) (by omega) (by omega)) ?_
  refine Ev.congr (fun k => by rw [clamp_f]) ?_
  refine Ev.bind (f := fun _ t => _) (Ev.now _) ?_
  refine Ev.step (fun k => by rw [control_Steer_Step.l0, if_pos (by decide), if_neg (by decide), if_pos rfl, if_neg (by decide), control_Steer_drift.f]) ?_
  refine Ev.bind (f := fun _ t => _) (Ev.now _) ?_
  refine Ev.bind z ?_
  refine Ev.bind y ?_
  refine Ev.congr (fun k => by rw [clamp_f]) ?_
  refine Ev.bind (f := fun _ t => _) (Ev.now _) ?_
  refine Ev.step (fun k => by rw [control_Steer_Step.l0, if_pos (by decide), if_neg (by decide), if_neg (by decide), if_pos rfl, if_neg (by decide), control_Steer_drift.f]) ?_
  refine Ev.bind (f := fun _ t => _) (Ev.now _) ?_
  refine Ev.bind z ?_
  refine Ev.bind y ?_
  refine Ev.congr (fun k => by rw [clamp_f]) ?_
  refine Ev.bind (f := fun _ t => _) (Ev.now _) ?_
  refine Ev.step (fun k => by rw [control_Steer_Step.l0, if_neg (by decide)]) ?_
  exact Ev.now _

/-! ### The chase -/
def dflt : List Int := [6, 20, 4, 20, 4, 2, 12, 16000, 8000, 8000, 5000, 2000, 1000, 500, 4000, 400, 8, 1000, 100, 1, 2, 500, 4000, 800]
set_option maxRecDepth 100000 in
theorem dflt_ev : Ev (fun k => params_Defaults.f k) dflt := by
  have h : params_Defaults.f 60 = some dflt := by decide +kernel
  exact Ev.of (fun k => params_Defaults.mono k) h
set_option maxRecDepth 100000 in
theorem dnew_ev : Ev (fun k => control_New.f k dflt) (12, 0, 0, 0, 0) := by
  have h : control_New.f 60 dflt = some (12, 0, 0, 0, 0) := by decide +kernel
  exact Ev.of (fun k => control_New.mono dflt k) h
section
variable {l0 l1 l2 : List Int} {off dev : Int}
theorem tracks_loop (h0 : l0.length ≤ 9223372036854775807) (o0 : 0 ≤ off) (d0 : 0 ≤ dev) (hod : 12 + dev + 2 * off ≤ 64) :
    ∀ (n i : Nat) (v r : Int), i + n = l0.length → -1099511627776 ≤ r → r ≤ 1099511627776 → -(off + dev) ≤ v - r → v - r ≤ off + dev →
      Ev (fun k => windhoverlaw17_ControlTracks.l0 k 12 v (i : Int) l0 l1 l2 off dev 12 r 0 0) true := by
  intro n
  have fin : Ev (fun k => (windhoverlaw17_awake.f k).bind fun t400 => some t400) true := Ev.bind awake17_ev (Ev.now true)
  induction n with
  | zero =>
    intro i v r hi _ _ _ _
    refine Ev.step (fun k => by rw [windhoverlaw17_ControlTracks.l0, if_neg (by omega)]) ?_
    exact Ev.step (fun k => by rw [windhoverlaw17_ControlTracks.j2, if_neg (by decide)]) fin
  | succ n ih =>
    intro i v r hi r1 r2 e1 e2
    refine Ev.step (fun k => by rw [windhoverlaw17_ControlTracks.l0, if_pos (by omega)]) ?_
    by_cases c1 : (i : Int) < (l1.length : Int)
    · refine Ev.congr (fun k => by rw [if_pos c1]) ?_
      by_cases c2 : (i : Int) < (l2.length : Int)
      · have wo : wrap64 (-off) = -off := wsm (by omega) (by omega)
        have wd : wrap64 (-dev) = -dev := wsm (by omega) (by omega)
        refine Ev.step (fun k => by rw [windhoverlaw17_ControlTracks.j2, if_pos (decide_eq_true c2), if_pos (by omega), if_pos c1, wo, wd, rclamp_f]) ?_
        refine Ev.bind (f := fun _ t => _) (Ev.now _) ?_
        obtain ⟨q, hq⟩ : ∃ q, (if rd l1 (i : Int) < -off then -off else if rd l1 (i : Int) > off then off else rd l1 (i : Int)) = q := ⟨_, rfl⟩
        have q12 : -off ≤ q ∧ q ≤ off := by rw [← hq]; split <;> first | omega | (split <;> omega)
        rw [hq]
        clear hq
        refine Ev.congr (fun k => by rw [control_Steer_Refs.f]) ?_
        refine Ev.bind (f := fun _ t => _) (Ev.now _) ?_
        refine Ev.congr (fun k => by rw [if_pos (by omega), rclamp_f]) ?_
        refine Ev.bind (f := fun _ t => _) (Ev.now _) ?_
        obtain ⟨a, ha⟩ : ∃ a, (if rd l0 (i : Int) < -1099511627776 then -1099511627776 else if rd l0 (i : Int) > 1099511627776 then 1099511627776 else rd l0 (i : Int)) = a := ⟨_, rfl⟩
        have a12 : -1099511627776 ≤ a ∧ a ≤ 1099511627776 := by rw [← ha]; split <;> first | omega | (split <;> omega)
        rw [ha]
        clear ha
        have wt : wrap64 (v + q) = v + q := wsm (by omega) (by omega)
        refine Ev.congr (fun k => by rw [wt]) ?_
        refine Ev.bind (tracks_step r1 r2 a12.1 a12.2 (by omega) (by omega)) ?_
        obtain ⟨s, hs⟩ : ∃ s, slw r a = s := ⟨_, rfl⟩
        have sl := slw_of r a
        rw [hs] at sl ⊢
        clear hs
        rw [if_neg (by omega), if_neg (by omega)]
        refine Ev.congr (fun k => by rw [control_Steer_Refs.f]) ?_
        refine Ev.bind (f := fun _ t => _) (Ev.now _) ?_
        refine Ev.congr (fun k => by rw [if_pos c2, rclamp_f]) ?_
        refine Ev.bind (f := fun _ t => _) (Ev.now _) ?_
        obtain ⟨u, hu⟩ : ∃ u, (if rd l2 (i : Int) < -dev then -dev else if rd l2 (i : Int) > dev then dev else rd l2 (i : Int)) = u := ⟨_, rfl⟩
        have u12 : -dev ≤ u ∧ u ≤ dev := by rw [← hu]; split <;> first | omega | (split <;> omega)
        rw [hu]
        clear hu
        have w1 : wrap64 (s - r) = s - r := wsm (by omega) (by omega)
        have w2 : wrap64 (r - s) = r - s := wsm (by omega) (by omega)
        have w3 : wrap64 (v + (s - (v + q))) = s - q := by rw [show v + (s - (v + q)) = s - q by omega]; exact wsm (by omega) (by omega)
        have w4 : wrap64 (s - q + u) = s - q + u := wsm (by omega) (by omega)
        have w5 : wrap64 (s - q + u - s) = u - q := by rw [show s - q + u - s = u - q by omega]; exact wsm (by omega) (by omega)
        have w6 : wrap64 (s - (s - q + u)) = q - u := by rw [show s - (s - q + u) = q - u by omega]; exact wsm (by omega) (by omega)
        have w7 : wrap64 (off + dev) = off + dev := wsm (by omega) (by omega)
        have w8 : wrap64 ((i : Int) + 1) = ((i + 1 : Nat) : Int) := by rw [wsm (by omega) (by omega)]; omega
        refine Ev.congr (fun k => by rw [w1, w2, w3, w4, w5, w6, w7, w8, if_neg (by omega), if_neg (by omega), if_neg (by omega), if_neg (by omega)]) ?_
        exact ih (i + 1) (s - q + u) s (by omega) (by omega) (by omega) (by omega) (by omega)
      · exact Ev.step (fun k => by rw [windhoverlaw17_ControlTracks.j2, if_neg (by simpa using c2)]) fin
    · refine Ev.congr (fun k => by rw [if_neg c1]) ?_
      exact Ev.step (fun k => by rw [windhoverlaw17_ControlTracks.j2, if_neg (by decide)]) fin
end
theorem ControlTracks : windhoverlaw17_ControlTracks.Pure := by
  intro l0 l1 l2 off dev h1 _ h3 _ h5 _ h7 h8
  apply Ev.rounds
  simp only [maxLen] at h1
  have O := I64_of h7
  have D := I64_of h8
  unfold I64 at O D
  have fin : Ev (fun k => (windhoverlaw17_awake.f k).bind fun t399 => some t399) true := Ev.bind awake17_ev (Ev.now true)
  have r6 : rd dflt 6 = 12 := by decide
  refine Ev.congr (fun k => by rw [windhoverlaw17_ControlTracks.f]) ?_
  refine Ev.bind dflt_ev ?_
  refine Ev.bind dnew_ev ?_
  refine Ev.congr (fun k => by rw [if_pos rfl]) ?_
  refine Ev.bind dflt_ev ?_
  refine Ev.congr (fun k => by rw [if_pos (by decide), r6]) ?_
  have out : ∀ x : Int, Ev (fun k => windhoverlaw17_ControlTracks.j0 k x true l0 l1 l2 off dev 12 0 0 0) true := fun x => Ev.step (fun k => by rw [windhoverlaw17_ControlTracks.j0, if_pos rfl]) fin
  by_cases c1 : off < 0
  · exact Ev.congr (fun k => by rw [if_pos c1]) (out _)
  by_cases c2 : dev < 0
  · exact Ev.congr (fun k => by rw [if_neg c1, if_pos c2]) (out _)
  by_cases c3 : off > 64
  · exact Ev.congr (fun k => by rw [if_neg c1, if_neg c2, if_pos c3]) (out _)
  by_cases c4 : dev > 64
  · exact Ev.congr (fun k => by rw [if_neg c1, if_neg c2, if_neg c3, if_pos c4]) (out _)
  have w1 : wrap64 (12 + dev) = 12 + dev := wsm (by omega) (by omega)
  have w2 : wrap64 (2 * off) = 2 * off := wsm (by omega) (by omega)
  have w3 : wrap64 (12 + dev + 2 * off) = 12 + dev + 2 * off := wsm (by omega) (by omega)
  refine Ev.congr (fun k => by rw [if_neg c1, if_neg c2, if_neg c3, if_neg c4, w1, w2, w3]) ?_
  by_cases c5 : 12 + dev + 2 * off > 64
  · exact Ev.congr (fun k => by rw [decide_eq_true c5]) (out _)
  · refine Ev.step (fun k => by rw [windhoverlaw17_ControlTracks.j0, if_neg (by simpa using c5)]) ?_
    exact tracks_loop (by omega) (by omega) (by omega) (by omega) l0.length 0 0 0 (by omega) (by omega) (by omega) (by omega) (by omega)

end Go.Proofs.Ytbnliflfkljbfaa.Pure
