/- EstTurns: for any way of turning, a compass of est is off by no more than its bound, while what is measured is off by no more than it says and no way is half a turn, and the awake example holds. -/
import Derived.Test.YtpfnonfehkiemaaPEstTurnsx9
namespace Go.Proofs.Ytpfnonfehkiemaa.Pure
open Go.RowKit Go.Proofs.Ytpfnonfehkiemaa.PEstTurns Go.Proofs.YtpfnonfehkiemaaW.PrintWords Go.Proofs.YtpfnonfehkiemaaW.PrintLast

set_option linter.unusedVariables false
set_option linter.unusedSimpArgs false
theorem Ev.now {α : Type} (r : α) : Ev (fun _ => some r) r := ⟨0, fun _ _ => rfl⟩

theorem wsm {a : Int} (h1 : -9223372036854775808 ≤ a) (h2 : a ≤ 9223372036854775807) : wrap64 a = a := by unfold wrap64; omega
/-! ### A compass -/
set_option maxRecDepth 100000 in
theorem awake13_ev : Ev (fun k => windhoverlaw13_awake.f k) true := by
  have h : windhoverlaw13_awake.f 60 = some true := by decide +kernel
  exact Ev.of (fun k => windhoverlaw13_awake.mono k) h
def thr (ok : Bool) (er : Int) : Bool := if ok = true then decide (er ≥ 0) else false
theorem there_f (ok : Bool) (x er : Int) : est_there.f ok x er = some (thr ok er) := by unfold est_there.f thr; split <;> rfl
theorem thr_of {er : Int} (ok : Bool) (h : 0 ≤ er) : thr ok er = ok := by unfold thr; cases ok <;> simp [h]
theorem tm_of (h : Int) : (0 ≤ h ∧ Int.tmod h 1048576 = h % 1048576) ∨ (h < 0 ∧ Int.tmod h 1048576 = -((-h) % 1048576)) := by
  rcases Int.lt_or_le h 0 with g | g
  · right; refine ⟨g, ?_⟩
    have : h = -(-h) := by omega
    rw [this, Int.neg_tmod, Int.neg_neg, Int.tmod_eq_emod_of_nonneg (by omega)]
  · left; exact ⟨g, Int.tmod_eq_emod_of_nonneg g⟩
theorem tm_of16 (h : Int) : (0 ≤ h ∧ Int.tmod h 65536 = h % 65536) ∨ (h < 0 ∧ Int.tmod h 65536 = -((-h) % 65536)) := by
  rcases Int.lt_or_le h 0 with g | g
  · right; refine ⟨g, ?_⟩
    have : h = -(-h) := by omega
    rw [this, Int.neg_tmod, Int.neg_neg, Int.tmod_eq_emod_of_nonneg (by omega)]
  · left; exact ⟨g, Int.tmod_eq_emod_of_nonneg g⟩
theorem round_f (a : Int) : est_round.f a = some (a % 1048576) := by
  have h := tm_of a
  rw [est_round.f]
  obtain ⟨m, em⟩ : ∃ m, Int.tmod a 1048576 = m := ⟨_, rfl⟩
  rw [em] at h ⊢
  rw [wsm (by omega) (by omega), Int.tmod_eq_emod_of_nonneg (by omega)]
  congr 1; omega
theorem rround_f (a : Int) : windhoverref13_Round.f a = some (a % 1048576) := by
  have h := tm_of a
  rw [windhoverref13_Round.f]
  obtain ⟨m, em⟩ : ∃ m, Int.tmod a 1048576 = m := ⟨_, rfl⟩
  rw [em] at h ⊢
  by_cases c : m < 0
  · rw [if_pos c, wsm (by omega) (by omega)]; congr 1; omega
  · rw [if_neg c]; congr 1; omega
theorem angle_f (a : Int) : est_angle.f a = some ((16 * a) % 1048576) := by
  have h := tm_of16 a
  rw [est_angle.f, round_f]
  obtain ⟨m, em⟩ : ∃ m, Int.tmod a 65536 = m := ⟨_, rfl⟩
  rw [em] at h ⊢
  rw [wsm (by omega) (by omega)]
  show some ((16 * m) % 1048576) = _
  congr 1; omega
theorem rway_f {f t : Int} (hf : 0 ≤ f ∧ f < 1048576) (ht : 0 ≤ t ∧ t < 1048576) : windhoverref13_Way.f f t = some (if (t - f) % 1048576 ≥ 524288 then (t - f) % 1048576 - 1048576 else (t - f) % 1048576) := by
  rw [windhoverref13_Way.f, rround_f, rround_f]
  show ((windhoverref13_Round.f (wrap64 (t % 1048576 - f % 1048576))).bind fun t328 => _) = _
  rw [rround_f, show t % 1048576 = t by omega, show f % 1048576 = f by omega, wsm (a := t - f) (by omega) (by omega)]
  show (if (t - f) % 1048576 ≥ 524288 then some (wrap64 ((t - f) % 1048576 - 1048576)) else some ((t - f) % 1048576)) = _
  split
  · rw [wsm (by omega) (by omega)]
  · rfl
theorem hear_f (s0 s1 at_ b x er : Int) (ok : Bool) : ∃ t, est_patience_hear_67_0_0.f 5 true s0 s1 at_ b 0 ok x er = some (5, true, t, s1, at_, b) := by
  rw [est_patience_hear_67_0_0.f, there_f]
  cases h : thr ok er
  · exact ⟨wrap64 (s0 + 1), by simp⟩
  · exact ⟨0, by simp⟩
theorem heading_f (s0 s1 at_ b : Int) : ∃ g, est_Compass_Heading.f 5 true s0 s1 at_ b = some (at_, b, g, 5, true, s0, s1, at_, b) := by
  rw [est_Compass_Heading.f, est_patience_fresh_67_0_0.f, if_pos rfl]
  by_cases c : s0 ≤ 5
  · rw [if_pos c]
    show ∃ g, (if decide (s1 ≤ 5) = true then _ else _) = _
    by_cases d : s1 ≤ 5
    · exact ⟨_, by rw [if_pos (decide_eq_true d)]⟩
    · exact ⟨_, by rw [if_neg (by simpa using d)]⟩
  · rw [if_neg c]
    exact ⟨false, by simp⟩
/-- what is held: the truth is at the heading and a bit, which is at most the bound -/
def Hc (T at_ b : Int) : Prop := (0 ≤ T ∧ T < 1048576) ∧ (0 ≤ at_ ∧ at_ < 1048576) ∧ 0 ≤ b ∧ ∃ e k : Int, -b ≤ e ∧ e ≤ b ∧ T = at_ + e + 1048576 * k
theorem hc_hear {T a b off oH x : Int} (h : Hc T a b) (hb : b ≤ 404096) (ho : 0 ≤ off ∧ off ≤ 64) (hH : -off ≤ oH ∧ oH ≤ off) (hx : x = (T + 8) % 1048576 / 16 + oH) :
    Hc T ((a + (((16 * x) % 1048576 - a + 524288) % 1048576 - 524288) / 8) % 1048576) (7 * b / 8 + ((16 * (off + 1) + 7) / 8 + 1)) := by
  obtain ⟨hT, ha, hb0, e, k, e1, e2, e3⟩ := h
  obtain ⟨u, hu⟩ : ∃ u, (T + 8) % 1048576 = u := ⟨_, rfl⟩
  rw [hu] at hx
  obtain ⟨dl, hdl⟩ : ∃ dl, 16 * x - u + 8 = dl := ⟨_, rfl⟩
  have hd1 : -1031 ≤ dl ∧ dl ≤ 1032 ∧ -(16 * off) - 7 ≤ dl ∧ dl ≤ 16 * off + 8 := by omega
  have hang : ∃ j, (16 * x) % 1048576 = T + dl + 1048576 * j := ⟨((16 * x) % 1048576 - T - dl) / 1048576, by omega⟩
  obtain ⟨j, hj⟩ := hang
  have hd : ((16 * x) % 1048576 - a + 524288) % 1048576 - 524288 = e + dl := by rw [hj]; omega
  rw [hd]
  clear hj hd hdl hx hu
  refine ⟨hT, by omega, by omega, e - (e + dl) / 8, k + (a + (e + dl) / 8) / 1048576, by omega, by omega, by omega⟩
theorem hc_rate {T a b off oR t : Int} (h : Hc T a b) (hb : b ≤ 400000) (ho : 0 ≤ off ∧ off ≤ 64) (hR : -off ≤ oR ∧ oR ≤ off) (ht : -4000 ≤ t ∧ t ≤ 4000) : Hc ((T + t) % 1048576) ((a + (t + oR)) % 1048576) (b + off) := by
  obtain ⟨hT, ha, hb0, e, k, e1, e2, e3⟩ := h
  exact ⟨by omega, by omega, by omega, e - oR, k + (a + (t + oR)) / 1048576 - (T + t) / 1048576, by omega, by omega, by omega⟩
theorem hc_still {T a b t : Int} (h : Hc T a b) (hb : b ≤ 400000) (ht : -4000 ≤ t ∧ t ≤ 4000) : Hc ((T + t) % 1048576) a (b + 4096) := by
  obtain ⟨hT, ha, hb0, e, k, e1, e2, e3⟩ := h
  exact ⟨by omega, by omega, by omega, e + t, k - (T + t) / 1048576, by omega, by omega, by omega⟩
theorem mn_id {a b : Int} (h : a ≤ b) : mn a b = a := by unfold mn; rw [if_neg (by omega)]
theorem comp_j0 {T a b off oH x s0 s1 : Int} (okH : Bool) (h : Hc T a b) (hb : b ≤ 404096) (ho : 0 ≤ off ∧ off ≤ 64) (hH : -off ≤ oH ∧ oH ≤ off) (hx : x = (T + 8) % 1048576 / 16 + oH) :
    ∃ t0 a' b', Ev (fun k => est_Compass_Step.j0 k (16 * (off + 1)) 5 true s0 s1 a b okH x (off + 1)) (5, true, t0, s1, a', b') ∧ Hc T a' b' := by
  obtain ⟨t0, e0⟩ := hear_f s0 s1 a b x (off + 1) okH
  have hh := h
  obtain ⟨hT, ha, hb0, _⟩ := hh
  cases okH with
  | false =>
    refine ⟨t0, a, b, ?_, h⟩
    refine Ev.step (fun k => by rw [est_Compass_Step.j0, e0]) ?_
    refine Ev.bind (f := fun _ t => _) (Ev.now _) ?_
    refine Ev.congr (fun k => by rw [there_f, thr_of false (by omega)]) ?_
    exact Ev.bind (f := fun _ t => _) (Ev.now _) (Ev.congr (fun k => by rw [if_neg (by decide)]) (Ev.now _))
  | true =>
    have hc := hc_hear h hb ho hH hx
    refine ⟨t0, _, _, ?_, hc⟩
    obtain ⟨g, hg⟩ : ∃ g, (16 * x) % 1048576 = g := ⟨_, rfl⟩
    have g0 : 0 ≤ g ∧ g < 1048576 := by omega
    rw [hg] at hc ⊢
    have w1 : wrap64 (g - a) = g - a := wsm (by omega) (by omega)
    have w2 : wrap64 (g - a + 524288) = g - a + 524288 := wsm (by omega) (by omega)
    obtain ⟨d, hd⟩ : ∃ d, (g - a + 524288) % 1048576 = d := ⟨_, rfl⟩
    have d0 : 0 ≤ d ∧ d < 1048576 := by omega
    rw [hd] at hc ⊢
    have w3 : wrap64 (d - 524288) = d - 524288 := wsm (by omega) (by omega)
    have w4 : wrap64 (a + (d - 524288) / 8) = a + (d - 524288) / 8 := wsm (by omega) (by omega)
    have w5 : wrap64 (7 * b) = 7 * b := wsm (by omega) (by omega)
    have w6 : wrap64 (Int.tdiv (7 * b) 8) = 7 * b / 8 := by rw [Int.tdiv_eq_ediv_of_nonneg (by omega)]; exact wsm (by omega) (by omega)
    have w7 : wrap64 (16 * (off + 1) + 7) = 16 * (off + 1) + 7 := wsm (by omega) (by omega)
    have w8 : wrap64 (Int.tdiv (16 * (off + 1) + 7) 8) = (16 * (off + 1) + 7) / 8 := by rw [Int.tdiv_eq_ediv_of_nonneg (by omega)]; exact wsm (by omega) (by omega)
    have w9 : wrap64 ((16 * (off + 1) + 7) / 8 + 1) = (16 * (off + 1) + 7) / 8 + 1 := wsm (by omega) (by omega)
    have w10 : wrap64 (7 * b / 8 + ((16 * (off + 1) + 7) / 8 + 1)) = 7 * b / 8 + ((16 * (off + 1) + 7) / 8 + 1) := wsm (by omega) (by omega)
    have m1 : mn (7 * b / 8 + ((16 * (off + 1) + 7) / 8 + 1)) 524288 = 7 * b / 8 + ((16 * (off + 1) + 7) / 8 + 1) := mn_id (by omega)
    refine Ev.step (fun k => by rw [est_Compass_Step.j0, e0]) ?_
    refine Ev.bind (f := fun _ t => _) (Ev.now _) ?_
    refine Ev.congr (fun k => by rw [there_f, thr_of true (by omega)]) ?_
    refine Ev.bind (f := fun _ t => _) (Ev.now _) (Ev.congr (fun k => by rw [if_pos rfl, angle_f, hg]) ?_)
    refine Ev.bind (f := fun _ t => _) (Ev.now _) ?_
    refine Ev.congr (fun k => by rw [w1, w2, round_f, hd]) ?_
    refine Ev.bind (f := fun _ t => _) (Ev.now _) ?_
    refine Ev.congr (fun k => by rw [w3, w4, round_f]) ?_
    refine Ev.bind (f := fun _ t => _) (Ev.now _) ?_
    refine Ev.congr (fun k => by rw [w5, w6, w7, w8, w9, est_Compass_widen.f, w10, m1]) ?_
    exact Ev.bind (f := fun _ t => _) (Ev.now _) (Ev.now _)
theorem comp_step {T a b off oR oH t x s0 s1 : Int} (okR okH : Bool) (h : Hc T a b) (hb : b ≤ 400000) (ho : 0 ≤ off ∧ off ≤ 64) (hR : -off ≤ oR ∧ oR ≤ off) (hH : -off ≤ oH ∧ oH ≤ off) (ht : -4000 ≤ t ∧ t ≤ 4000) (hx : x = ((T + t) % 1048576 + 8) % 1048576 / 16 + oH) :
    ∃ t0 a' b', Ev (fun k => est_Compass_Step.f k 5 true s0 s1 a b okR (t + oR) off okH x (off + 1)) (5, true, t0, s1, a', b') ∧ Hc ((T + t) % 1048576) a' b' := by
  have hh := h
  obtain ⟨hT, ha, hb0, _⟩ := hh
  have m1 : mn off 65536 = off := mn_id (by omega)
  have m2 : mn (off + 1) 65536 = off + 1 := mn_id (by omega)
  have w0 : wrap64 (16 * (off + 1)) = 16 * (off + 1) := wsm (by omega) (by omega)
  cases okR with
  | false =>
    have hc := hc_still h hb ht
    obtain ⟨t0, a', b', e, r⟩ := comp_j0 (s0 := s0) (s1 := s1) okH hc (by omega) ho hH hx
    refine ⟨t0, a', b', ?_, r⟩
    have w1 : wrap64 (b + 4096) = b + 4096 := wsm (by omega) (by omega)
    have m3 : mn (b + 4096) 524288 = b + 4096 := mn_id (by omega)
    refine Ev.congr (fun k => by rw [est_Compass_Step.f, if_pos rfl, there_f, thr_of false ho.1]) ?_
    refine Ev.bind (f := fun _ t => _) (Ev.now _) (Ev.congr (fun k => by rw [if_neg (by decide), est_Compass_widen.f, w1, m3, m2, w0]) ?_)
    exact Ev.bind (f := fun _ t => _) (Ev.now _) e
  | true =>
    have hc := hc_rate h hb ho hR ht
    obtain ⟨t0, a', b', e, r⟩ := comp_j0 (s0 := s0) (s1 := s1) okH hc (by omega) ho hH hx
    refine ⟨t0, a', b', ?_, r⟩
    have tm : Int.tmod (t + oR) 1048576 = t + oR := by rcases tm_of (t + oR) with ⟨_, q⟩ | ⟨_, q⟩ <;> omega
    have w1 : wrap64 (a + (t + oR)) = a + (t + oR) := wsm (by omega) (by omega)
    have w2 : wrap64 (b + off) = b + off := wsm (by omega) (by omega)
    have m3 : mn (b + off) 524288 = b + off := mn_id (by omega)
    refine Ev.congr (fun k => by rw [est_Compass_Step.f, if_pos rfl, there_f, thr_of true ho.1]) ?_
    refine Ev.bind (f := fun _ t => _) (Ev.now _) (Ev.congr (fun k => by rw [if_pos rfl, tm, w1, round_f]) ?_)
    refine Ev.bind (f := fun _ t => _) (Ev.now _) (Ev.congr (fun k => by rw [est_Compass_widen.f, m1, w2, m3, m2, w0]) ?_)
    exact Ev.bind (f := fun _ t => _) (Ev.now _) e
theorem turns_loop {l : List S48} {off : Int} (hl : l.length ≤ 9223372036854775807) (ho : 0 ≤ off ∧ off ≤ 64) : ∀ (n i : Nat) (T s0 s1 a b : Int), i + n = l.length → Hc T a b → b ≤ 400000 →
    Ev (fun k => windhoverlaw13_EstTurns.l0 k off l T (i : Int) 5 true s0 s1 a b) true := by
  intro n
  have fin : Ev (fun k => (windhoverlaw13_awake.f k).bind fun t345 => some t345) true := Ev.bind awake13_ev (Ev.now true)
  induction n with
  | zero =>
    intro i T s0 s1 a b hi _ _
    exact Ev.step (fun k => by rw [windhoverlaw13_EstTurns.l0, if_neg (by omega)]) fin
  | succ n ih =>
    intro i T s0 s1 a b hi h hb
    obtain ⟨t, et⟩ : ∃ t, rd_T48 l (i : Int) = t := ⟨_, rfl⟩
    have wo : wrap64 (-off) = -off := wsm (by omega) (by omega)
    have w8 : wrap64 ((i : Int) + 1) = ((i + 1 : Nat) : Int) := by rw [wsm (by omega) (by omega)]; omega
    have out : ∀ f0 f1 f2 f3 f4, Ev (fun k => windhoverlaw13_EstTurns.j2 k off l T (i : Int) true 5 true s0 s1 a b f0 f1 f2 f3 f4) true := fun _ _ _ _ _ => Ev.step (fun k => by rw [windhoverlaw13_EstTurns.j2, if_pos rfl]) fin
    refine Ev.step (fun k => by rw [windhoverlaw13_EstTurns.l0, et, wo, if_pos (by omega), if_pos (by omega)]) ?_
    by_cases c1 : t.f0 < -4000
    · exact Ev.congr (fun k => by rw [if_pos c1]) (out _ _ _ _ _)
    by_cases c2 : t.f0 > 4000
    · exact Ev.congr (fun k => by rw [if_neg c1, if_pos c2]) (out _ _ _ _ _)
    by_cases c3 : t.f1 < -off
    · exact Ev.congr (fun k => by rw [if_neg c1, if_neg c2, if_pos c3]) (out _ _ _ _ _)
    by_cases c4 : t.f1 > off
    · exact Ev.congr (fun k => by rw [if_neg c1, if_neg c2, if_neg c3, if_pos c4]) (out _ _ _ _ _)
    by_cases c5 : t.f2 < -off
    · exact Ev.congr (fun k => by rw [if_neg c1, if_neg c2, if_neg c3, if_neg c4, if_pos c5]) (out _ _ _ _ _)
    refine Ev.congr (fun k => by rw [if_neg c1, if_neg c2, if_neg c3, if_neg c4, if_neg c5]) ?_
    by_cases c6 : t.f2 > off
    · exact Ev.congr (fun k => by rw [decide_eq_true c6]) (out _ _ _ _ _)
    have hh := h
    obtain ⟨hT, ha, hb0, _⟩ := hh
    obtain ⟨U, hU⟩ : ∃ U, (T + t.f0) % 1048576 = U := ⟨_, rfl⟩
    have U0 : 0 ≤ U ∧ U < 1048576 := by omega
    have w1 : wrap64 (T + t.f0) = T + t.f0 := wsm (by omega) (by omega)
    have w2 : wrap64 (U + 8) = U + 8 := wsm (by omega) (by omega)
    have w3 : wrap64 (t.f0 + t.f1) = t.f0 + t.f1 := wsm (by omega) (by omega)
    have w4 : wrap64 (Int.tdiv ((U + 8) % 1048576) 16) = (U + 8) % 1048576 / 16 := by rw [Int.tdiv_eq_ediv_of_nonneg (by omega)]; exact wsm (by omega) (by omega)
    have w5 : wrap64 ((U + 8) % 1048576 / 16 + t.f2) = (U + 8) % 1048576 / 16 + t.f2 := wsm (by omega) (by omega)
    have w6 : wrap64 (off + 1) = off + 1 := wsm (by omega) (by omega)
    obtain ⟨t0, a', b', e, r⟩ := comp_step (oR := t.f1) (oH := t.f2) (t := t.f0) (s0 := s0) (s1 := s1) (x := (U + 8) % 1048576 / 16 + t.f2) t.f3 t.f4 h hb ho (by omega) (by omega) (by omega) (by rw [hU])
    rw [hU] at r
    obtain ⟨g, eg⟩ := heading_f t0 s1 a' b'
    refine Ev.step (fun k => by rw [windhoverlaw13_EstTurns.j2, if_neg (by simpa using c6), w1, rround_f, hU]) ?_
    refine Ev.bind (f := fun _ t => _) (Ev.now _) ?_
    refine Ev.congr (fun k => by rw [w2, rround_f]) ?_
    refine Ev.bind (f := fun _ t => _) (Ev.now _) ?_
    refine Ev.congr (fun k => by rw [w3, w4, w5, w6]) ?_
    refine Ev.bind e ?_
    refine Ev.congr (fun k => by rw [eg]) ?_
    refine Ev.bind (f := fun _ t => _) (Ev.now _) ?_
    by_cases c7 : b' > 400000
    · exact Ev.congr (fun k => by rw [if_pos c7]) fin
    have nx := ih (i + 1) U t0 s1 a' b' (by omega) r (by omega)
    obtain ⟨_, ha', hb0', e2, k2, q1, q2, q3⟩ := r
    have hway : (if (a' - U) % 1048576 ≥ 524288 then (a' - U) % 1048576 - 1048576 else (a' - U) % 1048576) = -e2 := by split <;> omega
    have w9 : wrap64 (-b') = -b' := wsm (by omega) (by omega)
    refine Ev.congr (fun k => by rw [if_neg c7, rway_f U0 ha', hway]) ?_
    refine Ev.bind (f := fun _ t => _) (Ev.now _) ?_
    have n1 : ¬ -e2 > b' := by omega
    have n2 : ¬ -e2 < -b' := by omega
    exact Ev.congr (fun k => by rw [if_neg n1, w9, if_neg n2, w8]) nx
theorem EstTurns : windhoverlaw13_EstTurns.Pure := by
  intro st off l h1 h2 h3 h4
  apply Ev.rounds
  simp only [maxLen] at h3
  have fin : Ev (fun k => (windhoverlaw13_awake.f k).bind fun t338 => some t338) true := Ev.bind awake13_ev (Ev.now true)
  have out : Ev (fun k => windhoverlaw13_EstTurns.j0 k st off l true 5 false 0 0 0 0) true := Ev.step (fun k => by rw [windhoverlaw13_EstTurns.j0, if_pos rfl]) fin
  refine Ev.congr (fun k => by rw [windhoverlaw13_EstTurns.f, est_NewCompass.f, if_neg (by decide)]) ?_
  refine Ev.bind (f := fun _ t => _) (Ev.now _) ?_
  refine Ev.congr (fun k => by rw [if_pos rfl]) ?_
  by_cases c1 : st < 0
  · exact Ev.congr (fun k => by rw [if_pos c1]) out
  by_cases c2 : st ≥ 65536
  · exact Ev.congr (fun k => by rw [if_neg c1, if_pos c2]) out
  by_cases c3 : off < 0
  · exact Ev.congr (fun k => by rw [if_neg c1, if_neg c2, if_pos c3]) out
  refine Ev.congr (fun k => by rw [if_neg c1, if_neg c2, if_neg c3]) ?_
  by_cases c4 : off > 64
  · exact Ev.congr (fun k => by rw [decide_eq_true c4]) out
  have m1 : mn off 65536 = off := mn_id (by omega)
  have w1 : wrap64 (16 * off) = 16 * off := wsm (by omega) (by omega)
  have w2 : wrap64 (0 + 16 * off) = 16 * off := by rw [show 0 + 16 * off = 16 * off by omega]; exact w1
  have m2 : mn (16 * off) 524288 = 16 * off := mn_id (by omega)
  have w3 : wrap64 (16 * st) = 16 * st := wsm (by omega) (by omega)
  have first : Ev (fun k => est_Compass_Step.f k 5 false 0 0 0 0 false 0 0 true st off) (5, true, 0, 0, 16 * st, 16 * off) := by
    refine Ev.congr (fun k => by rw [est_Compass_Step.f, if_neg (by decide), there_f, thr_of true (by omega)]) ?_
    refine Ev.bind (f := fun _ t => _) (Ev.now _) (Ev.congr (fun k => by rw [if_pos rfl, angle_f, show (16 * st) % 1048576 = 16 * st by omega]) ?_)
    refine Ev.bind (f := fun _ t => _) (Ev.now _) (Ev.congr (fun k => by rw [est_Compass_widen.f, m1, w1, w2, m2]) ?_)
    exact Ev.bind (f := fun _ t => _) (Ev.now _) (Ev.now _)
  refine Ev.step (fun k => by rw [windhoverlaw13_EstTurns.j0, if_neg (by simpa using c4), w3]) ?_
  refine Ev.bind first ?_
  exact turns_loop (by omega) (by omega) l.length 0 (16 * st) 0 0 (16 * st) (16 * off) (by omega) ⟨by omega, by omega, by omega, 0, 0, by omega, by omega, by omega⟩ (by omega)

end Go.Proofs.Ytpfnonfehkiemaa.Pure
