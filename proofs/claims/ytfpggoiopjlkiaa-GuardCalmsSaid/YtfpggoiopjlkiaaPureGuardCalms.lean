/- A vehicle that the backup brakes comes nearly to rest in a bounded time and stays so, whatever the air does within its bound. -/
import Derived.Test.YtfpggoiopjlkiaaPGuardCalmsx7
namespace Go.Proofs.Ytfpggoiopjlkiaa.Pure
open Go.RowKit Go.Proofs.Ytfpggoiopjlkiaa.PGuardCalms Go.Proofs.YtfpggoiopjlkiaaW.PrintWords Go.Proofs.YtfpggoiopjlkiaaW.PrintLast

set_option linter.unusedVariables false
set_option linter.unusedSimpArgs false
theorem Ev.now {α : Type} (r : α) : Ev (fun _ => some r) r := ⟨0, fun _ _ => rfl⟩

/-! ### Whole numbers of any length, by digits of 2^30: the plain lists -/
def V : List Int → Int
  | [] => 0
  | d :: ds => d + 1073741824 * V ds
/-! ### The printed functions on whole numbers do what the plain lists say -/
theorem wsm {a : Int} (h1 : -9223372036854775808 ≤ a) (h2 : a ≤ 9223372036854775807) : wrap64 a = a := by unfold wrap64; omega
/-- A whole number, kept within an int. -/
def sat (n : Int) : Int := if n > 9223372036854775807 then 9223372036854775807 else if n < -9223372036854775808 then -9223372036854775808 else n
def I64 (n : Int) : Prop := -9223372036854775808 ≤ n ∧ n ≤ 9223372036854775807
theorem I64_of {a : Int} (h : (Lit.int .i64 a).wf = true) : I64 a := by
  simp [Lit.wf, IntKind.min, IntKind.max, IntKind.signed, IntKind.bits] at h
  unfold I64; omega

/-! ### Add, Sub, Mul: kept within an int -/
theorem sub_ev' {a b : Int} (ha : I64 a) (hb : I64 b) : Ev (fun k => fix_Sub.f k a b) (sat (a - b)) := by
  have key : ∀ c : Bool, c = decide (a ≥ 0 ∧ b < 0 ∧ wrap64 (a - b) < 0) → Ev (fun k => fix_Sub.j0 k a b (wrap64 (a - b)) c) (sat (a - b)) := by
    intro c hc
    refine Ev.step (f := fun _ => some (sat (a - b))) (fun k => ?_) (Ev.now _)
    rw [fix_Sub.j0]
    unfold I64 at *
    have hw : (wrap64 (a - b) = a - b ∧ -9223372036854775808 ≤ a - b ∧ a - b ≤ 9223372036854775807) ∨ (wrap64 (a - b) = a - b - 18446744073709551616 ∧ a - b > 9223372036854775807) ∨ (wrap64 (a - b) = a - b + 18446744073709551616 ∧ a - b < -9223372036854775808) := by
      unfold wrap64; omega
    generalize wrap64 (a - b) = s at *
    unfold sat
    by_cases h : a ≥ 0 ∧ b < 0 ∧ s < 0
    · rw [hc, if_pos (by simpa using h)]
      rw [if_pos (by omega)]
    · rw [hc, if_neg (by simpa using h)]
      by_cases h1 : a < 0
      · rw [if_pos h1]
        by_cases h2 : b > 0
        · rw [if_pos h2]
          by_cases h3 : s ≥ 0
          · rw [if_pos h3, if_neg (by omega), if_pos (by omega)]
          · rw [if_neg h3, if_neg (by omega), if_neg (by omega)]; congr 1; omega
        · rw [if_neg h2, if_neg (by omega), if_neg (by omega)]; congr 1; omega
      · rw [if_neg h1, if_neg (by omega), if_neg (by omega)]; congr 1; omega
  by_cases h1 : a ≥ 0
  · by_cases h2 : b < 0
    · exact Ev.congr (fun k => by rw [fix_Sub.f, if_pos h1, if_pos h2]) (key _ (by simp [h1, h2]))
    · exact Ev.congr (fun k => by rw [fix_Sub.f, if_pos h1, if_neg h2]) (key _ (by simp [h2]))
  · exact Ev.congr (fun k => by rw [fix_Sub.f, if_neg h1]) (key _ (by simp [h1]))

theorem awake_ev : Ev (fun k => windhoverlaw18_awake.f k) true := by
  have h : windhoverlaw18_awake.f 60 = some true := by decide +kernel
  exact Ev.of (fun k => windhoverlaw18_awake.mono k) h
theorem wI (a : Int) : I64 (wrap64 a) := by unfold I64 wrap64; omega
theorem mxI {a b : Int} (A : I64 a) (B : I64 b) : I64 (mx a b) := by unfold mx; split <;> assumption
def cl (a : Int) : Int := if a < -64 then -64 else if a > 64 then 64 else a
theorem fcl (a : Int) : fix_Clamp.f a (-64) 64 = some (cl a) := by
  rw [fix_Clamp.f]; unfold cl
  split
  · rfl
  · split <;> rfl
def rf (s0 : Int) (sink : Bool) (fall : Int) : Int := if sink = true then mx (wrap64 (s0 - 32)) (wrap64 (-(mx fall 0))) else 0
theorem rfI (s0 : Int) (sink : Bool) (fall : Int) : I64 (rf s0 sink fall) := by
  unfold rf
  split
  · exact mxI (wI _) (wI _)
  · unfold I64; decide
theorem step_ev {s0 s1 x y z fall : Int} (sink : Bool) (X : I64 x) (Y : I64 y) (Z : I64 z) : Ev (fun k => guard_Backup_Step.f k s0 s1 sink x y z fall) (cl (sat (0 - x)), cl (sat (0 - y)), cl (sat (rf s0 sink fall - z)), rf s0 sink fall, s1) := by
  have O : I64 0 := by unfold I64; decide
  refine Ev.congr (fun k => by rw [guard_Backup_Step.f]) ?_
  refine Ev.bind (f := fun k ref => _) (Ev.now (rf s0 sink fall)) ?_
  refine Ev.bind (sub_ev' O X) (Ev.congr (fun k => by rw [fcl]) ?_)
  refine Ev.bind (f := fun k t => _) (Ev.now _) ?_
  refine Ev.bind (sub_ev' O Y) (Ev.congr (fun k => by rw [fcl]) ?_)
  refine Ev.bind (f := fun k t => _) (Ev.now _) ?_
  refine Ev.bind (sub_ev' (rfI _ _ _) Z) (Ev.congr (fun k => by rw [fcl]) ?_)
  exact Ev.bind (f := fun k t => _) (Ev.now _) (Ev.now _)
theorem sat_id {a : Int} (h1 : -9223372036854775808 ≤ a) (h2 : a ≤ 9223372036854775807) : sat a = a := by
  unfold sat
  rw [if_neg (by omega), if_neg (by omega)]
theorem rclamp_in {a b : Int} (hb : 0 ≤ b) : ∃ t, windhoverref01_Clamp.f a (-b) b = some t ∧ -b ≤ t ∧ t ≤ b := by
  rw [windhoverref01_Clamp.f]
  by_cases h : a < -b
  · exact ⟨-b, by rw [if_pos h], by omega, by omega⟩
  · by_cases g : a > b
    · exact ⟨b, by rw [if_neg h, if_pos g], by omega, by omega⟩
    · exact ⟨a, by rw [if_neg h, if_neg g], by omega, by omega⟩
theorem calm_tick {v t r off dev K : Int} (ho : 0 ≤ off) (hd : 0 ≤ dev) (hs : off + dev ≤ 63) (ht : -off ≤ t ∧ t ≤ off) (hr : -dev ≤ r ∧ r ≤ dev)
    (hv : (-off - dev ≤ v ∧ v ≤ off + dev) ∨ (-K ≤ v ∧ v ≤ K)) : (-off - dev ≤ v + cl (-(v + t)) + r ∧ v + cl (-(v + t)) + r ≤ off + dev) ∨ (-(K - (64 - dev)) ≤ v + cl (-(v + t)) + r ∧ v + cl (-(v + t)) + r ≤ K - (64 - dev)) := by
  unfold cl
  by_cases h : -(v + t) < -64
  · rw [if_pos h]; omega
  · rw [if_neg h]
    by_cases g : -(v + t) > 64
    · rw [if_pos g]; omega
    · rw [if_neg g]; omega
theorem cl_in (a : Int) : -64 ≤ cl a ∧ cl a ≤ 64 := by
  unfold cl
  split
  · omega
  · split <;> omega
theorem calm_far {off dev P size v : Int} (hs : off + dev ≤ 63) (hz : 0 ≤ size ∧ size ≤ 1099511627776) (hP : 0 ≤ P) (ho : 0 ≤ off) (hd : 0 ≤ dev)
    (hv : (-off - dev ≤ v ∧ v ≤ off + dev) ∨ (-(size - P) ≤ v ∧ v ≤ size - P)) : -1099511627776 ≤ v ∧ v ≤ 1099511627776 := by
  rcases hv with h | h <;> omega
theorem calm_wraps {v t r off dev q c : Int} {m : Nat} (hv : -1099511627776 ≤ v ∧ v ≤ 1099511627776) (ho : 0 ≤ off) (hd : 0 ≤ dev) (hs : off + dev ≤ 63) (ht : -off ≤ t ∧ t ≤ off) (hr : -dev ≤ r ∧ r ≤ dev) (hm : m ≤ 40000) (hq : 0 ≤ q ∧ q ≤ 1099511627776) (hc : -64 ≤ c ∧ c ≤ 64) :
    (wrap64 (2 * (m : Int) + 1) = 2 * (m : Int) + 1 ∧ wrap64 (-off) = -off ∧ wrap64 (-dev) = -dev ∧ wrap64 (v + t) = v + t ∧ wrap64 (64 - dev) = 64 - dev ∧ wrap64 (Int.tdiv (2 * (m : Int)) 2) = (m : Int) ∧ wrap64 ((m : Int) + 1) = (m : Int) + 1) ∧
    (wrap64 q = q ∧ wrap64 (q + 2) = q + 2 ∧ wrap64 (v + c) = v + c ∧ wrap64 (v + c + r) = v + c + r ∧ wrap64 (off + dev) = off + dev ∧ wrap64 (-off - dev) = -off - dev ∧ wrap64 (2 * (m : Int) + 2) = 2 * ((m + 1 : Nat) : Int)) := by
  have e : Int.tdiv (2 * (m : Int)) 2 = (m : Int) := by rw [Int.tdiv_eq_ediv_of_nonneg (by omega)]; omega
  rw [e]
  refine ⟨⟨wsm ?_ ?_, wsm ?_ ?_, wsm ?_ ?_, wsm ?_ ?_, wsm ?_ ?_, wsm ?_ ?_, wsm ?_ ?_⟩, wsm ?_ ?_, wsm ?_ ?_, wsm ?_ ?_, wsm ?_ ?_, wsm ?_ ?_, wsm ?_ ?_, ?_⟩
  all_goals first | omega | (rw [wsm (by omega) (by omega)]; omega)
theorem calm_end {off dev P size x : Int} (ho : 0 ≤ off) (hd : 0 ≤ dev) (h : size < P) (tick : (-off - dev ≤ x ∧ x ≤ off + dev) ∨ (-(size - P) ≤ x ∧ x ≤ size - P)) : -off - dev ≤ x ∧ x ≤ off + dev := by
  rcases tick with h | h <;> omega
theorem calm_prod {D size : Int} {m : Nat} (hD : 1 ≤ D) (hz : 0 ≤ size) (g : (m : Int) + 1 ≥ size / D + 2) : size < (m : Int) * D + D := by
  have hq := Int.lt_ediv_add_one_mul_self size (show 0 < D by omega)
  have hbig : (size / D + 1) * D ≤ (m : Int) * D := Int.mul_le_mul_of_nonneg_right (by omega) (by omega)
  omega
theorem calms_loop {off dev size : Int} {l : List Int} (ho : 0 ≤ off) (hd : 0 ≤ dev) (hs : off + dev ≤ 63) (hz : 0 ≤ size ∧ size ≤ 1099511627776) (hl : l.length ≤ 65536) :
    ∀ (n m : Nat) (v s0 s1 : Int), l.length ≤ 2 * m + 2 * n → m ≤ 40000 → ((-off - dev ≤ v ∧ v ≤ off + dev) ∨ (-(size - (m : Int) * (64 - dev)) ≤ v ∧ v ≤ size - (m : Int) * (64 - dev))) →
      Ev (fun k => windhoverlaw18_GuardCalms.l0 k v off dev l size (2 * (m : Int)) s0 s1) true := by
  have fin : ∀ (m : Nat) (v s0 s1 : Int), m ≤ 40000 → l.length ≤ 2 * m + 1 → Ev (fun k => windhoverlaw18_GuardCalms.l0 k v off dev l size (2 * (m : Int)) s0 s1) true := by
    intro m v s0 s1 hm h
    have w : wrap64 (2 * (m : Int) + 1) = 2 * (m : Int) + 1 := wsm (by omega) (by omega)
    exact Ev.step (fun k => by rw [windhoverlaw18_GuardCalms.l0, w, if_neg (by omega)]) (Ev.bind awake_ev (Ev.now true))
  intro n
  induction n with
  | zero => intro m v s0 s1 h hm hv; exact fin m v s0 s1 hm (by omega)
  | succ n ih =>
    intro m v s0 s1 h hm hv
    by_cases hlt : 2 * m + 1 < l.length
    · have hP0 : 0 ≤ (m : Int) * (64 - dev) := Int.mul_nonneg (Int.natCast_nonneg m) (by omega)
      have hP1 : ((m + 1 : Nat) : Int) * (64 - dev) = (m : Int) * (64 - dev) + (64 - dev) := by
        rw [show ((m + 1 : Nat) : Int) = (m : Int) + 1 from rfl, Int.add_mul, Int.one_mul]
      have hq0 : 0 ≤ size / (64 - dev) := Int.ediv_nonneg hz.1 (by omega)
      have hq1 : size / (64 - dev) ≤ size := Int.ediv_le_self _ hz.1
      have far := calm_far hs hz hP0 ho hd hv
      obtain ⟨t, et, ht⟩ := rclamp_in (a := rd l (2 * (m : Int))) ho
      obtain ⟨r, er, hr⟩ := rclamp_in (a := rd l (2 * (m : Int) + 1)) hd
      have c := cl_in (-(v + t))
      have st := step_ev (s0 := s0) (s1 := s1) (x := v + t) (y := 0) (z := v + t) (fall := 8000) false (by unfold I64; clear hv; omega) (by unfold I64; decide) (by unfold I64; clear hv; omega)
      have e0 : rf s0 false 8000 = 0 := rfl
      have e1 : sat (0 - (v + t)) = -(v + t) := by clear hv; rw [sat_id (by omega) (by omega)]; omega
      have tick := calm_tick (K := size - (m : Int) * (64 - dev)) ho hd hs ht hr hv
      rw [show size - (m : Int) * (64 - dev) - (64 - dev) = size - ((m : Int) * (64 - dev) + (64 - dev)) by omega] at tick
      have bd : 2 * m + 1 < 65536 := by omega
      have i0 : (0 : Int) ≤ 2 * (m : Int) := by omega
      have i1 : 2 * (m : Int) < (l.length : Int) := by omega
      have i2 : 2 * (m : Int) + 1 < (l.length : Int) := by omega
      have i3 : (0 : Int) ≤ 2 * (m : Int) + 1 := by omega
      have dz : ¬ (64 - dev = 0) := by omega
      have nh : l.length ≤ 2 * (m + 1) + 2 * n := by omega
      have nm : m + 1 ≤ 40000 := by omega
      obtain ⟨⟨w1, w2, w3, w4, w5, w6, w7⟩, w8, w9, x1, x2, x3, x4, x5⟩ := calm_wraps (q := size / (64 - dev)) far ho hd hs ht hr hm ⟨hq0, Int.le_trans hq1 hz.2⟩ c
      have eq : Int.tdiv size (64 - dev) = size / (64 - dev) := Int.tdiv_eq_ediv_of_nonneg hz.1
      have nx := ih (m + 1) (v + cl (-(v + t)) + r) 0 s1 nh nm (by rw [hP1]; exact tick)
      rw [e0, e1] at st
      refine Ev.step (fun k => by rw [windhoverlaw18_GuardCalms.l0, w1, if_pos i2, if_pos i0, if_pos i1, w2, et]) ?_
      refine Ev.bind (f := fun k t => _) (Ev.now _) (Ev.congr (fun k => by rw [if_pos i3, w3, er]) ?_)
      refine Ev.bind (f := fun k t => _) (Ev.now _) (Ev.congr (fun k => by rw [w4]) ?_)
      refine Ev.bind st ?_
      refine Ev.congr (fun k => by rw [if_pos rfl, w5, if_neg dz, w6, w7, eq, w8, w9]) ?_
      dsimp only
      rw [x1, x2, x3, x4, x5]
      by_cases g : (m : Int) + 1 ≥ size / (64 - dev) + 2
      · have en := calm_end ho hd (calm_prod (m := m) (show 1 ≤ 64 - dev by omega) hz.1 g) tick
        have n1 : ¬ (v + cl (-(v + t)) + r > off + dev) := Int.not_lt.2 en.2
        have n2 : ¬ (v + cl (-(v + t)) + r < -off - dev) := Int.not_lt.2 en.1
        exact Ev.congr (fun k => by rw [if_pos g, if_neg n1, if_neg n2]) nx
      · exact Ev.congr (fun k => by rw [if_neg g]) nx
    · exact fin m v s0 s1 hm (by omega)
theorem GuardCalms : windhoverlaw18_GuardCalms.Pure := by
  intro v off dev l hv ho hd hl hw
  have V := I64_of hv
  have O := I64_of ho
  have D := I64_of hd
  unfold I64 at V O D
  apply Ev.rounds
  refine Ev.congr (fun k => by rw [windhoverlaw18_GuardCalms.f, guard_NewBackup.f]) ?_
  refine Ev.bind (f := fun k t => _) (Ev.now (0, 0)) ?_
  dsimp only
  have yes : Ev (fun k => windhoverlaw18_GuardCalms.j0 k v off dev l true 0 0) true := Ev.step (fun k => by rw [windhoverlaw18_GuardCalms.j0, if_pos rfl]) (Ev.bind awake_ev (Ev.now true))
  by_cases c1 : off < 0
  · exact Ev.congr (fun k => by rw [if_pos c1]) yes
  by_cases c2 : dev < 0
  · exact Ev.congr (fun k => by rw [if_neg c1, if_pos c2]) yes
  by_cases c3 : off > 63
  · exact Ev.congr (fun k => by rw [if_neg c1, if_neg c2, if_pos c3]) yes
  by_cases c4 : dev > 63
  · exact Ev.congr (fun k => by rw [if_neg c1, if_neg c2, if_neg c3, if_pos c4]) yes
  have w : wrap64 (off + dev) = off + dev := wsm (by omega) (by omega)
  by_cases c5 : off + dev ≥ 64
  · exact Ev.congr (fun k => by rw [if_neg c1, if_neg c2, if_neg c3, if_neg c4, w, if_pos c5]) yes
  by_cases c6 : v < -1099511627776
  · exact Ev.congr (fun k => by rw [if_neg c1, if_neg c2, if_neg c3, if_neg c4, w, if_neg c5, if_pos c6]) yes
  by_cases c7 : v > 1099511627776
  · exact Ev.congr (fun k => by rw [if_neg c1, if_neg c2, if_neg c3, if_neg c4, w, if_neg c5, if_neg c6, if_pos c7]) yes
  by_cases c8 : (l.length : Int) > 65536
  · exact Ev.congr (fun k => by rw [if_neg c1, if_neg c2, if_neg c3, if_neg c4, w, if_neg c5, if_neg c6, if_neg c7, decide_eq_true c8]) yes
  refine Ev.congr (fun k => by rw [if_neg c1, if_neg c2, if_neg c3, if_neg c4, w, if_neg c5, if_neg c6, if_neg c7, decide_eq_false c8]) ?_
  have wn : wrap64 (-v) = -v := wsm (by omega) (by omega)
  have hm : 0 ≤ mx v (-v) ∧ mx v (-v) ≤ 1099511627776 ∧ -(mx v (-v)) ≤ v ∧ v ≤ mx v (-v) := by unfold mx; split <;> omega
  refine Ev.step (fun k => by rw [windhoverlaw18_GuardCalms.j0, if_neg (by decide), wn]) ?_
  have := calms_loop (off := off) (dev := dev) (size := mx v (-v)) (l := l) (by omega) (by omega) (by omega) ⟨hm.1, hm.2.1⟩ (by omega) 32768 0 v 0 0 (by omega) (by omega) (.inr (by simp; omega))
  simpa using this

end Go.Proofs.Ytfpggoiopjlkiaa.Pure
