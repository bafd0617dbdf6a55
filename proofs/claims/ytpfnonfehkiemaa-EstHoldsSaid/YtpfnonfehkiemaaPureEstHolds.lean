/- EstHolds: for any flight whose numbers are far from the ends of an int, the truth lies in the spans that est.Filter keeps, as long as the vehicle moves and is measured within the bounds, and the awake example holds. -/
import Derived.Test.YtpfnonfehkiemaaPEstHoldsx7
namespace Go.Proofs.Ytpfnonfehkiemaa.Pure
open Go.RowKit Go.Proofs.Ytpfnonfehkiemaa.PEstHolds Go.Proofs.YtpfnonfehkiemaaW.PrintWords Go.Proofs.YtpfnonfehkiemaaW.PrintLast

set_option linter.unusedVariables false
set_option linter.unusedSimpArgs false
theorem Ev.now {α : Type} (r : α) : Ev (fun _ => some r) r := ⟨0, fun _ _ => rfl⟩

theorem wsm {a : Int} (h1 : -9223372036854775808 ≤ a) (h2 : a ≤ 9223372036854775807) : wrap64 a = a := by unfold wrap64; omega
def I64 (n : Int) : Prop := -9223372036854775808 ≤ n ∧ n ≤ 9223372036854775807

def sat (n : Int) : Int := if n > 9223372036854775807 then 9223372036854775807 else if n < -9223372036854775808 then -9223372036854775808 else n

/-! ### Add, Sub, Mul: kept within an int -/
theorem add_ev' {a b : Int} (ha : I64 a) (hb : I64 b) : Ev (fun k => fix_Add.f k a b) (sat (a + b)) := by
  have key : ∀ c : Bool, c = decide (a > 0 ∧ b > 0 ∧ wrap64 (a + b) < 0) → Ev (fun k => fix_Add.j0 k a b (wrap64 (a + b)) c) (sat (a + b)) := by
    intro c hc
    refine Ev.step (f := fun _ => some (sat (a + b))) (fun k => ?_) (Ev.now _)
    rw [fix_Add.j0]
    unfold I64 at *
    have hw : (wrap64 (a + b) = a + b ∧ -9223372036854775808 ≤ a + b ∧ a + b ≤ 9223372036854775807) ∨ (wrap64 (a + b) = a + b - 18446744073709551616 ∧ a + b > 9223372036854775807) ∨ (wrap64 (a + b) = a + b + 18446744073709551616 ∧ a + b < -9223372036854775808) := by
      unfold wrap64; omega
    generalize wrap64 (a + b) = s at *
    unfold sat
    by_cases h : a > 0 ∧ b > 0 ∧ s < 0
    · rw [hc, if_pos (by simpa using h)]
      rw [if_pos (by omega)]
    · rw [hc, if_neg (by simpa using h)]
      by_cases h1 : a < 0
      · rw [if_pos h1]
        by_cases h2 : b < 0
        · rw [if_pos h2]
          by_cases h3 : s ≥ 0
          · rw [if_pos h3, if_neg (by omega), if_pos (by omega)]
          · rw [if_neg h3, if_neg (by omega), if_neg (by omega)]; congr 1; omega
        · rw [if_neg h2, if_neg (by omega), if_neg (by omega)]; congr 1; omega
      · rw [if_neg h1, if_neg (by omega), if_neg (by omega)]; congr 1; omega
  by_cases h1 : a > 0
  · by_cases h2 : b > 0
    · exact Ev.congr (fun k => by rw [fix_Add.f, if_pos h1, if_pos h2]) (key _ (by simp [h1, h2]))
    · exact Ev.congr (fun k => by rw [fix_Add.f, if_pos h1, if_neg h2]) (key _ (by simp [h2]))
  · exact Ev.congr (fun k => by rw [fix_Add.f, if_neg h1]) (key _ (by simp [h1]))
theorem sub_ev' {a b : Int} (ha : I64 a) (hb : I64 b) : Ev (fun k => fix_Sub.f k a b) (sat (a - b)) := by
  have key : ∀ c : Bool, c = decide (a ≥ 0 ∧ b < 0 ∧ wrap64 (a - b) < 0) → Ev (fun k => fix_Sub.j0 k a b (wrap64 (a - b)) c) (sat (a - b)) := by
    intro c hc
    refine Ev.step (f := fun _ => some (sat (a - b))) (fun k => ?_) (Ev.now _)
    rw [fix_Sub.j0]
    unfold I64 at *
    have hw : (wrap64 (a - b) = a - b ∧ -9223372036854775808 ≤ a - b ∧ a - b ≤ 9223372036854775807) ∨ (wrap64 (a - b) = a - b - 18446744073709551616 ∧ a - b > 9223372036854775807) ∨ (wrap64 (a - b) = a - b + 18446744073709551616 ∧ a - b < -9223372036854775808) := by
      unfold wrap64; omega
    generalize wrap64 (a - b) = s at *
    unfold sat
    by_cases h : a ≥ 0 ∧ b < 0 ∧ s < 0
    · rw [hc, if_pos (by simpa using h)]
      rw [if_pos (by omega)]
    · rw [hc, if_neg (by simpa using h)]
      by_cases h1 : a < 0
      · rw [if_pos h1]
        by_cases h2 : b > 0
        · rw [if_pos h2]
          by_cases h3 : s ≥ 0
          · rw [if_pos h3, if_neg (by omega), if_pos (by omega)]
          · rw [if_neg h3, if_neg (by omega), if_neg (by omega)]; congr 1; omega
        · rw [if_neg h2, if_neg (by omega), if_neg (by omega)]; congr 1; omega
      · rw [if_neg h1, if_neg (by omega), if_neg (by omega)]; congr 1; omega
  by_cases h1 : a ≥ 0
  · by_cases h2 : b < 0
    · exact Ev.congr (fun k => by rw [fix_Sub.f, if_pos h1, if_pos h2]) (key _ (by simp [h1, h2]))
    · exact Ev.congr (fun k => by rw [fix_Sub.f, if_pos h1, if_neg h2]) (key _ (by simp [h2]))
  · exact Ev.congr (fun k => by rw [fix_Sub.f, if_neg h1]) (key _ (by simp [h1]))

/-! ### Spans that hold the truth -/
theorem sat_id {a : Int} (h1 : -9223372036854775808 ≤ a) (h2 : a ≤ 9223372036854775807) : sat a = a := by unfold sat; rw [if_neg (by omega), if_neg (by omega)]
theorem sat_I (n : Int) : I64 (sat n) := by unfold I64 sat; split <;> (try split) <;> omega
theorem sat_le_of {a b : Int} (h : a ≤ b) (hb : -9223372036854775808 ≤ b) : sat a ≤ b := by unfold sat; split <;> (try split) <;> omega
theorem le_sat_of {a b : Int} (h : a ≤ b) (ha : a ≤ 9223372036854775807) : a ≤ sat b := by unfold sat; split <;> (try split) <;> omega
def thr (ok : Bool) (er : Int) : Bool := if ok = true then decide (er ≥ 0) else false
theorem there_f (ok : Bool) (x er : Int) : est_there.f ok x er = some (thr ok er) := by unfold est_there.f thr; split <;> rfl
theorem around_ev {x er : Int} (ok : Bool) (hx : I64 x) (he : I64 er) : Ev (fun k => est_around.f k ok x er) (sat (x - er), sat (x + er)) := by
  refine Ev.congr (fun k => by rw [est_around.f]) ?_
  exact Ev.bind (sub_ev' hx he) (Ev.bind (add_ev' hx he) (Ev.now _))
/-- a span, cut by a measure that is true of it -/
theorem mx_le {a b c : Int} (h1 : a ≤ c) (h2 : b ≤ c) : mx a b ≤ c := by unfold mx; split <;> omega
theorem le_mn {a b c : Int} (h1 : c ≤ a) (h2 : c ≤ b) : c ≤ mn a b := by unfold mn; split <;> omega
theorem mx_ge (a b : Int) : a ≤ mx a b ∧ b ≤ mx a b := by unfold mx; split <;> omega
theorem mn_ge (a b : Int) : mn a b ≤ a ∧ mn a b ≤ b := by unfold mn; split <;> omega
theorem I64_mx {a b : Int} (h1 : I64 a) (h2 : I64 b) : I64 (mx a b) := by unfold mx; split <;> assumption
theorem I64_mn {a b : Int} (h1 : I64 a) (h2 : I64 b) : I64 (mn a b) := by unfold mn; split <;> assumption
section
variable {st s0 s1 pl ph vl vh : Int} {ok : Bool} {x er p v : Int}
theorem cutP_ev (h1 : pl ≤ p) (h2 : p ≤ ph) (ipl : I64 pl) (iph : I64 ph) (hx : I64 x) (he : I64 er) (he0 : 0 ≤ er) (hm : -er ≤ x - p ∧ x - p ≤ er) (b1 : -9000000000000000000 ≤ x - er) (b2 : x + er ≤ 9000000000000000000) :
    ∃ l h, Ev (fun k => est_Filter_cut_61_1_4.f k st true s0 s1 pl ph vl vh 0 ok x er) (st, true, s0, s1, l, h, vl, vh, 0) ∧ l ≤ p ∧ p ≤ h ∧ I64 l ∧ I64 h ∧ (ok = true → x - er ≤ l ∧ h ≤ x + er) := by
  cases ok with
  | false =>
    refine ⟨pl, ph, ?_, h1, h2, ipl, iph, fun h => by cases h⟩
    refine Ev.congr (fun k => by rw [est_Filter_cut_61_1_4.f, there_f]) ?_
    exact Ev.bind (f := fun _ t => _) (Ev.now _) (Ev.congr (fun k => by rw [if_neg (by simp [thr])]) (Ev.now _))
  | true =>
    have e1 : sat (x - er) = x - er := sat_id (by omega) (by omega)
    have e2 : sat (x + er) = x + er := sat_id (by omega) (by omega)
    have c1 : mx pl (x - er) ≤ p := mx_le h1 (by omega)
    have c2 : p ≤ mn ph (x + er) := le_mn h2 (by omega)
    refine ⟨mx pl (x - er), mn ph (x + er), ?_, c1, c2, I64_mx ipl (by unfold I64; omega), I64_mn iph (by unfold I64; omega), fun _ => ⟨(mx_ge _ _).2, (mn_ge _ _).2⟩⟩
    refine Ev.congr (fun k => by rw [est_Filter_cut_61_1_4.f, there_f]) ?_
    refine Ev.bind (f := fun _ t => _) (Ev.now _) (Ev.congr (fun k => by rw [if_pos (by unfold thr; simpa using he0)]) ?_)
    refine Ev.bind (around_ev true hx he) ?_
    rw [e1, e2]
    exact Ev.congr (fun k => by rw [if_pos (Int.le_trans c1 c2)]) (Ev.now _)
theorem cutV_ev (h1 : vl ≤ v) (h2 : v ≤ vh) (ivl : I64 vl) (ivh : I64 vh) (hx : I64 x) (he : I64 er) (he0 : 0 ≤ er) (hm : -er ≤ x - v ∧ x - v ≤ er) (b1 : -9000000000000000000 ≤ x - er) (b2 : x + er ≤ 9000000000000000000) :
    ∃ l h, Ev (fun k => est_Filter_cut_61_1_6.f k st true s0 s1 pl ph vl vh 0 ok x er) (st, true, s0, s1, pl, ph, l, h, 0) ∧ l ≤ v ∧ v ≤ h ∧ I64 l ∧ I64 h ∧ (ok = true → x - er ≤ l ∧ h ≤ x + er) := by
  cases ok with
  | false =>
    refine ⟨vl, vh, ?_, h1, h2, ivl, ivh, fun h => by cases h⟩
    refine Ev.congr (fun k => by rw [est_Filter_cut_61_1_6.f, there_f]) ?_
    exact Ev.bind (f := fun _ t => _) (Ev.now _) (Ev.congr (fun k => by rw [if_neg (by simp [thr])]) (Ev.now _))
  | true =>
    have e1 : sat (x - er) = x - er := sat_id (by omega) (by omega)
    have e2 : sat (x + er) = x + er := sat_id (by omega) (by omega)
    have c1 : mx vl (x - er) ≤ v := mx_le h1 (by omega)
    have c2 : v ≤ mn vh (x + er) := le_mn h2 (by omega)
    refine ⟨mx vl (x - er), mn vh (x + er), ?_, c1, c2, I64_mx ivl (by unfold I64; omega), I64_mn ivh (by unfold I64; omega), fun _ => ⟨(mx_ge _ _).2, (mn_ge _ _).2⟩⟩
    refine Ev.congr (fun k => by rw [est_Filter_cut_61_1_6.f, there_f]) ?_
    refine Ev.bind (f := fun _ t => _) (Ev.now _) (Ev.congr (fun k => by rw [if_pos (by unfold thr; simpa using he0)]) ?_)
    refine Ev.bind (around_ev true hx he) ?_
    rw [e1, e2]
    exact Ev.congr (fun k => by rw [if_pos (Int.le_trans c1 c2)]) (Ev.now _)
theorem hear0_ev : ∃ t, est_patience_hear_61_0_0.f st true s0 s1 pl ph vl vh 0 0 ok x er = some (st, true, t, s1, pl, ph, vl, vh, 0) := by
  rw [est_patience_hear_61_0_0.f, there_f]
  cases h : thr ok er
  · exact ⟨wrap64 (s0 + 1), by simp⟩
  · exact ⟨0, by simp⟩
theorem hear1_ev : ∃ t, est_patience_hear_61_0_0.f st true s0 s1 pl ph vl vh 0 1 ok x er = some (st, true, s0, t, pl, ph, vl, vh, 0) := by
  rw [est_patience_hear_61_0_0.f, there_f]
  cases h : thr ok er
  · exact ⟨wrap64 (s1 + 1), by simp⟩
  · exact ⟨0, by simp⟩
end
/-- what is held: the truth in both spans -/
def Hd (p v pl ph vl vh : Int) : Prop := (pl ≤ p ∧ p ≤ ph ∧ I64 pl ∧ I64 ph) ∧ (vl ≤ v ∧ v ≤ vh ∧ I64 vl ∧ I64 vh)
section
variable {st s0 s1 pl ph vl vh : Int} {okP okV : Bool} {xP eP xV eV p v : Int}
theorem tail_ev (h : Hd p v pl ph vl vh) (hxP : I64 xP) (heP : I64 eP) (heP0 : 0 ≤ eP) (hmP : -eP ≤ xP - p ∧ xP - p ≤ eP) (b1 : -9000000000000000000 ≤ xP - eP) (b2 : xP + eP ≤ 9000000000000000000)
    (hxV : I64 xV) (heV : I64 eV) (heV0 : 0 ≤ eV) (hmV : -eV ≤ xV - v ∧ xV - v ≤ eV) (b3 : -9000000000000000000 ≤ xV - eV) (b4 : xV + eV ≤ 9000000000000000000) :
    ∃ t0 t1 a b c d, Ev (fun k => est_Filter_Step.j1 k st true s0 s1 pl ph vl vh 0 okP xP eP okV xV eV) (st, true, t0, t1, a, b, c, d, 0) ∧ Hd p v a b c d ∧ (okP = true → b - a ≤ 2 * eP) ∧ (okV = true → d - c ≤ 2 * eV) := by
  obtain ⟨⟨h1, h2, h3, h4⟩, h5, h6, h7, h8⟩ := h
  obtain ⟨a, b, e1, a1, a2, a3, a4, a5⟩ := cutP_ev (st := st) (s0 := s0) (s1 := s1) (vl := vl) (vh := vh) (ok := okP) h1 h2 h3 h4 hxP heP heP0 hmP b1 b2
  obtain ⟨c, d, e2, c1, c2, c3, c4, c5⟩ := cutV_ev (st := st) (s0 := s0) (s1 := s1) (pl := a) (ph := b) (ok := okV) h5 h6 h7 h8 hxV heV heV0 hmV b3 b4
  obtain ⟨t0, e3⟩ := hear0_ev (st := st) (s0 := s0) (s1 := s1) (pl := a) (ph := b) (vl := c) (vh := d) (ok := okP) (x := xP) (er := eP)
  obtain ⟨t1, e4⟩ := hear1_ev (st := st) (s0 := t0) (s1 := s1) (pl := a) (ph := b) (vl := c) (vh := d) (ok := okV) (x := xV) (er := eV)
  refine ⟨t0, t1, a, b, c, d, ?_, ⟨⟨a1, a2, a3, a4⟩, c1, c2, c3, c4⟩, fun h => by have := a5 h; omega, fun h => by have := c5 h; omega⟩
  refine Ev.step (fun k => by rw [est_Filter_Step.j1]) ?_
  refine Ev.bind e1 (Ev.bind e2 ?_)
  refine Ev.congr (fun k => by rw [e3]) (Ev.bind (f := fun _ t => _) (Ev.now _) ?_)
  exact Ev.congr (fun k => by rw [e4]) (Ev.bind (f := fun _ t => _) (Ev.now _) (Ev.now _))
/-- a step of the filter behind a true step of the vehicle -/
theorem step_ev {acc dev p' v' : Int} {stand : Bool} (h : Hd p v pl ph vl vh) (hacc : -1048576 ≤ acc ∧ acc ≤ 1048576) (hdev : 0 ≤ dev ∧ dev ≤ 1048576)
    (hp : -5000000000000000 ≤ p ∧ p ≤ 5000000000000000) (hv : -500000000000 ≤ v ∧ v ≤ 500000000000)
    (hmove : (stand = true ∧ v' = 0 ∧ p' = p) ∨ (stand = false ∧ -dev ≤ v' - v - acc ∧ v' - v - acc ≤ dev ∧ p' = p + v'))
    (hxP : I64 xP) (heP : I64 eP) (heP0 : 0 ≤ eP) (hmP : -eP ≤ xP - p' ∧ xP - p' ≤ eP) (b1 : -9000000000000000000 ≤ xP - eP) (b2 : xP + eP ≤ 9000000000000000000)
    (hxV : I64 xV) (heV : I64 eV) (heV0 : 0 ≤ eV) (hmV : -eV ≤ xV - v' ∧ xV - v' ≤ eV) (b3 : -9000000000000000000 ≤ xV - eV) (b4 : xV + eV ≤ 9000000000000000000) :
    ∃ t0 t1 a b c d, Ev (fun k => est_Filter_Step.f k st true s0 s1 pl ph vl vh 0 acc dev stand okP xP eP okV xV eV) (st, true, t0, t1, a, b, c, d, 0) ∧ Hd p' v' a b c d ∧ (okP = true → b - a ≤ 2 * eP) ∧ (okV = true → d - c ≤ 2 * eV) := by
  obtain ⟨⟨h1, h2, h3, h4⟩, h5, h6, h7, h8⟩ := h
  have md : mx dev 0 = dev := by unfold mx; split <;> omega
  have ia : I64 acc := by unfold I64; omega
  have id : I64 dev := by unfold I64; omega
  obtain ⟨L1, hL1⟩ : ∃ L1, sat (vl + acc) = L1 := ⟨_, rfl⟩
  obtain ⟨U1, hU1⟩ : ∃ U1, sat (vh + acc) = U1 := ⟨_, rfl⟩
  have iL1 : I64 L1 := hL1 ▸ sat_I _
  have iU1 : I64 U1 := hU1 ▸ sat_I _
  obtain ⟨L, hL⟩ : ∃ L, sat (L1 - dev) = L := ⟨_, rfl⟩
  obtain ⟨U, hU⟩ : ∃ U, sat (U1 + dev) = U := ⟨_, rfl⟩
  have iL : I64 L := hL ▸ sat_I _
  have iU : I64 U := hU ▸ sat_I _
  have l1 : L1 ≤ v + acc := hL1 ▸ sat_le_of (by omega) (by omega)
  have u1 : v + acc ≤ U1 := hU1 ▸ le_sat_of (by omega) (by omega)
  have l2 : L ≤ v + acc - dev := hL ▸ sat_le_of (by omega) (by omega)
  have u2 : v + acc + dev ≤ U := hU ▸ le_sat_of (by omega) (by omega)
  obtain ⟨PL, hPL⟩ : ∃ PL, sat (pl + L) = PL := ⟨_, rfl⟩
  obtain ⟨PH, hPH⟩ : ∃ PH, sat (ph + U) = PH := ⟨_, rfl⟩
  have iPL : I64 PL := hPL ▸ sat_I _
  have iPH : I64 PH := hPH ▸ sat_I _
  have pre : ∀ {r}, Ev (fun k => if stand = true then est_Filter_Step.j1 k st true s0 s1 (mn PL pl) (mx PH ph) (mn L 0) (mx U 0) 0 okP xP eP okV xV eV else est_Filter_Step.j1 k st true s0 s1 PL PH L U 0 okP xP eP okV xV eV) r → Ev (fun k => est_Filter_Step.f k st true s0 s1 pl ph vl vh 0 acc dev stand okP xP eP okV xV eV) r := by
    intro r hr
    refine Ev.congr (fun k => by rw [est_Filter_Step.f, if_pos rfl, md]) ?_
    refine Ev.bind (hL1 ▸ add_ev' h7 ia) ?_
    refine Ev.bind (hL ▸ sub_ev' iL1 id) ?_
    refine Ev.bind (hU1 ▸ add_ev' h8 ia) ?_
    refine Ev.bind (hU ▸ add_ev' iU1 id) ?_
    refine Ev.bind (hPL ▸ add_ev' h3 iL) ?_
    refine Ev.bind (hPH ▸ add_ev' h4 iU) ?_
    exact hr
  rcases hmove with ⟨hs, hv', hp'⟩ | ⟨hs, g1, g2, hp'⟩
  · subst hs
    have hd : Hd p' v' (mn PL pl) (mx PH ph) (mn L 0) (mx U 0) := by
      refine ⟨⟨?_, ?_, I64_mn iPL h3, I64_mx iPH h4⟩, ?_, ?_, I64_mn iL (by unfold I64; omega), I64_mx iU (by unfold I64; omega)⟩
      · have := (mn_ge PL pl).2; omega
      · have := (mx_ge PH ph).2; omega
      · have := (mn_ge L 0).2; omega
      · have := (mx_ge U 0).2; omega
    obtain ⟨t0, t1, a, b, c, d, e, r⟩ := tail_ev (st := st) (s0 := s0) (s1 := s1) (okP := okP) (okV := okV) hd hxP heP heP0 hmP b1 b2 hxV heV heV0 hmV b3 b4
    exact ⟨t0, t1, a, b, c, d, pre (Ev.congr (fun k => by rw [if_pos rfl]) e), r⟩
  · subst hs
    have hd : Hd p' v' PL PH L U := by
      refine ⟨⟨?_, ?_, iPL, iPH⟩, by omega, by omega, iL, iU⟩
      · rw [← hPL]; exact sat_le_of (by omega) (by omega)
      · rw [← hPH]; exact le_sat_of (by omega) (by omega)
    obtain ⟨t0, t1, a, b, c, d, e, r⟩ := tail_ev (st := st) (s0 := s0) (s1 := s1) (okP := okP) (okV := okV) hd hxP heP heP0 hmP b1 b2 hxV heV heV0 hmV b3 b4
    exact ⟨t0, t1, a, b, c, d, pre (Ev.congr (fun k => by rw [if_neg (by decide)]) e), r⟩
end

/-! ### The truth lies in the spans -/
set_option maxRecDepth 100000 in
theorem awake13_ev : Ev (fun k => windhoverlaw13_awake.f k) true := by
  have h : windhoverlaw13_awake.f 60 = some true := by decide +kernel
  exact Ev.of (fun k => windhoverlaw13_awake.mono k) h
def Okt (dev eP eV : Int) (t : S35) : Prop := (-1048576 ≤ t.f0 ∧ t.f0 ≤ 1048576) ∧ (-dev ≤ t.f1 ∧ t.f1 ≤ dev) ∧ (-eP ≤ t.f3 ∧ t.f3 ≤ eP) ∧ (-eV ≤ t.f4 ∧ t.f4 ≤ eV)
def Okf (p v dev eP eV : Int) (l : List S35) : Prop := (-1125899906842624 ≤ p ∧ p ≤ 1125899906842624) ∧ (-274877906944 ≤ v ∧ v ≤ 274877906944) ∧ (0 ≤ dev ∧ dev ≤ 1048576) ∧ (0 ≤ eP ∧ eP ≤ 1125899906842624) ∧ (0 ≤ eV ∧ eV ≤ 1073741824) ∧ (l.length ≤ 2000)
section
variable {p v dev eP eV : Int} {l : List S35}
theorem within_loop (hl : l.length ≤ 2000) (hd : wrap64 (-dev) = -dev) (hP : wrap64 (-eP) = -eP) (hV : wrap64 (-eV) = -eV) : ∀ (n i : Nat), i + n = l.length →
    ∃ b, Ev (fun k => windhoverlaw13_within.l0 k (i : Int) p v dev eP eV l) b ∧ (b = true → ∀ j : Nat, i ≤ j → j < l.length → Okt dev eP eV (rd_T35 l (j : Int))) := by
  intro n
  induction n with
  | zero =>
    intro i h
    exact ⟨true, Ev.step (fun k => by rw [windhoverlaw13_within.l0, if_neg (by omega)]) (Ev.now _), fun _ j h1 h2 => by omega⟩
  | succ n ih =>
    intro i h
    have no : ∀ {g : Nat → Option Bool}, (∀ k, g k = some false) → ∃ b, Ev g b ∧ (b = true → ∀ j : Nat, i ≤ j → j < l.length → Okt dev eP eV (rd_T35 l (j : Int))) := fun hg => ⟨false, Ev.congr hg (Ev.now _), fun h => by cases h⟩
    have st : ∀ {b : Bool} {g : Nat → Option Bool}, (∀ k, windhoverlaw13_within.l0 (k + 1) (i : Int) p v dev eP eV l = g k) → (Ev g b) → Ev (fun k => windhoverlaw13_within.l0 k (i : Int) p v dev eP eV l) b := fun h e => Ev.step h e
    obtain ⟨b, e, hb⟩ := ih (i + 1) (by omega)
    have w : wrap64 ((i : Int) + 1) = ((i + 1 : Nat) : Int) := by rw [wsm (by omega) (by omega)]; omega
    by_cases c1 : (rd_T35 l (i : Int)).f0 < -1048576
    · exact ⟨false, Ev.step (fun k => by rw [windhoverlaw13_within.l0, if_pos (by omega), if_pos (by omega), if_pos c1]) (Ev.now _), fun h => by cases h⟩
    by_cases c2 : (rd_T35 l (i : Int)).f0 > 1048576
    · exact ⟨false, Ev.step (fun k => by rw [windhoverlaw13_within.l0, if_pos (by omega), if_pos (by omega), if_neg c1, if_pos c2]) (Ev.now _), fun h => by cases h⟩
    by_cases c3 : (rd_T35 l (i : Int)).f1 < -dev
    · exact ⟨false, Ev.step (fun k => by rw [windhoverlaw13_within.l0, hd, if_pos (by omega), if_pos (by omega), if_neg c1, if_neg c2, if_pos c3]) (Ev.now _), fun h => by cases h⟩
    by_cases c4 : (rd_T35 l (i : Int)).f1 > dev
    · exact ⟨false, Ev.step (fun k => by rw [windhoverlaw13_within.l0, hd, if_pos (by omega), if_pos (by omega), if_neg c1, if_neg c2, if_neg c3, if_pos c4]) (Ev.now _), fun h => by cases h⟩
    by_cases c5 : (rd_T35 l (i : Int)).f3 < -eP
    · exact ⟨false, Ev.step (fun k => by rw [windhoverlaw13_within.l0, hd, hP, if_pos (by omega), if_pos (by omega), if_neg c1, if_neg c2, if_neg c3, if_neg c4, if_pos c5]) (Ev.now _), fun h => by cases h⟩
    by_cases c6 : (rd_T35 l (i : Int)).f3 > eP
    · exact ⟨false, Ev.step (fun k => by rw [windhoverlaw13_within.l0, hd, hP, if_pos (by omega), if_pos (by omega), if_neg c1, if_neg c2, if_neg c3, if_neg c4, if_neg c5, if_pos c6]) (Ev.now _), fun h => by cases h⟩
    by_cases c7 : (rd_T35 l (i : Int)).f4 < -eV
    · exact ⟨false, Ev.step (fun k => by rw [windhoverlaw13_within.l0, hd, hP, hV, if_pos (by omega), if_pos (by omega), if_neg c1, if_neg c2, if_neg c3, if_neg c4, if_neg c5, if_neg c6, if_pos c7]) (Ev.now _), fun h => by cases h⟩
    by_cases c8 : (rd_T35 l (i : Int)).f4 > eV
    · exact ⟨false, Ev.step (fun k => by rw [windhoverlaw13_within.l0, hd, hP, hV, if_pos (by omega), if_pos (by omega), if_neg c1, if_neg c2, if_neg c3, if_neg c4, if_neg c5, if_neg c6, if_neg c7, if_pos c8]) (Ev.now _), fun h => by cases h⟩
    refine ⟨b, Ev.step (fun k => by rw [windhoverlaw13_within.l0, hd, hP, hV, if_pos (by omega), if_pos (by omega), if_neg c1, if_neg c2, if_neg c3, if_neg c4, if_neg c5, if_neg c6, if_neg c7, if_neg c8, w]) e, fun h j h1 h2 => ?_⟩
    by_cases q : j = i
    · subst q; exact ⟨⟨by omega, by omega⟩, ⟨by omega, by omega⟩, ⟨by omega, by omega⟩, by omega, by omega⟩
    · exact hb h j (by omega) h2
theorem within_ev : ∃ b, Ev (fun k => windhoverlaw13_within.f k p v dev eP eV l) b ∧ (b = true → Okf p v dev eP eV l ∧ ∀ j : Nat, j < l.length → Okt dev eP eV (rd_T35 l (j : Int))) := by
  have out : ∃ b, Ev (fun k => windhoverlaw13_within.j0 k true p v dev eP eV l) b ∧ (b = true → Okf p v dev eP eV l ∧ ∀ j : Nat, j < l.length → Okt dev eP eV (rd_T35 l (j : Int))) := ⟨false, Ev.step (fun k => by rw [windhoverlaw13_within.j0, if_pos rfl]) (Ev.now _), fun h => by cases h⟩
  obtain ⟨b, e, hb⟩ := out
  by_cases c1 : p < -1125899906842624
  · exact ⟨b, Ev.congr (fun k => by rw [windhoverlaw13_within.f, if_pos c1]) e, hb⟩
  by_cases c2 : p > 1125899906842624
  · exact ⟨b, Ev.congr (fun k => by rw [windhoverlaw13_within.f, if_neg c1, if_pos c2]) e, hb⟩
  by_cases c3 : v < -274877906944
  · exact ⟨b, Ev.congr (fun k => by rw [windhoverlaw13_within.f, if_neg c1, if_neg c2, if_pos c3]) e, hb⟩
  by_cases c4 : v > 274877906944
  · exact ⟨b, Ev.congr (fun k => by rw [windhoverlaw13_within.f, if_neg c1, if_neg c2, if_neg c3, if_pos c4]) e, hb⟩
  by_cases c5 : dev < 0
  · exact ⟨b, Ev.congr (fun k => by rw [windhoverlaw13_within.f, if_neg c1, if_neg c2, if_neg c3, if_neg c4, if_pos c5]) e, hb⟩
  by_cases c6 : dev > 1048576
  · exact ⟨b, Ev.congr (fun k => by rw [windhoverlaw13_within.f, if_neg c1, if_neg c2, if_neg c3, if_neg c4, if_neg c5, if_pos c6]) e, hb⟩
  by_cases c7 : eP < 0
  · exact ⟨b, Ev.congr (fun k => by rw [windhoverlaw13_within.f, if_neg c1, if_neg c2, if_neg c3, if_neg c4, if_neg c5, if_neg c6, if_pos c7]) e, hb⟩
  by_cases c8 : eP > 1125899906842624
  · exact ⟨b, Ev.congr (fun k => by rw [windhoverlaw13_within.f, if_neg c1, if_neg c2, if_neg c3, if_neg c4, if_neg c5, if_neg c6, if_neg c7, if_pos c8]) e, hb⟩
  by_cases c9 : eV < 0
  · exact ⟨b, Ev.congr (fun k => by rw [windhoverlaw13_within.f, if_neg c1, if_neg c2, if_neg c3, if_neg c4, if_neg c5, if_neg c6, if_neg c7, if_neg c8, if_pos c9]) e, hb⟩
  by_cases c10 : eV > 1073741824
  · exact ⟨b, Ev.congr (fun k => by rw [windhoverlaw13_within.f, if_neg c1, if_neg c2, if_neg c3, if_neg c4, if_neg c5, if_neg c6, if_neg c7, if_neg c8, if_neg c9, if_pos c10]) e, hb⟩
  by_cases c11 : (l.length : Int) > 2000
  · exact ⟨b, Ev.congr (fun k => by rw [windhoverlaw13_within.f, if_neg c1, if_neg c2, if_neg c3, if_neg c4, if_neg c5, if_neg c6, if_neg c7, if_neg c8, if_neg c9, if_neg c10, decide_eq_true c11]) e, hb⟩
  obtain ⟨b2, e2, hb2⟩ := within_loop (p := p) (v := v) (dev := dev) (eP := eP) (eV := eV) (l := l) (by omega) (wsm (by omega) (by omega)) (wsm (by omega) (by omega)) (wsm (by omega) (by omega)) l.length 0 (by omega)
  refine ⟨b2, Ev.congr (fun k => by rw [windhoverlaw13_within.f, if_neg c1, if_neg c2, if_neg c3, if_neg c4, if_neg c5, if_neg c6, if_neg c7, if_neg c8, if_neg c9, if_neg c10]) (Ev.step (fun k => by rw [windhoverlaw13_within.j0, if_neg (by simpa using c11)]) (show Ev (fun k => windhoverlaw13_within.l0 k 0 p v dev eP eV l) b2 from e2)), fun h => ⟨?_, fun j hj => hb2 h j (by omega) hj⟩⟩
  refine ⟨⟨?_, ?_⟩, ⟨?_, ?_⟩, ⟨?_, ?_⟩, ⟨?_, ?_⟩, ⟨?_, ?_⟩, ?_⟩ <;> omega
theorem bd_step {i q u q' u' dev a : Int} {st : Bool} (i0 : 0 ≤ i) (i1 : i ≤ 2000) (hq : -1125899906842624 - 500000000000 * i ≤ q ∧ q ≤ 1125899906842624 + 500000000000 * i) (hu : -274877906944 - 3000000 * i ≤ u ∧ u ≤ 274877906944 + 3000000 * i)
    (ha : -1048576 ≤ a ∧ a ≤ 1048576) (hd : 0 ≤ dev ∧ dev ≤ 1048576) (hm : (st = true ∧ u' = 0 ∧ q' = q) ∨ (st = false ∧ -dev ≤ u' - u - a ∧ u' - u - a ≤ dev ∧ q' = q + u')) :
    (-1125899906842624 - 500000000000 * (i + 1) ≤ q' ∧ q' ≤ 1125899906842624 + 500000000000 * (i + 1)) ∧ (-274877906944 - 3000000 * (i + 1) ≤ u' ∧ u' ≤ 274877906944 + 3000000 * (i + 1)) := by
  rcases hm with ⟨_, h1, h2⟩ | ⟨_, h1, h2, h3⟩ <;> omega
theorem bd_all {i q u : Int} (i1 : i ≤ 2001) (i0 : 0 ≤ i) (hq : -1125899906842624 - 500000000000 * i ≤ q ∧ q ≤ 1125899906842624 + 500000000000 * i) (hu : -274877906944 - 3000000 * i ≤ u ∧ u ≤ 274877906944 + 3000000 * i) :
    (-2200000000000000 ≤ q ∧ q ≤ 2200000000000000) ∧ (-290000000000 ≤ u ∧ u ≤ 290000000000) := by omega
theorem holds_loop (hf : Okf p v dev eP eV l) (ht : ∀ j : Nat, j < l.length → Okt dev eP eV (rd_T35 l (j : Int))) :
    ∀ (n i : Nat) (q u s0 s1 a b c d : Int), i + n = l.length → Hd q u a b c d →
      (-1125899906842624 - 500000000000 * (i : Int) ≤ q ∧ q ≤ 1125899906842624 + 500000000000 * (i : Int)) → (-274877906944 - 3000000 * (i : Int) ≤ u ∧ u ≤ 274877906944 + 3000000 * (i : Int)) →
      Ev (fun k => windhoverlaw13_EstHolds.l0 k q u (i : Int) p v dev eP eV l 3 true s0 s1 a b c d 0) true := by
  intro n
  induction n with
  | zero =>
    intro i q u s0 s1 a b c d hi _ _ _
    exact Ev.step (fun k => by rw [windhoverlaw13_EstHolds.l0, if_neg (by omega)]) (Ev.bind awake13_ev (Ev.now true))
  | succ n ih =>
    intro i q u s0 s1 a b c d hi hd hq hu
    obtain ⟨_, _, hdev, heP, heV, hl⟩ := hf
    obtain ⟨t0, t1, t3, t4⟩ := ht i (by omega)
    obtain ⟨T, hT⟩ : ∃ T, rd_T35 l (i : Int) = T := ⟨_, rfl⟩
    rw [hT] at t0 t1 t3 t4
    obtain ⟨qb, ub⟩ := bd_all (i := (i : Int)) (by omega) (by omega) hq hu
    have fin : ∀ q' u' : Int, (T.f2 = true ∧ u' = 0 ∧ q' = q) ∨ (T.f2 = false ∧ -dev ≤ u' - u - T.f0 ∧ u' - u - T.f0 ≤ dev ∧ q' = q + u') →
        Ev (fun k => windhoverlaw13_EstHolds.j1 k q' u' (i : Int) p v dev eP eV l 3 true s0 s1 a b c d 0 T.f0 T.f1 T.f2 T.f3 T.f4 T.f5 T.f6) true := by
      intro q' u' hm
      obtain ⟨hq', hu'⟩ := bd_step (i := (i : Int)) (by omega) (by omega) hq hu t0 hdev hm
      obtain ⟨qb', ub'⟩ := bd_all (i := (i : Int) + 1) (by omega) (by omega) hq' hu'
      clear hq hu
      obtain ⟨n0, n1, a', b', c', d', e, hd', g1, g2⟩ := step_ev (st := 3) (s0 := s0) (s1 := s1) (okP := T.f5) (okV := T.f6) (xP := q' + T.f3) (eP := eP) (xV := u' + T.f4) (eV := eV) (acc := T.f0) (dev := dev) (p' := q') (v' := u') (stand := T.f2) hd t0 hdev (by omega) (by omega) hm (by unfold I64; omega) (by unfold I64; omega) heP.1 (by omega) (by omega) (by omega) (by unfold I64; omega) (by unfold I64; omega) heV.1 (by omega) (by omega) (by omega)
      have nx := ih (i + 1) q' u' n0 n1 a' b' c' d' (by omega) hd' hq' hu'
      clear hq' hu' ih hm
      have wP : wrap64 (q' + T.f3) = q' + T.f3 := wsm (by omega) (by omega)
      have wV : wrap64 (u' + T.f4) = u' + T.f4 := wsm (by omega) (by omega)
      have w8 : wrap64 ((i : Int) + 1) = ((i + 1 : Nat) : Int) := by rw [wsm (by omega) (by omega)]; rfl
      have x1 : wrap64 (2 * eP) = 2 * eP := wsm (by omega) (by omega)
      have x2 : wrap64 (2 * eV) = 2 * eV := wsm (by omega) (by omega)
      obtain ⟨⟨k1, k2, k3, k4⟩, k5, k6, k7, k8⟩ := hd'
      have n1_ : ¬ q' < a' := by omega
      have n2_ : ¬ q' > b' := by omega
      have n3_ : ¬ u' < c' := by omega
      have n4_ : ¬ u' > d' := by omega
      have y1 : T.f5 = true → ¬ wrap64 (b' - a') > 2 * eP := fun h => by have := g1 h; rw [wsm (by omega) (by omega)]; omega
      have y2 : T.f6 = true → ¬ wrap64 (d' - c') > 2 * eV := fun h => by have := g2 h; rw [wsm (by omega) (by omega)]; omega
      refine Ev.step (fun k => by rw [windhoverlaw13_EstHolds.j1, wP, wV]) ?_
      refine Ev.bind e ?_
      refine Ev.congr (fun k => by rw [est_Filter_Axis.f]) ?_
      refine Ev.bind (f := fun _ t => _) (Ev.now _) ?_
      refine Ev.congr (fun k => by rw [if_neg n1_, if_neg n2_, if_neg n3_, if_neg n4_, est_Filter_Jumps.f]) ?_
      refine Ev.bind (f := fun _ t => _) (Ev.now _) ?_
      refine Ev.step (fun k => by rw [windhoverlaw13_EstHolds.j2, if_neg (by simp), x1, x2, w8]) ?_
      by_cases f5 : T.f5 = true
      · by_cases f6 : T.f6 = true
        · exact Ev.congr (fun k => by rw [if_pos f5, if_neg (y1 f5), if_pos f6, if_neg (y2 f6)]) nx
        · exact Ev.congr (fun k => by rw [if_pos f5, if_neg (y1 f5), if_neg f6]) nx
      · by_cases f6 : T.f6 = true
        · exact Ev.congr (fun k => by rw [if_neg f5, if_pos f6, if_neg (y2 f6)]) nx
        · exact Ev.congr (fun k => by rw [if_neg f5, if_neg f6]) nx
    refine Ev.step (fun k => by rw [windhoverlaw13_EstHolds.l0, hT, if_pos (by omega), if_pos (by omega)]) ?_
    by_cases f2 : T.f2 = true
    · exact Ev.congr (fun k => by rw [if_pos f2]) (fin q 0 (.inl ⟨f2, rfl, rfl⟩))
    · have z1 : wrap64 (u + T.f0) = u + T.f0 := wsm (by omega) (by omega)
      have z2 : wrap64 (u + T.f0 + T.f1) = u + T.f0 + T.f1 := wsm (by omega) (by omega)
      have z3 : wrap64 (q + (u + T.f0 + T.f1)) = q + (u + T.f0 + T.f1) := wsm (by omega) (by omega)
      exact Ev.congr (fun k => by rw [if_neg f2, z1, z2, z3]) (fin _ _ (.inr ⟨by simpa using f2, by omega, by omega, rfl⟩))
end
theorem EstHolds : windhoverlaw13_EstHolds.Pure := by
  intro p v dev eP eV l h1 h2 h3 h4 h5 h6 h7
  apply Ev.rounds
  obtain ⟨b, e, hb⟩ := within_ev (p := p) (v := v) (dev := dev) (eP := eP) (eV := eV) (l := l)
  refine Ev.congr (fun k => by rw [windhoverlaw13_EstHolds.f, est_New.f, if_neg (by decide)]) ?_
  refine Ev.bind (f := fun _ t => _) (Ev.now _) ?_
  refine Ev.congr (fun k => by rw [if_pos rfl]) ?_
  refine Ev.bind e ?_
  cases b with
  | false => exact Ev.congr (fun k => by rw [if_neg (by decide)]) (Ev.bind awake13_ev (Ev.now true))
  | true =>
    obtain ⟨hf, ht⟩ := hb rfl
    refine Ev.congr (fun k => by rw [if_pos rfl]) ?_
    have hf2 := hf
    obtain ⟨hp, hv, hdev, heP, heV, hl⟩ := hf2
    have g1 : thr true eP = true := by unfold thr; simpa using heP.1
    have g2 : thr true eV = true := by unfold thr; simpa using heV.1
    have i1 : I64 p := by unfold I64; omega
    have i2 : I64 eP := by unfold I64; omega
    have i3 : I64 v := by unfold I64; omega
    have i4 : I64 eV := by unfold I64; omega
    have s1 : sat (p - eP) = p - eP := sat_id (by omega) (by omega)
    have s2 : sat (p + eP) = p + eP := sat_id (by omega) (by omega)
    have s3 : sat (v - eV) = v - eV := sat_id (by omega) (by omega)
    have s4 : sat (v + eV) = v + eV := sat_id (by omega) (by omega)
    have first : Ev (fun k => est_Filter_Step.f k 3 false 0 0 0 0 0 0 0 0 0 false true p eP true v eV) (3, true, 0, 0, p - eP, p + eP, v - eV, v + eV, 0) := by
      refine Ev.congr (fun k => by rw [est_Filter_Step.f, if_neg (by decide), there_f, g1]) ?_
      refine Ev.bind (f := fun _ t => _) (Ev.now _) ?_
      refine Ev.congr (fun k => by rw [if_pos rfl, there_f, g2]) ?_
      refine Ev.bind (f := fun _ t => _) (Ev.now _) ?_
      refine Ev.step (fun k => by rw [est_Filter_Step.j0, if_pos rfl]) ?_
      refine Ev.bind (around_ev true i1 i2) ?_
      refine Ev.bind (around_ev true i3 i4) ?_
      rw [s1, s2, s3, s4]
      exact Ev.now _
    refine Ev.bind first ?_
    refine holds_loop hf ht l.length 0 p v 0 0 (p - eP) (p + eP) (v - eV) (v + eV) (by omega) ?_ (by omega) (by omega)
    exact ⟨⟨by omega, by omega, by unfold I64; omega, by unfold I64; omega⟩, by omega, by omega, by unfold I64; omega, by unfold I64; omega⟩

end Go.Proofs.Ytpfnonfehkiemaa.Pure
