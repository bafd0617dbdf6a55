-- WRITTEN BY wip/tools/aprint.py of this claim's repository over the kit's words: not typed by hand
import Derived.Test.YtmmlahckcgjofaaPPowerFollowsx0
import Derived.Test.YtmmlahckcgjofaaPPowerFollowsx1
import Derived.Test.YtmmlahckcgjofaaPPowerFollowsx2
import Derived.Test.YtmmlahckcgjofaaPPowerFollowsx4
import Derived.Test.YtmmlahckcgjofaaPPowerFollowsx9
namespace Go.Proofs.Ytmmlahckcgjofaa.PPowerFollows
open Go.RowKit Go.Proofs.YtmmlahckcgjofaaW.PrintWords Go.Proofs.YtmmlahckcgjofaaW.PrintLast Go.Proofs.YtmmlahckcgjofaaW.PrintMore
attribute [local go_sem] max2_int min2_int max_two min_two max_three min_three max_four min_four   -- for this text's walks alone
set_option linter.unusedVariables false
set_option linter.unusedSimpArgs false

attribute [local go_sem high] eqA31
/-! ### params_ReturnTicks: function 29, by hand -/
def params_ReturnTicks.al (l0 : List Int) (mm : Int) (sp : Int) : Option Int := if rd l0 6 = 0 then none else (params_up.f (wrap64 (19200 * mm)) sp).bind fun t => some (wrap64 ((wrap64 ((wrap64 (8 * (wrap64 (Int.tdiv sp (rd l0 6))))) + t)) + 800))
def params_ReturnTicks.f (k : Nat) (l0 : List Int) (a1 : Int) (a2 : Int) : Option (Int × Int) := (params_Check.f k l0).bind fun t13 => if t13 = 0 then ((params_outside.f a1).bind fun t18 => (params_outside.f a2).bind fun t21 => if t18 = true then some (0, 1) else if t21 = true then some (0, 1) else if (l0.length : Int) = 24 then (if rd l0 6 = 0 then none else (params_ReturnTicks.al l0 (wrap64 ((mx a1 (rd l0 10)) + 1000)) (rd l0 8)).bind fun p => (params_ReturnTicks.al l0 a2 (rd l0 7)).bind fun q => (params_up.f (wrap64 (12800 * (wrap64 ((mx a1 (rd l0 10)) + 1000)))) (rd l0 9)).bind fun s => some (wrap64 ((wrap64 ((wrap64 ((wrap64 ((wrap64 (p + q)) + (wrap64 (8 * (wrap64 (Int.tdiv (wrap64 ((rd l0 8) + (rd l0 9))) (rd l0 6))))))) + s)) + 40)) + 64), 0)) else none) else some (0, t13)
theorem params_ReturnTicks.mono : ∀ a0 a1 a2 k, LeO (params_ReturnTicks.f k a0 a1 a2) (params_ReturnTicks.f (k + 1) a0 a1 a2) := by
  intro a0 a1 a2 k; unfold params_ReturnTicks.f
  exact LeO.bind (params_Check.mono _ _) (fun _ => LeO.refl _)
set_option maxHeartbeats 8000000 in
set_option maxRecDepth 100000 in
theorem params_ReturnTicks.along_q (l0 : List Int) (ad : Addr) (c0 : Nat) (g : Nat) (mm sp r : Int) (w : World) (hb : w.cell? ⟨g, 0, none⟩ = some (.slice (some ad) l0.length c0)) (h6 : w.cell? ⟨ad.block, ad.off + 6, none⟩ = some (.int .i64 (rd l0 6))) (hl : (l0.length : Int) = 24) (h : params_ReturnTicks.al l0 mm sp = some r) :
    Calls Try.prog 43 #[.int .i64 mm, .int .i64 sp, .pointer (some ⟨g, 0, none⟩)] w fun e w' => e = .returned (.int .i64 r) ∧ ∃ n, w' = w.drewN n := by
  unfold params_ReturnTicks.al at h; simp only [← i64_w] at h
  by_cases z : rd l0 6 = 0
  · rw [if_pos z] at h; cases h
  rw [if_neg z] at h; replace h := Option.bind_eq_some_iff.mp h; obtain ⟨t, e1, h⟩ := h; obtain rfl := Option.some.inj h; have E1 := Aside0.mk e1; clear e1 h; have zb : (rd l0 6 == 0) = false := beq_eq_false_iff_ne.mpr z; have hlen : l0.length = 24 := by omega
  rw [hlen] at hb; go_enter Try.func43, Try.ntmps43
  go_wp2
  go_region_held3 (fun w' => w'.cell? ⟨g, 0, none⟩ = some (.slice (some ad) 24 c0) ∧ w'.cell? ⟨ad.block, ad.off + 6, none⟩ = some (.int .i64 (rd l0 6))) (go_keep)
    (first | (go_at_call 32; (with_reducible refine (params_up.calls (IntKind.i64.wrap (19200 * mm)) sp t _ E1.out).mono ?_); rintro e w' ⟨rfl, ⟨nd, rfl⟩⟩))
  all_goals go_wp2
  all_goals go_ret
  all_goals exact ⟨rfl, nd + 1, by simp [World.drew, World.drewN]; omega⟩
theorem params_ReturnTicks.at24 {w : World} {ad : Addr} {l : List Int} (h : Kd.C (Kd.int .i64) w (some ad) l.length l) (hl : (l.length : Int) = 24) (i : Nat) (hi : i < 24) (h0 : i ≠ 0) : w.cell? ⟨ad.block, ad.off + i, none⟩ = some (.int .i64 (rd l (i : Int))) := by
  obtain ⟨ad', e, hx⟩ := Kd.at_int h (i : Int) (by omega) (by omega)
  obtain rfl : ad = ad' := by injection e
  rw [Int.toNat_natCast] at hx; unfold Addr.add at hx; rw [if_neg h0] at hx
  exact hx
set_option maxHeartbeats 8000000 in
set_option maxRecDepth 100000 in
theorem params_ReturnTicks.calls (k : Nat) (A0 : Option Addr) (c0 : Nat) (l0 : List Int) (a1 : Int) (a2 : Int) (r1 : Int) (r2 : Int) (w : World) (hr0 : Kd.C (Kd.int .i64) w A0 l0.length l0) (hc0 : l0.length ≤ c0) (h : params_ReturnTicks.f k l0 a1 a2 = some (r1, r2)) :
    Calls Try.prog 29 #[.slice A0 l0.length c0, .int .i64 a1, .int .i64 a2] w fun e w' => e = .returned (.tuple #[.int .i64 r1, .int .i64 r2]) ∧ Below w.heap.size w w' := by
  have HR0 := Aside0.mk hr0; have HC0 := Aside0.mk hc0; clear hc0; unfold params_ReturnTicks.f at h; replace h := Option.bind_eq_some_iff.mp h; obtain ⟨t13, e13, h⟩ := h; have E13 := Aside0.mk e13; clear e13
  by_cases c : t13 = 0
  · rw [if_pos c] at h
    have cb : (t13 != 0) = false := bne_eq_false_iff_eq.mpr c; clear c; replace h := Option.bind_eq_some_iff.mp h; obtain ⟨t18, e18, h⟩ := h; replace h := Option.bind_eq_some_iff.mp h; obtain ⟨t21, e21, h⟩ := h
    cases t18 with
    | true =>
      rw [if_pos rfl] at h; simp only [Option.some.injEq, Prod.mk.injEq] at h; obtain ⟨rfl, rfl⟩ := h; have E18 := Aside0.mk e18; clear e18 e21 hr0; go_enter Try.func29, Try.ntmps29
      go_wp2_with (first | ((with_reducible refine gate_dst (N := 3) rfl ?_); refine box_event ?hg (N := 3) ?hd (cs := #[.slice A0 l0.length c0]) (t := 22) ?hr ?_; (case hd => rfl); (case hg => rfl); (case hr => first | (go_simp; done) | (go_simp; rfl)); intro gb hg w2 hbox hb; have HB2 := Aside0.mk hb; have BK2 := Aside0.mk hbox; have GE2 := Aside0.mk (show w.heap.size ≤ gb by omega); have HR2 := Aside0.mk (Kd.C_below HR0.out hb); clear hb hbox hg; have hcz := (blk_cell BK2.out 0).trans rfl; have hfz := blk_frozen BK2.out 0) | (go_at_call 31; (with_reducible refine (params_Check.calls k A0 c0 l0 t13 _ HR2.out HC0.out E13.out).mono ?_); rintro e w3 ⟨rfl, hb⟩; have HB3 := Aside0.mk (below_step HB2.out hb); have BK3 := Aside0.mk (blk_below BK2.out hb); have HR3 := Aside0.mk (Kd.C_below HR2.out hb); (try clear hb); (try clear hcz); (try clear hfz); have hcz := (blk_cell BK3.out 0).trans rfl) | (go_at_call 42; (with_reducible refine (params_outside.calls a1 _ _ E18.out).mono ?_); rintro e w' ⟨rfl, ⟨nd, rfl⟩⟩))
      go_ret2
      exact ⟨rfl, by repeat (first | exact HB3.out | apply pw_below_drewN | apply below_drew1)⟩
    | false =>
      rw [if_neg (by decide)] at h; have E18 := Aside0.mk e18; clear e18
      cases t21 with
      | true =>
        rw [if_pos rfl] at h; simp only [Option.some.injEq, Prod.mk.injEq] at h; obtain ⟨rfl, rfl⟩ := h; have E21 := Aside0.mk e21; clear e21 hr0; go_enter Try.func29, Try.ntmps29
        go_wp2_with (first | ((with_reducible refine gate_dst (N := 3) rfl ?_); refine box_event ?hg (N := 3) ?hd (cs := #[.slice A0 l0.length c0]) (t := 22) ?hr ?_; (case hd => rfl); (case hg => rfl); (case hr => first | (go_simp; done) | (go_simp; rfl)); intro gb hg w2 hbox hb; have HB2 := Aside0.mk hb; have BK2 := Aside0.mk hbox; have GE2 := Aside0.mk (show w.heap.size ≤ gb by omega); have HR2 := Aside0.mk (Kd.C_below HR0.out hb); clear hb hbox hg; have hcz := (blk_cell BK2.out 0).trans rfl; have hfz := blk_frozen BK2.out 0) | (go_at_call 31; (with_reducible refine (params_Check.calls k A0 c0 l0 t13 _ HR2.out HC0.out E13.out).mono ?_); rintro e w3 ⟨rfl, hb⟩; have HB3 := Aside0.mk (below_step HB2.out hb); have BK3 := Aside0.mk (blk_below BK2.out hb); have HR3 := Aside0.mk (Kd.C_below HR2.out hb); (try clear hb); (try clear hcz); (try clear hfz); have hcz := (blk_cell BK3.out 0).trans rfl) | (go_at_call 42; (with_reducible refine (params_outside.calls a1 _ _ E18.out).mono ?_); rintro e w' ⟨rfl, ⟨nd, rfl⟩⟩) | (go_at_call 42; (with_reducible refine (params_outside.calls a2 _ _ E21.out).mono ?_); rintro e w' ⟨rfl, ⟨nd, rfl⟩⟩))
        go_ret2
        exact ⟨rfl, by repeat (first | exact HB3.out | apply pw_below_drewN | apply below_drew1)⟩
      | false =>
        rw [if_neg (by decide)] at h; have E21 := Aside0.mk e21; clear e21
        by_cases hl : (l0.length : Int) = 24
        · rw [if_pos hl] at h
          obtain ⟨M, hM⟩ : ∃ M, mx a1 (rd l0 10) = M := ⟨_, rfl⟩; rw [hM] at h; have hM_ : (if a1 < rd l0 10 then rd l0 10 else a1) = M := hM; clear hM; obtain ⟨G, hG⟩ : ∃ G, wrap64 (M + 1000) = G := ⟨_, rfl⟩; rw [hG] at h; have hG2 : IntKind.i64.wrap (M + 1000) = G := (i64_w _).trans hG; simp only [← i64_w] at h
          by_cases z : rd l0 6 = 0
          · rw [if_pos z] at h; cases h
          rw [if_neg z] at h; have zb : (rd l0 6 == 0) = false := beq_eq_false_iff_ne.mpr z; replace h := Option.bind_eq_some_iff.mp h; obtain ⟨p, ep, h⟩ := h; replace h := Option.bind_eq_some_iff.mp h; obtain ⟨q, eq_, h⟩ := h; replace h := Option.bind_eq_some_iff.mp h; obtain ⟨s, es, h⟩ := h; simp only [Option.some.injEq, Prod.mk.injEq] at h; obtain ⟨rfl, rfl⟩ := h; have EP := Aside0.mk ep; have EQ := Aside0.mk eq_; have ES := Aside0.mk es; clear ep eq_ es; obtain ⟨ad, ea, _⟩ := Kd.at_int hr0 0 (by decide) (by omega); clear hr0; subst ea; have b6 : (6 < l0.length) = True := eq_true (by omega); have g6 : ((6 : Int) < (l0.length : Int)) = True := eq_true (by omega); have d6 : decide (6 < l0.length) = true := decide_eq_true (by omega); have f6 : decide ((6 : Int) < (l0.length : Int)) = true := decide_eq_true (by omega); have b7 : (7 < l0.length) = True := eq_true (by omega); have g7 : ((7 : Int) < (l0.length : Int)) = True := eq_true (by omega); have d7 : decide (7 < l0.length) = true := decide_eq_true (by omega); have f7 : decide ((7 : Int) < (l0.length : Int)) = true := decide_eq_true (by omega); have b8 : (8 < l0.length) = True := eq_true (by omega); have g8 : ((8 : Int) < (l0.length : Int)) = True := eq_true (by omega); have d8 : decide (8 < l0.length) = true := decide_eq_true (by omega); have f8 : decide ((8 : Int) < (l0.length : Int)) = true := decide_eq_true (by omega); have b9 : (9 < l0.length) = True := eq_true (by omega); have g9 : ((9 : Int) < (l0.length : Int)) = True := eq_true (by omega); have d9 : decide (9 < l0.length) = true := decide_eq_true (by omega); have f9 : decide ((9 : Int) < (l0.length : Int)) = true := decide_eq_true (by omega); have b10 : (10 < l0.length) = True := eq_true (by omega); have g10 : ((10 : Int) < (l0.length : Int)) = True := eq_true (by omega); have d10 : decide (10 < l0.length) = true := decide_eq_true (by omega); have f10 : decide ((10 : Int) < (l0.length : Int)) = true := decide_eq_true (by omega); have hmf : ∀ (fn : Fn) (first cap : Array Value) (w : World), (Instr.makeFunc fn first cap).run Try.prog w = .ok (.func fn first cap) w := fun _ _ _ _ => rfl
          have HL := Aside0.mk hl; clear hl; go_enter Try.func29, Try.ntmps29
          go_wp2_with (first | ((with_reducible refine gate_dst (N := 3) rfl ?_); refine box_event ?hg (N := 3) ?hd (cs := #[.slice (some ad) l0.length c0]) (t := 22) ?hr ?_; (case hd => rfl); (case hg => rfl); (case hr => first | (go_simp; done) | (go_simp; rfl)); intro gb hg w2 hbox hb; have HB2 := Aside0.mk hb; have BK2 := Aside0.mk hbox; have GE2 := Aside0.mk (show w.heap.size ≤ gb by omega); have HR2 := Aside0.mk (Kd.C_below HR0.out hb); clear hb hbox hg; have hcz := (blk_cell BK2.out 0).trans rfl; have hfz := blk_frozen BK2.out 0) | (go_at_call 31; (with_reducible refine (params_Check.calls k (some ad) c0 l0 t13 _ HR2.out HC0.out E13.out).mono ?_); rintro e w3 ⟨rfl, hb⟩; have HB3 := Aside0.mk (below_step HB2.out hb); have BK3 := Aside0.mk (blk_below BK2.out hb); have HR3 := Aside0.mk (Kd.C_below HR2.out hb); (try clear hb); (try clear hcz); (try clear hfz); have hcz := (blk_cell BK3.out 0).trans rfl; have h6 := params_ReturnTicks.at24 HR3.out HL.out 6 (by decide) (by decide); have h7 := params_ReturnTicks.at24 HR3.out HL.out 7 (by decide) (by decide); have h8 := params_ReturnTicks.at24 HR3.out HL.out 8 (by decide) (by decide); have h9 := params_ReturnTicks.at24 HR3.out HL.out 9 (by decide) (by decide); have h10 := params_ReturnTicks.at24 HR3.out HL.out 10 (by decide) (by decide)) | (go_at_call 42; (with_reducible refine (params_outside.calls a1 _ _ E18.out).mono ?_); rintro e w' ⟨rfl, ⟨nd, rfl⟩⟩) | (go_at_call 42; (with_reducible refine (params_outside.calls a2 _ _ E21.out).mono ?_); rintro e w' ⟨rfl, ⟨nd, rfl⟩⟩))
          go_region_held3 (fun w' => w'.cell? ⟨gb, 0, none⟩ = some (.slice (some ad) l0.length c0) ∧ w'.cell? ⟨ad.block, ad.off + 6, none⟩ = some (.int .i64 (rd l0 6)) ∧ w'.cell? ⟨ad.block, ad.off + 8, none⟩ = some (.int .i64 (rd l0 8)) ∧ w'.cell? ⟨ad.block, ad.off + 9, none⟩ = some (.int .i64 (rd l0 9))) (go_keep) (fail)
          all_goals go_wp2
          go_region_held3 (fun w' => w'.cell? ⟨gb, 0, none⟩ = some (.slice (some ad) l0.length c0) ∧ w'.cell? ⟨ad.block, ad.off + 6, none⟩ = some (.int .i64 (rd l0 6)) ∧ w'.cell? ⟨ad.block, ad.off + 7, none⟩ = some (.int .i64 (rd l0 7)) ∧ w'.cell? ⟨ad.block, ad.off + 8, none⟩ = some (.int .i64 (rd l0 8)) ∧ w'.cell? ⟨ad.block, ad.off + 9, none⟩ = some (.int .i64 (rd l0 9))) (go_keep)
            (first
              | (go_at_call 43; (with_reducible refine (params_ReturnTicks.along_q l0 ad c0 gb _ _ p _ ?s1 ?s2 HL.out EP.out).mono ?_); (case s1 => go_keep); (case s2 => go_keep); rintro e w' ⟨rfl, nd, rfl⟩)
              | (go_at_call 43; (with_reducible refine (params_ReturnTicks.along_q l0 ad c0 gb _ _ q _ ?s1 ?s2 HL.out EQ.out).mono ?_); (case s1 => go_keep); (case s2 => go_keep); rintro e w' ⟨rfl, nd, rfl⟩)
              | (go_at_call 32; (with_reducible refine (params_up.calls _ _ s _ ES.out).mono ?_); rintro e w' ⟨rfl, ⟨nd, rfl⟩⟩))
          all_goals go_wp2
          all_goals go_ret2
          all_goals exact ⟨rfl, by repeat (first | exact HB3.out | apply pw_below_drewN | apply below_drew1)⟩
        · rw [if_neg hl] at h; cases h
  · rw [if_neg c] at h
    have cb : (t13 != 0) = true := bne_iff_ne.mpr c; clear c hr0; simp only [Option.some.injEq, Prod.mk.injEq] at h; obtain ⟨rfl, rfl⟩ := h; go_enter Try.func29, Try.ntmps29
    go_wp2_with (first | ((with_reducible refine gate_dst (N := 3) rfl ?_); refine box_event ?hg (N := 3) ?hd (cs := #[.slice A0 l0.length c0]) (t := 22) ?hr ?_; (case hd => rfl); (case hg => rfl); (case hr => first | (go_simp; done) | (go_simp; rfl)); intro gb hg w2 hbox hb; have HB2 := Aside0.mk hb; have BK2 := Aside0.mk hbox; have GE2 := Aside0.mk (show w.heap.size ≤ gb by omega); have HR2 := Aside0.mk (Kd.C_below HR0.out hb); clear hb hbox hg; have hcz := (blk_cell BK2.out 0).trans rfl; have hfz := blk_frozen BK2.out 0) | (go_at_call 31; (with_reducible refine (params_Check.calls k A0 c0 l0 t13 _ HR2.out HC0.out E13.out).mono ?_); rintro e w3 ⟨rfl, hb⟩; have HB3 := Aside0.mk (below_step HB2.out hb); have BK3 := Aside0.mk (blk_below BK2.out hb); have HR3 := Aside0.mk (Kd.C_below HR2.out hb); (try clear hb); (try clear hcz); (try clear hfz); have hcz := (blk_cell BK3.out 0).trans rfl))
    go_ret2
    exact ⟨rfl, by repeat (first | exact HB3.out | apply pw_below_drewN | apply below_drew1)⟩


/-! ### power_Battery_Tier: function 16, by hand -/
def power_Battery_Tier.f (k : Nat) (s0_0 : List Int) (s0_1 : Int) (s0_2 : Bool) (s0_3 : Int) (s0_4 : Int) (a1 a2 : Int) : Option (Int × Int × Bool × Int × Int) := if s0_2 = true then ((fix_Clamp.f a1 0 536870912).bind fun h => (params_LandTicks.f k s0_0 h).bind fun l => (fix_Clamp.f a2 0 536870912).bind fun d => (params_ReturnTicks.f k s0_0 h d).bind fun b => if 17 < s0_0.length then (if s0_3 < wrap64 (rd s0_0 17 + wrap64 (s0_1 * wrap64 (l.1 + 8))) then some (2, s0_1, s0_2, s0_3, s0_4) else if s0_3 < wrap64 (wrap64 (rd s0_0 17 + wrap64 (s0_1 * wrap64 (l.1 + 8))) + wrap64 (s0_1 * b.1)) then some (1, s0_1, s0_2, s0_3, s0_4) else some (0, s0_1, s0_2, s0_3, s0_4)) else none) else some (2, s0_1, s0_2, s0_3, s0_4)
theorem power_Battery_Tier.mono : ∀ a0 a1 a2 a3 a4 a5 a6 k, LeO (power_Battery_Tier.f k a0 a1 a2 a3 a4 a5 a6) (power_Battery_Tier.f (k + 1) a0 a1 a2 a3 a4 a5 a6) := by
  intro a0 a1 a2 a3 a4 a5 a6 k; unfold power_Battery_Tier.f; refine LeO.ite ?_ (LeO.refl _); refine LeO.bind (LeO.refl _) (fun _ => ?_); refine LeO.bind (params_LandTicks.mono _ _ _) (fun _ => ?_); refine LeO.bind (LeO.refl _) (fun _ => ?_)
  exact LeO.bind (params_ReturnTicks.mono _ _ _ _) (fun _ => LeO.refl _)
theorem power_Battery_Tier.at17 {w : World} {ad : Addr} {l : List Int} (j : Nat) (hj : j ≠ 0) (h : Kd.C (Kd.int .i64) w (some ad) l.length l) (hl : j < l.length) : w.cell? ⟨ad.block, ad.off + j, none⟩ = some (.int .i64 (rd l (j : Int))) := by
  obtain ⟨ad', e, hx⟩ := Kd.at_int h (j : Int) (by omega) (by omega)
  obtain rfl : ad = ad' := by injection e
  rw [show ((j : Nat) : Int).toNat = j from by omega] at hx
  have h0 : ad.add j = ⟨ad.block, ad.off + j, none⟩ := by
    unfold Addr.add; rw [if_neg hj]
  rw [h0] at hx
  exact hx
set_option maxHeartbeats 8000000 in
set_option maxRecDepth 100000 in
theorem power_Battery_Tier.calls (k : Nat) (g : Nat) (s0_0 : List Int) (s0_1 : Int) (s0_2 : Bool) (s0_3 : Int) (s0_4 : Int) (a1 a2 : Int) (r1 : Int) (r2 : Int) (r3 : Bool) (r4 r5 : Int) (w0 w : World) (hI : IsS63 w0 w g s0_0 s0_1 s0_2 s0_3 s0_4) (hB : Below w0.heap.size w0 w) (h : power_Battery_Tier.f k s0_0 s0_1 s0_2 s0_3 s0_4 a1 a2 = some (r1, r2, r3, r4, r5)) :
    Calls Try.prog 16 #[.pointer (some ⟨g, 0, none⟩), .int .i64 a1, .int .i64 a2] w fun e w' => e = .returned (.int .u8 r1) ∧ IsS63 w0 w' g s0_0 r2 r3 r4 r5 ∧ Below w0.heap.size w0 w' ∧ KeepBut w w' g none := by
  have hu63 := Try.underlying63; have hu31 := Try.underlying31; unfold power_Battery_Tier.f at h; obtain ⟨Aq, cq, hblk, _, hrow⟩ := id hI; have HK := Aside0.mk (KeepBut.refl w g none); have HB := Aside0.mk hB; have HI := Aside0.mk hI; have HR := Aside0.mk (Kd.R_reads' hrow); have hcs := blk_cells5 (w := w) (g := g) hblk; clear hB hI hrow
  cases s0_2 with
  | false =>
    rw [if_neg (by decide)] at h; simp only [Option.some.injEq, Prod.mk.injEq] at h; obtain ⟨rfl, rfl, rfl, rfl, rfl⟩ := h; clear hblk; go_enter Try.func16, Try.ntmps16
    go_wp2
    go_ret
    exact ⟨rfl, HI.out, HB.out, HK.out⟩
  | true =>
    rw [if_pos rfl] at h; replace h := Option.bind_eq_some_iff.mp h; obtain ⟨q, e1, h⟩ := h; replace h := Option.bind_eq_some_iff.mp h; obtain ⟨⟨l1, l2⟩, e2, h⟩ := h; replace h := Option.bind_eq_some_iff.mp h; obtain ⟨d, e3, h⟩ := h; replace h := Option.bind_eq_some_iff.mp h; obtain ⟨⟨b1, b2⟩, e4, h⟩ := h; dsimp only at h; have E1 := Aside0.mk e1; have E2 := Aside0.mk e2; have E3 := Aside0.mk e3; have E4 := Aside0.mk e4; clear e1 e2 e3 e4
    by_cases c : 17 < s0_0.length
    case neg => rw [if_neg c] at h; cases h
    rw [if_pos c] at h; obtain ⟨ad, ea, _⟩ := Kd.at_int HR.out.2.2 0 (by decide) (by omega); subst ea; have H := Aside0.mk h; have HC := Aside0.mk c; clear h c; have BS0 := Aside0.mk hblk; clear hblk; go_enter Try.func16, Try.ntmps16
    go_wp2_with (first
      | (go_at_call 27; (with_reducible refine (fix_Clamp.calls a1 0 536870912 q _ E1.out).mono ?_); rintro e w1 ⟨rfl, ⟨nd, rfl⟩⟩)
      | (go_at_call 28; (with_reducible refine (params_LandTicks.calls k (some ad) cq s0_0 q l1 l2 _ ?s1 HR.out.2.1 E2.out).mono ?_); (case s1 => repeat (first | exact HR.out.2.2 | (with_reducible refine Kd.C_drewN ?_ _) | (with_reducible refine Kd.C_drew ?_))); rintro e w2 ⟨rfl, hb2⟩; have HB2 := Aside0.mk hb2; clear hb2))
    have BS2 := Aside0.mk (blk_below (g := g) (o := .cells #[.slice (some ad) s0_0.length cq, .int .i64 s0_1, .bool true, .int .i64 s0_3, .int .i64 s0_4] 63 (0, 0)) (by (with_reducible repeat (first | refine blk_drewN ?_ _ | refine blk_drew ?_)); exact BS0.out) HB2.out); have HI2 := Aside0.mk (IsS63.below (show IsS63 w0 _ g s0_0 s0_1 true s0_3 s0_4 from by repeat (first | exact HI.out | apply IsS63.drewN | apply IsS63.drew)) HB2.out); have HBB2 := Aside0.mk (below_step (show Below w0.heap.size w0 _ from by repeat (first | exact HB.out | apply pw_below_drewN | apply below_drew1)) HB2.out); have HK2 := Aside0.mk (KeepBut.trans (show KeepBut w _ g none from by repeat (first | exact HK.out | apply keep_drewN | apply keep_drew)) (KeepBut.of_below HB2.out g none) (.inl rfl)); have HR2 := Aside0.mk (Kd.C_below (show Kd.C (Kd.int .i64) _ (some ad) s0_0.length s0_0 from by repeat (first | exact HR.out.2.2 | (with_reducible refine Kd.C_drewN ?_ _) | (with_reducible refine Kd.C_drew ?_))) HB2.out); clear hcs HB2; have x02 : _ := (blk_cell BS2.out 0).trans rfl
    go_region_held3 (fun w' => w'.cell? ⟨g, 0, none⟩ = some (.slice (some ad) s0_0.length cq)) (go_keep)
      (first
        | (go_at_call 27; (with_reducible refine (fix_Clamp.calls a2 0 536870912 d _ E3.out).mono ?_); rintro e w3 ⟨rfl, ⟨nd3, rfl⟩⟩)
        | (go_at_call 29; (with_reducible refine (params_ReturnTicks.calls k (some ad) cq s0_0 q d b1 b2 _ ?s1 HR.out.2.1 E4.out).mono ?_); (case s1 => repeat (first | exact HR2.out | (with_reducible refine Kd.C_drewN ?_ _) | (with_reducible refine Kd.C_drew ?_))); rintro e w5 ⟨rfl, hb5⟩; have BS5 := Aside0.mk (blk_below (g := g) (o := .cells #[.slice (some ad) s0_0.length cq, .int .i64 s0_1, .bool true, .int .i64 s0_3, .int .i64 s0_4] 63 (0, 0)) (by (with_reducible repeat (first | refine blk_drewN ?_ _ | refine blk_drew ?_)); exact BS2.out) hb5); have HI5 := Aside0.mk (IsS63.below (show IsS63 w0 _ g s0_0 s0_1 true s0_3 s0_4 from by repeat (first | exact HI2.out | apply IsS63.drewN | apply IsS63.drew)) hb5); have HBB5 := Aside0.mk (below_step (show Below w0.heap.size w0 _ from by repeat (first | exact HBB2.out | apply pw_below_drewN | apply below_drew1)) hb5); have HK5 := Aside0.mk (KeepBut.trans (show KeepBut w _ g none from by repeat (first | exact HK2.out | apply keep_drewN | apply keep_drew)) (KeepBut.of_below hb5 g none) (.inl rfl)); have HR5 := Aside0.mk (Kd.C_below (show Kd.C (Kd.int .i64) _ (some ad) s0_0.length s0_0 from by repeat (first | exact HR2.out | (with_reducible refine Kd.C_drewN ?_ _) | (with_reducible refine Kd.C_drew ?_))) hb5); clear hb5; have x05 : _ := (blk_cell BS5.out 0).trans rfl))
    go_wp2
    clear x02 x05; have y0 : _ := (blk_cell BS5.out 0).trans rfl; have y1 : _ := (blk_cell BS5.out 1).trans rfl; have y17 : _ := power_Battery_Tier.at17 17 (by decide) HR5.out HC.out; have b17 : (17 < s0_0.length) = True := eq_true HC.out; have g17 : ((17 : Int) < (s0_0.length : Int)) = True := eq_true (by have := HC.out; omega); have d17 : decide (17 < s0_0.length) = true := decide_eq_true HC.out; have f17 : decide ((17 : Int) < (s0_0.length : Int)) = true := decide_eq_true (by have := HC.out; omega)
    go_region_held3 (fun w' => w'.cell? ⟨g, 0, none⟩ = some (.slice (some ad) s0_0.length cq) ∧ w'.cell? ⟨g, 1, none⟩ = some (.int .i64 s0_1) ∧ w'.cell? ⟨ad.block, ad.off + 17, none⟩ = some (.int .i64 (rd s0_0 17))) (go_keep) (fail)
    clear y0 y1 y17; have z1 : _ := (blk_cell BS5.out 1).trans rfl; have z3 : _ := (blk_cell BS5.out 3).trans rfl; simp only [i64_w]; replace H := H.out; obtain ⟨N1, hN1⟩ : ∃ N1, N1 = wrap64 (rd s0_0 17 + wrap64 (s0_1 * wrap64 (l1 + 8))) := ⟨_, rfl⟩; rw [← hN1] at H ⊢; have HN1 := Aside0.mk hN1; clear hN1
    by_cases cA : s0_3 < N1
    · rw [if_pos cA] at H
      simp only [Option.some.injEq, Prod.mk.injEq] at H; obtain ⟨rfl, rfl, rfl, rfl, rfl⟩ := H; have cAb : decide (s0_3 < N1) = true := decide_eq_true cA
      go_wp2
      go_ret
      exact ⟨rfl, HI5.out.drew, below_drew1 HBB5.out, keep_drew HK5.out⟩
    · rw [if_neg cA] at H
      have cAb : decide (s0_3 < N1) = false := decide_eq_false cA
      go_wp2
      obtain ⟨N2, hN2⟩ : ∃ N2, N2 = wrap64 (N1 + wrap64 (s0_1 * b1)) := ⟨_, rfl⟩; rw [← hN2] at H
      go_region_held3 (fun w' => w'.cell? ⟨g, 1, none⟩ = some (.int .i64 s0_1) ∧ w'.cell? ⟨g, 3, none⟩ = some (.int .i64 s0_3)) (go_keep) (fail)
      simp only [i64_w]; rw [← hN2]; clear hN2
      by_cases cB : s0_3 < N2
      · rw [if_pos cB] at H
        simp only [Option.some.injEq, Prod.mk.injEq] at H; obtain ⟨rfl, rfl, rfl, rfl, rfl⟩ := H; have cBb : decide (s0_3 < N2) = true := decide_eq_true cB; rw [cBb]
        go_wp2
        go_ret
        exact ⟨rfl, HI5.out.drew.drew, below_drew1 (below_drew1 HBB5.out), keep_drew (keep_drew HK5.out)⟩
      · rw [if_neg cB] at H
        simp only [Option.some.injEq, Prod.mk.injEq] at H; obtain ⟨rfl, rfl, rfl, rfl, rfl⟩ := H; have cBb : decide (s0_3 < N2) = false := decide_eq_false cB; rw [cBb]
        go_wp2
        go_ret
        exact ⟨rfl, HI5.out.drew.drew, below_drew1 (below_drew1 HBB5.out), keep_drew (keep_drew HK5.out)⟩


/-! ### params_Defaults: function 22 -/
def params_Defaults.tb0_0 : List Int := [0, 1, 0, 1, 0, 0, 4, 1600, 1600, 2000, 1000, 500, 200, 100, 40, 40, 1, 0, 0, 0, 0, 1, 0, 16]
def params_Defaults.tb0_1 : List Int := [16, 200, 16, 200, 16, 4, 32, 64000, 32000, 16000, 120000, 120000, 10000, 10000, 40000, 40000, 40, 1000000000, 1000000, 1000, 1000, 10000, 16384, 3200]
def params_Defaults.tb0_2 : List Int := [6, 20, 4, 20, 4, 2, 12, 16000, 8000, 8000, 5000, 2000, 1000, 500, 4000, 400, 8, 1000, 100, 1, 2, 500, 4000, 800]
set_option maxRecDepth 100000 in
theorem params_Defaults.row0 (j : Int) (h0 : 0 ≤ j) (h1 : j < 24) (W : World) : (Instr.index 74 (.agg #[.int .i64 0, .int .i64 16, .int .i64 6, .int .i64 1, .int .i64 200, .int .i64 20, .int .i64 0, .int .i64 16, .int .i64 4, .int .i64 1, .int .i64 200, .int .i64 20, .int .i64 0, .int .i64 16, .int .i64 4, .int .i64 0, .int .i64 4, .int .i64 2, .int .i64 4, .int .i64 32, .int .i64 12, .int .i64 1600, .int .i64 64000, .int .i64 16000, .int .i64 1600, .int .i64 32000, .int .i64 8000, .int .i64 2000, .int .i64 16000, .int .i64 8000, .int .i64 1000, .int .i64 120000, .int .i64 5000, .int .i64 500, .int .i64 120000, .int .i64 2000, .int .i64 200, .int .i64 10000, .int .i64 1000, .int .i64 100, .int .i64 10000, .int .i64 500, .int .i64 40, .int .i64 40000, .int .i64 4000, .int .i64 40, .int .i64 40000, .int .i64 400, .int .i64 1, .int .i64 40, .int .i64 8, .int .i64 0, .int .i64 1000000000, .int .i64 1000, .int .i64 0, .int .i64 1000000, .int .i64 100, .int .i64 0, .int .i64 1000, .int .i64 1, .int .i64 0, .int .i64 1000, .int .i64 2, .int .i64 1, .int .i64 10000, .int .i64 500, .int .i64 0, .int .i64 16384, .int .i64 4000, .int .i64 16, .int .i64 3200, .int .i64 800]) (.int .i64 j)).run Try.prog W = .ok (.agg #[.int .i64 (rd params_Defaults.tb0_0 j), .int .i64 (rd params_Defaults.tb0_1 j), .int .i64 (rd params_Defaults.tb0_2 j)]) W := by
  have hj : j = 0 ∨ j = 1 ∨ j = 2 ∨ j = 3 ∨ j = 4 ∨ j = 5 ∨ j = 6 ∨ j = 7 ∨ j = 8 ∨ j = 9 ∨ j = 10 ∨ j = 11 ∨ j = 12 ∨ j = 13 ∨ j = 14 ∨ j = 15 ∨ j = 16 ∨ j = 17 ∨ j = 18 ∨ j = 19 ∨ j = 20 ∨ j = 21 ∨ j = 22 ∨ j = 23 := by omega
  rcases hj with rfl | rfl | rfl | rfl | rfl | rfl | rfl | rfl | rfl | rfl | rfl | rfl | rfl | rfl | rfl | rfl | rfl | rfl | rfl | rfl | rfl | rfl | rfl | rfl
  all_goals rfl
def params_Defaults.l0 : Nat → List Int → Int → Option (List Int)
  | 0, _, _ => none
  | k + 1, x1, x6 => if x6 < 24 then (if 0 ≤ x6 then (if x1.length < 17592186044416 then (params_Defaults.l0 k (x1 ++ [rd params_Defaults.tb0_2 x6]) (wrap64 (x6 + 1))) else (none)) else (none)) else (some x1)
def params_Defaults.f (k : Nat)  : Option (List Int) := (params_rows.f).bind fun bt296 => (params_Defaults.l0 k (([] : List Int)) 0)
theorem params_Defaults.mono_l : ∀ k, (∀ y0 y1, LeO (params_Defaults.l0 k y0 y1) (params_Defaults.l0 (k + 1) y0 y1))
  | 0 => fun _ _ r h => by simp [params_Defaults.l0] at h
  | k + 1 => by
    have ih0 := params_Defaults.mono_l k
    · intro y0 y1
      unfold params_Defaults.l0
      repeat' first
      | (with_reducible exact ih0 _ _)
      | (with_reducible exact LeO.refl _)
      | (with_reducible exact LeO.none _)
      | (with_reducible refine LeO.ite ?_ ?_)
      | (with_reducible refine LeO.bind ?_ (fun _ => ?_))
      | exact ih0 _ _
      | exact LeO.none _
      | refine LeO.ite ?_ ?_
      | refine LeO.bind ?_ (fun _ => ?_)
theorem params_Defaults.mono : ∀ k, LeO (params_Defaults.f k ) (params_Defaults.f (k + 1) ) := by
  intro  k; have ih0 := params_Defaults.mono_l k; unfold params_Defaults.f
  repeat' first
      | (with_reducible exact ih0 _ _)
      | (with_reducible exact LeO.refl _)
      | (with_reducible exact LeO.none _)
      | (with_reducible refine LeO.ite ?_ ?_)
      | (with_reducible refine LeO.bind ?_ (fun _ => ?_))
      | exact ih0 _ _
      | exact LeO.none _
      | refine LeO.ite ?_ ?_
      | refine LeO.bind ?_ (fun _ => ?_)
set_option maxHeartbeats 8000000 in
set_option maxRecDepth 100000 in
theorem params_Defaults.calls (k : Nat)  (r : List Int) (w : World) (h : params_Defaults.f k  = some r) :
    Calls Try.prog 22 #[] w fun e w' => ∃ v0_ : Value, e = .returned (v0_) ∧ Kd.R (Kd.int .i64) 3 w' w.heap.size (fun _ => True) v0_ r ∧ Below w.heap.size w w' := by
  have hu73 := Try.underlying73; have hu74 := Try.underlying74; have HB := Aside0.mk (Below.refl w.heap.size w); have H : ((params_rows.f).bind fun bt296 => (params_Defaults.l0 k (([] : List Int)) 0)) = some r := h; clear h; obtain ⟨y293, hy293⟩ : ∃ y_ : List Int, y_ = (([] : List Int)) := ⟨_, rfl⟩; replace H : ((params_rows.f).bind fun bt296 => (params_Defaults.l0 k y293 0)) = some r := by first | (rw [hy293]; with_reducible exact H) | (have H2_ := (Option.bind_some _ _).symm.trans H; rw [hy293]; with_reducible exact H2_) | (have H2_ := (Option.bind_some _ _).symm.trans H; with_reducible exact H2_) | with_reducible exact H | (rw [hy293]; exact H) | exact H
  have Ny293 := Aside0.mk hy293; clear hy293; replace H := Option.bind_eq_some_iff.mp H; obtain ⟨⟨t296, t297, t298, t299, t300, t301, t302, t303, t304, t305, t306, t307, t308, t309, t310, t311, t312, t313, t314, t315, t316, t317, t318, t319, t320, t321, t322, t323, t324, t325, t326, t327, t328, t329, t330, t331, t332, t333, t334, t335, t336, t337, t338, t339, t340, t341, t342, t343, t344, t345, t346, t347, t348, t349, t350, t351, t352, t353, t354, t355, t356, t357, t358, t359, t360, t361, t362, t363, t364, t365, t366, t367⟩, A10, H⟩ := H; replace H : (params_Defaults.l0 k y293 0) = some r := H; have A1 := Aside0.mk A10; clear A10; have A1E := A1.out; simp only [params_rows.f, Option.some.injEq, Prod.mk.injEq] at A1E; obtain ⟨rfl, rfl, rfl, rfl, rfl, rfl, rfl, rfl, rfl, rfl, rfl, rfl, rfl, rfl, rfl, rfl, rfl, rfl, rfl, rfl, rfl, rfl, rfl, rfl, rfl, rfl, rfl, rfl, rfl, rfl, rfl, rfl, rfl, rfl, rfl, rfl, rfl, rfl, rfl, rfl, rfl, rfl, rfl, rfl, rfl, rfl, rfl, rfl, rfl, rfl, rfl, rfl, rfl, rfl, rfl, rfl, rfl, rfl, rfl, rfl, rfl, rfl, rfl, rfl, rfl, rfl, rfl, rfl, rfl, rfl, rfl, rfl⟩ := A1E; have H' := Aside0.mk H; clear H; go_enter Try.func22, Try.ntmps22
  go_wp2_with (first | ((with_reducible refine gate_dst (N := 4) rfl ?_); refine Kd.R_make0 (Kd.int .i64) _ 3 rfl (N := 4) rfl 22 _ _ rfl 24 rfl rfl Try.underlying22 (.int .i64 0) 8 info3 (by decide) (ok := fun _ => True) (okp := fun _ => True) (fun _ hk => hk) trivial (by omega) (Below.refl _ _) (Nat.le_refl _) ?_; intro v294 w2 ho3 hb hg_ hnew_; clear hg_ hnew_; (first | rw [← Ny293.out] at ho3 | (simp only [Int.reduceToNat] at ho3; rw [← Ny293.out] at ho3)); have n0_ := Aside0.mk (Kd.R_lower ho3 (below_size (by repeat (first | (with_reducible first | exact HB.out | apply below_alloc | apply pw_below_drewN | apply below_drew1) | exact HB.out)))); have n1_ := Aside0.mk (below_step (by repeat (first | (with_reducible first | exact HB.out | apply below_alloc | apply pw_below_drewN | apply below_drew1) | exact HB.out)) hb); clear HB; have HO295 := n0_; have HB := n1_; clear n0_ n1_; clear hb ho3) | ((with_reducible refine gate_callee (f := 37) rfl ?_); refine goesL_ (some 5) rfl rfl Try.func37 (by kernel_rfl) rfl #[] rfl (by (try simp only [List.map_toArray, List.map_cons, List.map_nil]); first | done | rfl | (simp only [List.length_drop, List.length_take]; rfl)) ?_; (with_reducible refine (params_rows.calls  0 16 6 1 200 20 0 16 4 1 200 20 0 16 4 0 4 2 4 32 12 1600 64000 16000 1600 32000 8000 2000 16000 8000 1000 120000 5000 500 120000 2000 200 10000 1000 100 10000 500 40 40000 4000 40 40000 400 1 40 8 0 1000000000 1000 0 1000000 100 0 1000 1 0 1000 2 1 10000 500 0 16384 4000 16 3200 800 _ A1.out).mono ?_); rintro e w4 ⟨rfl, hb⟩; refine ⟨_, rfl, ?_⟩; have n0_ := Aside0.mk (Kd.R_below (by (with_reducible repeat (first | apply Kd.R_alloc | apply Kd.R_drewN | apply Kd.R_drew)); exact HO295.out) hb); have n1_ := Aside0.mk (below_step (by repeat (first | (with_reducible first | exact HB.out | apply below_alloc | apply pw_below_drewN | apply below_drew1) | exact HB.out)) hb); clear HO295; clear HB; have HO295 := n0_; have HB := n1_; clear n0_ n1_; (try clear hb); (try clear hb2); (try clear hk); (try clear hi)))
  go_loopg [1, 6] k (fun kq v1 v6 w' => ∃ (x1_1 : List Int) (x6_1 : Int), v6 = .int .i64 x6_1 ∧ Aside0 (params_Defaults.l0 kq x1_1 x6_1 = some r) ∧ Aside0 (kq ≤ k) ∧ Aside0 (Kd.R (Kd.int .i64) 3 w' w.heap.size (fun _ => True) v1 x1_1) ∧ Aside0 (Below w.heap.size w w'))
  case atStart => exact ⟨(y293), (0), (by first | rfl | (simp; done) | (simp [*]; done)), H', ⟨Nat.le_refl _⟩, ⟨by (with_reducible repeat (first | apply Kd.R_alloc | apply Kd.R_drewN | apply Kd.R_drew)); exact HO295.out⟩, ⟨by repeat (first | (with_reducible first | exact HB.out | apply below_alloc | apply pw_below_drewN | apply below_drew1) | exact HB.out)⟩⟩
  case round =>
   clear H'; (try clear c2); (try clear p2); (try clear c3); obtain ⟨x1_1, x6_1, rfl, HA, HK1, HO_1, HB⟩ := hrel
   cases gk with
   | zero => exact absurd HA.out (by simp [params_Defaults.l0])
   | succ k1 =>
    have H := HA.out; clear HA; simp only [params_Defaults.l0] at H
    by_cases c5 : x6_1 < 24
    ·rw [if_pos c5] at H
     have c5b0 : decide (x6_1 < 24) = true := decide_eq_true c5; clear c5
     by_cases c6 : 0 ≤ x6_1
     ·rw [if_pos c6] at H
      have c6b0 := eq_true c6; have c6b1 : decide (0 ≤ x6_1) = true := decide_eq_true c6; clear c6; have c7b0 := eq_true (of_decide_eq_true (by with_reducible assumption) : x6_1 < 24); have hix8 := params_Defaults.row0 x6_1 (of_decide_eq_true (by with_reducible assumption)) (of_decide_eq_true (by with_reducible assumption))
      by_cases c9 : x1_1.length < 17592186044416
      ·rw [if_pos c9] at H
       have LMc9 := Aside0.mk c9; clear c9; obtain ⟨y369, hy369⟩ : ∃ y_ : List Int, y_ = (x1_1 ++ [rd params_Defaults.tb0_2 x6_1]) := ⟨_, rfl⟩; replace H : (params_Defaults.l0 k1 y369 (wrap64 (x6_1 + 1))) = some r := by first | (rw [hy369]; with_reducible exact H) | (have H2_ := (Option.bind_some _ _).symm.trans H; rw [hy369]; with_reducible exact H2_) | (have H2_ := (Option.bind_some _ _).symm.trans H; with_reducible exact H2_) | with_reducible exact H | (rw [hy369]; exact H) | exact H
       have Ny369 := Aside0.mk hy369; clear hy369; have H' := Aside0.mk H; clear H
       go_wp2_with (first | ((with_reducible refine gate_dst (N := 3) rfl ?_); refine box_event ?hg (N := 3) ?hd (cs := #[.int .i64 0, .int .i64 0, .int .i64 0]) (t := 73) ?hr ?_; (case hd => rfl); (case hg => rfl); (case hr => first | (go_simp; done) | (go_simp; rfl)); intro gb368 hg w10 hbox hb; have n0_ := Aside0.mk (Kd.R_below (by (with_reducible repeat (first | apply Kd.R_alloc | apply Kd.R_drewN | apply Kd.R_drew)); exact HO_1.out) hb); have n1_ := Aside0.mk (below_step (by repeat (first | (with_reducible first | exact HB.out | apply below_alloc | apply pw_below_drewN | apply below_drew1) | exact HB.out)) hb); have n2_ := Aside0.mk (hbox); have n3_ := Aside0.mk ((by rw [hg]; exact (below_size (by repeat (first | (with_reducible first | exact HB.out | apply below_alloc | apply pw_below_drewN | apply below_drew1) | exact HB.out))) : w.heap.size ≤ gb368)); have n4_ := Aside0.mk ((by rw [hg]; exact (below_size (by repeat (first | (with_reducible first | exact HB.out | apply below_alloc | apply pw_below_drewN | apply below_drew1) | exact HB.out))) : w.heap.size ≤ gb368)); clear HO_1; clear HB; have HO_1 := n0_; have HB := n1_; have BK368 := n2_; have GW368 := n3_; have GE368 := n4_; clear n0_ n1_ n2_ n3_ n4_; clear hb hbox hg; have hcz11_0 := blk_cells3 (w := w10) (g := gb368) BK368.out; have hfz11_0 := blk_frozen BK368.out) | ((with_reducible refine gate_builtin (b := .append) (xs := #[.tmp 9, .tmp 12]) rfl ?_); at_builtin; refine Kd.R_append (Kd.int .i64) (w0 := w) w.heap.size rfl (.tmp 9) (.tmp 12) 22 3 (.int .i64 0) 8 rfl Try.underlying22 info3 rfl (by decide) (by omega) u1 x1_1 (rd params_Defaults.tb0_2 x6_1) [.int .i64 (rd params_Defaults.tb0_2 x6_1)] (fun _ => True) (fun _ => False) rfl (by first | (go_simp; done) | (go_simp; rfl)) ?aP (fun _ hk => hk.elim) ?aF ?aO ?aB ?aS ?aL ?_; (case aP => exact rfl); (case aB => exact (by repeat (first | (with_reducible first | exact HB.out | apply below_alloc | apply pw_below_drewN | apply below_drew1 | refine below_set ?_ GE368.out) | exact HB.out))); (case aF => exact (fun _ _ => trivial)); (case aO => exact (by (with_reducible repeat (first | apply Kd.R_alloc | apply Kd.R_drewN | apply Kd.R_drew)); exact Kd.R_mono (Kd.R_far (p := ⟨gb368, 2, none⟩) (Kd.R_far (p := ⟨gb368, 1, none⟩) (Kd.R_far (p := ⟨gb368, 0, none⟩) (Kd.R_types HO_1.out BK368.out (by decide)) (fun _ hk => hk.2) (.int .i64 (rd params_Defaults.tb0_0 x6_1))) (fun _ hk => hk.2) (.int .i64 (rd params_Defaults.tb0_1 x6_1))) (fun _ hk => hk.2) (.int .i64 (rd params_Defaults.tb0_2 x6_1))) (fun _ hk => trivial))); (case aS => exact (below_size (by repeat (first | (with_reducible first | exact HB.out | apply below_alloc | apply pw_below_drewN | apply below_drew1 | refine below_set ?_ GE368.out) | exact HB.out)))); (case aL => have := LMc9.out; omega); intro v370 w12 ho hb hg hat; rw [← Ny369.out] at ho; have n0_ := Aside0.mk (blk_grown (g := gb368) (o := .cells #[.int .i64 (rd params_Defaults.tb0_0 x6_1), .int .i64 (rd params_Defaults.tb0_1 x6_1), .int .i64 (rd params_Defaults.tb0_2 x6_1)] 73 (0, 0)) (by (with_reducible repeat (first | refine blk_drewN ?_ _ | refine blk_drew ?_ | refine blk_alloc ?_ _)); refine blk_put (cs := #[.int .i64 (rd params_Defaults.tb0_0 x6_1), .int .i64 (rd params_Defaults.tb0_1 x6_1), .int .i64 0]) ?_ 2 _ rfl; (with_reducible repeat (first | refine blk_drewN ?_ _ | refine blk_drew ?_ | refine blk_alloc ?_ _)); refine blk_put (cs := #[.int .i64 (rd params_Defaults.tb0_0 x6_1), .int .i64 0, .int .i64 0]) ?_ 1 _ rfl; (with_reducible repeat (first | refine blk_drewN ?_ _ | refine blk_drew ?_ | refine blk_alloc ?_ _)); refine blk_put (cs := #[.int .i64 0, .int .i64 0, .int .i64 0]) ?_ 0 _ rfl; (with_reducible repeat (first | refine blk_drewN ?_ _ | refine blk_drew ?_ | refine blk_alloc ?_ _)); exact BK368.out) hg (Kd.R_ne HO_1.out BK368.out (by decide))); have n1_ := Aside0.mk (hb); have n2_ := Aside0.mk (ho); clear BK368; clear HB; clear HO_1; have BK368 := n0_; have HB := n1_; have HO371 := n2_; clear n0_ n1_ n2_; clear ho hb hg hat))
       go_roundg k1
       case measure => have := HK1.out; omega
       case rel => exact ⟨(y369), (wrap64 (x6_1 + 1)), (by first | rfl | (simp; done) | (simp [*]; done)), H', ⟨by have := HK1.out; omega⟩, ⟨by (with_reducible repeat (first | apply Kd.R_alloc | apply Kd.R_drewN | apply Kd.R_drew)); exact HO371.out⟩, ⟨by repeat (first | (with_reducible first | exact HB.out | apply below_alloc | apply pw_below_drewN | apply below_drew1 | refine below_set ?_ GE368.out) | exact HB.out)⟩⟩
      ·rw [if_neg c9] at H
       exact absurd H (by simp)
     ·rw [if_neg c6] at H
      exact absurd H (by simp)
    ·rw [if_neg c5] at H
     have c5b0 : decide (x6_1 < 24) = false := decide_eq_false c5; clear c5; obtain rfl := Option.some.inj H
     go_wp2
     go_ret
     exact ⟨_, by first | rfl | (simp [errW_none, errW_some] <;> rfl) | (simp [*, errW_none, errW_some] <;> rfl), by (with_reducible repeat (first | apply Kd.R_alloc | apply Kd.R_drewN | apply Kd.R_drew)); exact HO_1.out, by repeat (first | (with_reducible first | exact HB.out | apply below_alloc | apply pw_below_drewN | apply below_drew1) | exact HB.out)⟩

/-! ### windhoverlaw14_awake: function 11 -/
def windhoverlaw14_awake.j0 : Nat → Bool → List Int → Int → Bool → Int → Int → Option (Bool)
  | 0, _, _, _, _, _, _ => none
  | k + 1, x26, x381000, x381001, x381002, x381003, x381004 => if x26 = true then (none) else ((power_Battery_Tier.f k x381000 x381001 x381002 x381003 x381004 0 0).bind fun bt391 => ((power_Battery_Step.f k x381000 bt391.2.1 bt391.2.2.1 bt391.2.2.2.1 bt391.2.2.2.2 true 10000).bind fun bt396 => ((power_Battery_Step.f k x381000 bt396.1 bt396.2.1 bt396.2.2.1 bt396.2.2.2 false 0).bind fun bt400 => ((power_Battery_Left.f x381000 bt400.1 bt400.2.1 bt400.2.2.1 bt400.2.2.2).bind fun bt404 => (if bt391.1 = 2 then (if bt404.2.2.1 = true then (if (bt404.1 == 9896 && (bt404.2.1 == 10100)) = true then ((power_Battery_Tier.f k x381000 bt404.2.2.2.1 bt404.2.2.2.2.1 bt404.2.2.2.2.2.1 bt404.2.2.2.2.2.2 0 0).bind fun bt412 => (some (bt412.1 == 1))) else (none)) else (none)) else (none))))))
def windhoverlaw14_awake.f (k : Nat)  : Option (Bool) := (params_Defaults.f k).bind fun t372 => ((power_New.f k t372).bind fun bt375 => (if bt375.2.2.2.2.2 = 0 then ((power_New.f k ([] : List Int)).bind fun bt383 => (if bt383.2.2.2.2.2 = 0 then (none) else (if bt383.2.2.2.2.2 = 3 then (windhoverlaw14_awake.j0 k false bt375.1 bt375.2.1 bt375.2.2.1 bt375.2.2.2.1 bt375.2.2.2.2.1) else (windhoverlaw14_awake.j0 k true bt375.1 bt375.2.1 bt375.2.2.1 bt375.2.2.2.1 bt375.2.2.2.2.1)))) else ((power_New.f k ([] : List Int)).bind fun bt417 => (if bt417.2.2.2.2.2 = 0 then (none) else (none)))))
theorem windhoverlaw14_awake.mono_l : ∀ k, (∀ y0 y1 y2 y3 y4 y5, LeO (windhoverlaw14_awake.j0 k y0 y1 y2 y3 y4 y5) (windhoverlaw14_awake.j0 (k + 1) y0 y1 y2 y3 y4 y5))
  | 0 => fun _ _ _ _ _ _ r h => by simp [windhoverlaw14_awake.j0] at h
  | k + 1 => by
    have ih0 := windhoverlaw14_awake.mono_l k
    · intro y0 y1 y2 y3 y4 y5
      unfold windhoverlaw14_awake.j0
      repeat' first
      | (with_reducible exact ih0 _ _ _ _ _ _)
      | (with_reducible exact params_Defaults.mono _)
      | (with_reducible exact power_Battery_Step.mono _ _ _ _ _ _ _ _)
      | (with_reducible exact power_Battery_Tier.mono _ _ _ _ _ _ _ _)
      | (with_reducible exact power_New.mono _ _)
      | (with_reducible exact LeO.refl _)
      | (with_reducible exact LeO.none _)
      | (with_reducible refine LeO.ite ?_ ?_)
      | (with_reducible refine LeO.bind ?_ (fun _ => ?_))
      | exact ih0 _ _ _ _ _ _
      | exact params_Defaults.mono _
      | exact power_Battery_Step.mono _ _ _ _ _ _ _ _
      | exact power_Battery_Tier.mono _ _ _ _ _ _ _ _
      | exact power_New.mono _ _
      | exact LeO.none _
      | refine LeO.ite ?_ ?_
      | refine LeO.bind ?_ (fun _ => ?_)
theorem windhoverlaw14_awake.mono : ∀ k, LeO (windhoverlaw14_awake.f k ) (windhoverlaw14_awake.f (k + 1) ) := by
  intro  k; have ih0 := windhoverlaw14_awake.mono_l k; unfold windhoverlaw14_awake.f
  repeat' first
      | (with_reducible exact ih0 _ _ _ _ _ _)
      | (with_reducible exact params_Defaults.mono _)
      | (with_reducible exact power_Battery_Step.mono _ _ _ _ _ _ _ _)
      | (with_reducible exact power_Battery_Tier.mono _ _ _ _ _ _ _ _)
      | (with_reducible exact power_New.mono _ _)
      | (with_reducible exact LeO.refl _)
      | (with_reducible exact LeO.none _)
      | (with_reducible refine LeO.ite ?_ ?_)
      | (with_reducible refine LeO.bind ?_ (fun _ => ?_))
      | exact ih0 _ _ _ _ _ _
      | exact params_Defaults.mono _
      | exact power_Battery_Step.mono _ _ _ _ _ _ _ _
      | exact power_Battery_Tier.mono _ _ _ _ _ _ _ _
      | exact power_New.mono _ _
      | exact LeO.none _
      | refine LeO.ite ?_ ?_
      | refine LeO.bind ?_ (fun _ => ?_)
set_option maxHeartbeats 8000000 in
set_option maxRecDepth 100000 in
theorem windhoverlaw14_awake.calls (k : Nat)  (r : Bool) (w : World) (h : windhoverlaw14_awake.f k  = some r) :
    Calls Try.prog 11 #[] w fun e w' => e = .returned (.bool r) ∧ Below w.heap.size w w' := by
  have hu42 := Try.underlying42; have hu31 := Try.underlying31; have HB := Aside0.mk (Below.refl w.heap.size w); have H : ((params_Defaults.f k).bind fun t372 => ((power_New.f k t372).bind fun bt375 => (if bt375.2.2.2.2.2 = 0 then ((power_New.f k ([] : List Int)).bind fun bt383 => (if bt383.2.2.2.2.2 = 0 then (none) else (if bt383.2.2.2.2.2 = 3 then (windhoverlaw14_awake.j0 k false bt375.1 bt375.2.1 bt375.2.2.1 bt375.2.2.2.1 bt375.2.2.2.2.1) else (windhoverlaw14_awake.j0 k true bt375.1 bt375.2.1 bt375.2.2.1 bt375.2.2.2.1 bt375.2.2.2.2.1)))) else ((power_New.f k ([] : List Int)).bind fun bt417 => (if bt417.2.2.2.2.2 = 0 then (none) else (none)))))) = some r := h; clear h; replace H := Option.bind_eq_some_iff.mp H; obtain ⟨t372, A10, H⟩ := H; replace H : ((power_New.f k t372).bind fun bt375 => (if bt375.2.2.2.2.2 = 0 then ((power_New.f k ([] : List Int)).bind fun bt383 => (if bt383.2.2.2.2.2 = 0 then (none) else (if bt383.2.2.2.2.2 = 3 then (windhoverlaw14_awake.j0 k false bt375.1 bt375.2.1 bt375.2.2.1 bt375.2.2.2.1 bt375.2.2.2.2.1) else (windhoverlaw14_awake.j0 k true bt375.1 bt375.2.1 bt375.2.2.1 bt375.2.2.2.1 bt375.2.2.2.2.1)))) else ((power_New.f k ([] : List Int)).bind fun bt417 => (if bt417.2.2.2.2.2 = 0 then (none) else (none))))) = some r := H; have A1 := Aside0.mk A10; clear A10; replace H := Option.bind_eq_some_iff.mp H; obtain ⟨⟨t375, t376, t377, t378, t379, t381⟩, A20, H⟩ := H; replace H : (if t381 = 0 then ((power_New.f k ([] : List Int)).bind fun bt383 => (if bt383.2.2.2.2.2 = 0 then (none) else (if bt383.2.2.2.2.2 = 3 then (windhoverlaw14_awake.j0 k false t375 t376 t377 t378 t379) else (windhoverlaw14_awake.j0 k true t375 t376 t377 t378 t379)))) else ((power_New.f k ([] : List Int)).bind fun bt417 => (if bt417.2.2.2.2.2 = 0 then (none) else (none)))) = some r := H; have A2 := Aside0.mk A20; clear A20
  by_cases c3 : t381 = 0
  · rw [if_pos c3] at H
    have c3b0 : (t381 == 0) = true := beq_iff_eq.mpr c3; have c3b1 : (t381 != 0) = false := bne_eq_false_iff_eq.mpr c3; clear c3; replace H := Option.bind_eq_some_iff.mp H; obtain ⟨⟨t383, t384, t385, t386, t387, t389⟩, A40, H⟩ := H; replace H : (if t389 = 0 then (none) else (if t389 = 3 then (windhoverlaw14_awake.j0 k false t375 t376 t377 t378 t379) else (windhoverlaw14_awake.j0 k true t375 t376 t377 t378 t379))) = some r := H; have A4 := Aside0.mk A40; clear A40
    by_cases c5 : t389 = 0
    · rw [if_pos c5] at H
      exact absurd H (by simp)
    · rw [if_neg c5] at H
      have c5b0 : (t389 == 0) = false := beq_eq_false_iff_ne.mpr c5; have c5b1 : (t389 != 0) = true := bne_iff_ne.mpr c5; have HC6 := Aside0.mk H; clear H; go_enter Try.func11, Try.ntmps11
      go_upto_region 3 with (first | ((with_reducible refine gate_callee (f := 22) rfl ?_); refine goesL_ (some 9) rfl rfl Try.func22 (by kernel_rfl) rfl #[] rfl (by (try simp only [List.map_toArray, List.map_cons, List.map_nil]); first | done | rfl | (simp only [List.length_drop, List.length_take]; rfl)) ?_; (with_reducible refine (params_Defaults.calls k  t372 _ A1.out).mono ?_); rintro e w7 ⟨v373, rfl, ho0, hb⟩; refine ⟨_, rfl, ?_⟩; have n0_ := Aside0.mk (Kd.R_lower ho0 (below_size (by repeat (first | (with_reducible first | exact HB.out | apply below_alloc | apply pw_below_drewN | apply below_drew1) | exact HB.out)))); have n1_ := Aside0.mk (below_step (by repeat (first | (with_reducible first | exact HB.out | apply below_alloc | apply pw_below_drewN | apply below_drew1) | exact HB.out)) hb); clear HB; have HO374 := n0_; have HB := n1_; clear n0_ n1_; (try clear hb); (try clear hb2); (try clear hk); (try clear hi); (try clear ho0); obtain ⟨Ao8, co8, eo8⟩ := Kd.R_slice HO374.out; subst eo8) | ((with_reducible refine gate_callee (f := 8) rfl ?_); refine goesL_ (some 10) rfl rfl Try.func8 (by kernel_rfl) rfl #[.slice Ao8 t372.length co8] rfl (by (try simp only [List.map_toArray, List.map_cons, List.map_nil]); first | done | rfl | (simp only [List.length_drop, List.length_take]; rfl)) ?_; (with_reducible refine (power_New.callsNew k _ _ t372 t375 t376 t377 t378 t379 t381 w _ ?side1 ?side2 ?side3 A2.out (by assumption)).mono ?_); (case side1 => repeat (first | (with_reducible first | exact HB.out | apply below_alloc | apply pw_below_drewN | apply below_drew1) | exact HB.out)); (case side2 => repeat (first | exact (Kd.R_reads' HO374.out).2.2 | (with_reducible refine Kd.C_alloc ?_ _) | (with_reducible refine Kd.C_drewN ?_ _) | (with_reducible refine Kd.C_drew ?_))); (case side3 => exact (Kd.R_reads' HO374.out).2.1); rintro e w9 ⟨g380, rfl, hi, hb, hb2, hn⟩; refine ⟨_, rfl, ?_⟩; have n0_ := Aside0.mk (Kd.R_below (by (with_reducible repeat (first | apply Kd.R_alloc | apply Kd.R_drewN | apply Kd.R_drew)); exact HO374.out) hb2); have n1_ := Aside0.mk (hb); have n2_ := Aside0.mk (hi); clear HO374; clear HB; have HO374 := n0_; have HB := n1_; have HI380 := n2_; clear n0_ n1_ n2_; (try clear hb); (try clear hb2); (try clear hk); (try clear hi)) | ((with_reducible refine gate_callee (f := 8) rfl ?_); refine goesL_ (some 14) rfl rfl Try.func8 (by kernel_rfl) rfl #[.slice none 0 0] rfl (by (try simp only [List.map_toArray, List.map_cons, List.map_nil]); first | done | rfl | (simp only [List.length_drop, List.length_take]; rfl)) ?_; (refine (power_New.callsNil k _ _ ([] : List Int) t383 t384 t385 t386 t387 t389 _ ?side1 ?side2 A4.out (by assumption)).mono ?_); (case side1 => exact Kd.C_nil _ _); (case side2 => exact Nat.le_refl _); rintro e w10 ⟨rfl, hb⟩; refine ⟨_, rfl, ?_⟩; have n0_ := Aside0.mk (Kd.R_below (by (with_reducible repeat (first | apply Kd.R_alloc | apply Kd.R_drewN | apply Kd.R_drew)); exact HO374.out) hb); have n1_ := Aside0.mk (IsS63.below (by repeat (first | (with_reducible first | exact HI380.out | apply IsS63.alloc | apply IsS63.drewN | apply IsS63.drew | apply IsS63.set_1 | apply IsS63.set_2 | apply IsS63.set_3 | apply IsS63.set_4) | exact HI380.out)) hb); have n2_ := Aside0.mk (below_step (by repeat (first | (with_reducible first | exact HB.out | apply below_alloc | apply pw_below_drewN | apply below_drew1 | refine below_set ?_ (IsS63.ge HI380.out)) | exact HB.out)) hb); clear HO374; clear HI380; clear HB; have HO374 := n0_; have HI380 := n1_; have HB := n2_; clear n0_ n1_ n2_; (try clear hb); (try clear hb2); (try clear hk); (try clear hi)))
      (try simp only [Act.put, List.setIfInBounds_toArray, List.set_cons_zero, List.set_cons_succ])
      go_cut [26] (fun v26 wc => ∃ (kq : Nat) (x26_5 : Bool), v26 = .bool x26_5 ∧ Aside0 (windhoverlaw14_awake.j0 kq x26_5 t375 t376 t377 t378 t379 = some r) ∧ Aside0 (kq ≤ k) ∧ Aside0 (IsS63 w wc g380 t375 t376 t377 t378 t379) ∧ Aside0 (Below w.heap.size w wc))
      case first =>
        have H := HC6.out; clear HC6
        by_cases c11 : t389 = 3
        · rw [if_pos c11] at H
          have c11b0 : (t389 == 3) = true := beq_iff_eq.mpr c11; have c11b1 : (t389 != 3) = false := bne_eq_false_iff_eq.mpr c11; clear c11; (first | rw [c11b0] | (simp only [i64_w, i32_w]; rw [c11b0]) | skip); have H' := Aside0.mk H; clear H
          go_wp2
          go_meet
          case rel => exact ⟨_, (false), (by first | rfl | (simp; done) | (simp [*]; done)), H', ⟨by first | omega | exact Nat.le_refl _⟩, ⟨by repeat (first | (with_reducible first | exact HI380.out | apply IsS63.alloc | apply IsS63.drewN | apply IsS63.drew | apply IsS63.set_1 | apply IsS63.set_2 | apply IsS63.set_3 | apply IsS63.set_4) | exact HI380.out)⟩, ⟨by repeat (first | (with_reducible first | exact HB.out | apply below_alloc | apply pw_below_drewN | apply below_drew1 | refine below_set ?_ (IsS63.ge HI380.out)) | exact HB.out)⟩⟩
        · rw [if_neg c11] at H
          have c11b0 : (t389 == 3) = false := beq_eq_false_iff_ne.mpr c11; have c11b1 : (t389 != 3) = true := bne_iff_ne.mpr c11; (first | rw [c11b0] | (simp only [i64_w, i32_w]; rw [c11b0]) | skip); have H' := Aside0.mk H; clear H
          go_wp2
          go_meet
          case rel => exact ⟨_, (true), (by first | rfl | (simp; done) | (simp [*]; done)), H', ⟨by first | omega | exact Nat.le_refl _⟩, ⟨by repeat (first | (with_reducible first | exact HI380.out | apply IsS63.alloc | apply IsS63.drewN | apply IsS63.drew | apply IsS63.set_1 | apply IsS63.set_2 | apply IsS63.set_3 | apply IsS63.set_4) | exact HI380.out)⟩, ⟨by repeat (first | (with_reducible first | exact HB.out | apply below_alloc | apply pw_below_drewN | apply below_drew1 | refine below_set ?_ (IsS63.ge HI380.out)) | exact HB.out)⟩⟩
      case rest =>
        clear HC6; (try clear c1); (try clear c2); (try clear p2); (try clear c3); (try clear c3b0); (try clear c3b1); (try clear c5); (try clear c5b0); (try clear c5b1); (try clear c8); (try clear c11); (try clear c11b0); (try clear c11b1); obtain ⟨kq, x26_5, rfl, HA, HJ5, HI380, HB⟩ := hcut
        cases kq with
        | zero => exact absurd HA.out (by simp [windhoverlaw14_awake.j0])
        | succ kj5 =>
          have H := HA.out; clear HA; simp only [windhoverlaw14_awake.j0] at H
          by_cases c12 : x26_5 = true
          · subst c12
            have H1 : (none) = some r := by rw [if_pos rfl] at H; exact H
            clear H; have H := H1; clear H1
            exact absurd H (by simp)
          · replace c12 := Bool.eq_false_iff.mpr c12
            subst c12; have H1 : ((power_Battery_Tier.f kj5 t375 t376 t377 t378 t379 0 0).bind fun bt391 => ((power_Battery_Step.f kj5 t375 bt391.2.1 bt391.2.2.1 bt391.2.2.2.1 bt391.2.2.2.2 true 10000).bind fun bt396 => ((power_Battery_Step.f kj5 t375 bt396.1 bt396.2.1 bt396.2.2.1 bt396.2.2.2 false 0).bind fun bt400 => ((power_Battery_Left.f t375 bt400.1 bt400.2.1 bt400.2.2.1 bt400.2.2.2).bind fun bt404 => (if bt391.1 = 2 then (if bt404.2.2.1 = true then (if (bt404.1 == 9896 && (bt404.2.1 == 10100)) = true then ((power_Battery_Tier.f kj5 t375 bt404.2.2.2.1 bt404.2.2.2.2.1 bt404.2.2.2.2.2.1 bt404.2.2.2.2.2.2 0 0).bind fun bt412 => (some (bt412.1 == 1))) else (none)) else (none)) else (none)))))) = some r := by rw [if_neg (show ¬ (false = true) by decide)] at H; exact H
            clear H; have H := H1; clear H1; replace H := Option.bind_eq_some_iff.mp H; obtain ⟨⟨t391, t392, t393, t394, t395⟩, A130, H⟩ := H; replace H : ((power_Battery_Step.f kj5 t375 t392 t393 t394 t395 true 10000).bind fun bt396 => ((power_Battery_Step.f kj5 t375 bt396.1 bt396.2.1 bt396.2.2.1 bt396.2.2.2 false 0).bind fun bt400 => ((power_Battery_Left.f t375 bt400.1 bt400.2.1 bt400.2.2.1 bt400.2.2.2).bind fun bt404 => (if t391 = 2 then (if bt404.2.2.1 = true then (if (bt404.1 == 9896 && (bt404.2.1 == 10100)) = true then ((power_Battery_Tier.f kj5 t375 bt404.2.2.2.1 bt404.2.2.2.2.1 bt404.2.2.2.2.2.1 bt404.2.2.2.2.2.2 0 0).bind fun bt412 => (some (bt412.1 == 1))) else (none)) else (none)) else (none))))) = some r := H; have A13 := Aside0.mk A130; clear A130; replace H := Option.bind_eq_some_iff.mp H; obtain ⟨⟨t396, t397, t398, t399⟩, A140, H⟩ := H; replace H : ((power_Battery_Step.f kj5 t375 t396 t397 t398 t399 false 0).bind fun bt400 => ((power_Battery_Left.f t375 bt400.1 bt400.2.1 bt400.2.2.1 bt400.2.2.2).bind fun bt404 => (if t391 = 2 then (if bt404.2.2.1 = true then (if (bt404.1 == 9896 && (bt404.2.1 == 10100)) = true then ((power_Battery_Tier.f kj5 t375 bt404.2.2.2.1 bt404.2.2.2.2.1 bt404.2.2.2.2.2.1 bt404.2.2.2.2.2.2 0 0).bind fun bt412 => (some (bt412.1 == 1))) else (none)) else (none)) else (none)))) = some r := H; have A14 := Aside0.mk A140; clear A140; replace H := Option.bind_eq_some_iff.mp H; obtain ⟨⟨t400, t401, t402, t403⟩, A150, H⟩ := H; replace H : ((power_Battery_Left.f t375 t400 t401 t402 t403).bind fun bt404 => (if t391 = 2 then (if bt404.2.2.1 = true then (if (bt404.1 == 9896 && (bt404.2.1 == 10100)) = true then ((power_Battery_Tier.f kj5 t375 bt404.2.2.2.1 bt404.2.2.2.2.1 bt404.2.2.2.2.2.1 bt404.2.2.2.2.2.2 0 0).bind fun bt412 => (some (bt412.1 == 1))) else (none)) else (none)) else (none))) = some r := H; have A15 := Aside0.mk A150; clear A150; replace H := Option.bind_eq_some_iff.mp H; obtain ⟨⟨t404, t405, t406, t407, t408, t409, t410⟩, A160, H⟩ := H; replace H : (if t391 = 2 then (if t406 = true then (if (t404 == 9896 && (t405 == 10100)) = true then ((power_Battery_Tier.f kj5 t375 t407 t408 t409 t410 0 0).bind fun bt412 => (some (bt412.1 == 1))) else (none)) else (none)) else (none)) = some r := H; have A16 := Aside0.mk A160; clear A160
            by_cases c17 : t391 = 2
            · rw [if_pos c17] at H
              have c17b0 : (t391 == 2) = true := beq_iff_eq.mpr c17; have c17b1 : (t391 != 2) = false := bne_eq_false_iff_eq.mpr c17; clear c17
              by_cases c18 : t406 = true
              · subst c18
                have H1 : (if (t404 == 9896 && (t405 == 10100)) = true then ((power_Battery_Tier.f kj5 t375 t407 t408 t409 t410 0 0).bind fun bt412 => (some (bt412.1 == 1))) else (none)) = some r := by rw [if_pos rfl] at H; exact H
                clear H; have H := H1; clear H1
                by_cases c19 : (t404 == 9896 && (t405 == 10100)) = true
                · rw [if_pos c19] at H
                  have c19b0 : (t404 == 9896 && (t405 == 10100)) = true := c19; (try (have c19b1 : decide (t404 = 9896 && (t405 == 10100)) = true := by simpa using c19)); (try (have c19b2 : (t404 == 9896 && (t405 == 10100)) = true := by simpa using c19)); clear c19; replace H := Option.bind_eq_some_iff.mp H; obtain ⟨⟨t412, t413, t414, t415, t416⟩, A200, H⟩ := H; replace H : (some (t412 == 1)) = some r := H; have A20 := Aside0.mk A200; clear A200; obtain rfl := Option.some.inj H
                  go_wp2_with (first | ((with_reducible refine gate_callee (f := 16) rfl ?_); refine goesL_ (some 28) rfl rfl Try.func16 (by kernel_rfl) rfl #[.pointer (some ⟨g380, 0, none⟩), .int .i64 0, .int .i64 0] rfl (by (try simp only [List.map_toArray, List.map_cons, List.map_nil]); first | done | rfl | (simp only [List.length_drop, List.length_take]; rfl)) ?_; (with_reducible refine (power_Battery_Tier.calls kj5 g380 t375 t376 t377 t378 t379 0 0 t391 t392 t393 t394 t395 w _ ?side1 ?side2 A13.out).mono ?_); (case side1 => repeat (first | (with_reducible first | exact HI380.out | apply IsS63.alloc | apply IsS63.drewN | apply IsS63.drew | apply IsS63.set_1 | apply IsS63.set_2 | apply IsS63.set_3 | apply IsS63.set_4) | exact HI380.out)); (case side2 => repeat (first | (with_reducible first | exact HB.out | apply below_alloc | apply pw_below_drewN | apply below_drew1 | refine below_set ?_ (IsS63.ge HI380.out)) | exact HB.out)); rintro e w21 ⟨rfl, hi, hb, hk⟩; refine ⟨_, rfl, ?_⟩; have n0_ := Aside0.mk (hb); have n1_ := Aside0.mk (hi); clear HB; clear HI380; have HB := n0_; have HI380 := n1_; clear n0_ n1_; (try clear hb); (try clear hb2); (try clear hk); (try clear hi)) | ((with_reducible refine gate_callee (f := 13) rfl ?_); refine goesL_ (some 31) rfl rfl Try.func13 (by kernel_rfl) rfl #[.pointer (some ⟨g380, 0, none⟩), .agg #[.bool true, .int .i64 10000]] rfl (by (try simp only [List.map_toArray, List.map_cons, List.map_nil]); first | done | rfl | (simp only [List.length_drop, List.length_take]; rfl)) ?_; (with_reducible refine (power_Battery_Step.calls kj5 g380 t375 t392 t393 t394 t395 true 10000 t396 t397 t398 t399 w _ ?side1 ?side2 A14.out).mono ?_); (case side1 => repeat (first | (with_reducible first | exact HI380.out | apply IsS63.alloc | apply IsS63.drewN | apply IsS63.drew | apply IsS63.set_1 | apply IsS63.set_2 | apply IsS63.set_3 | apply IsS63.set_4) | exact HI380.out)); (case side2 => repeat (first | (with_reducible first | exact HB.out | apply below_alloc | apply pw_below_drewN | apply below_drew1 | refine below_set ?_ (IsS63.ge HI380.out)) | exact HB.out)); rintro e w22 ⟨rfl, hi, hb, hk⟩; refine ⟨_, rfl, ?_⟩; have n0_ := Aside0.mk (hb); have n1_ := Aside0.mk (hi); clear HB; clear HI380; have HB := n0_; have HI380 := n1_; clear n0_ n1_; (try clear hb); (try clear hb2); (try clear hk); (try clear hi)) | ((with_reducible refine gate_callee (f := 13) rfl ?_); refine goesL_ (some 34) rfl rfl Try.func13 (by kernel_rfl) rfl #[.pointer (some ⟨g380, 0, none⟩), .agg #[.bool false, .int .i64 0]] rfl (by (try simp only [List.map_toArray, List.map_cons, List.map_nil]); first | done | rfl | (simp only [List.length_drop, List.length_take]; rfl)) ?_; (with_reducible refine (power_Battery_Step.calls kj5 g380 t375 t396 t397 t398 t399 false 0 t400 t401 t402 t403 w _ ?side1 ?side2 A15.out).mono ?_); (case side1 => repeat (first | (with_reducible first | exact HI380.out | apply IsS63.alloc | apply IsS63.drewN | apply IsS63.drew | apply IsS63.set_1 | apply IsS63.set_2 | apply IsS63.set_3 | apply IsS63.set_4) | exact HI380.out)); (case side2 => repeat (first | (with_reducible first | exact HB.out | apply below_alloc | apply pw_below_drewN | apply below_drew1 | refine below_set ?_ (IsS63.ge HI380.out)) | exact HB.out)); rintro e w23 ⟨rfl, hi, hb, hk⟩; refine ⟨_, rfl, ?_⟩; have n0_ := Aside0.mk (hb); have n1_ := Aside0.mk (hi); clear HB; clear HI380; have HB := n0_; have HI380 := n1_; clear n0_ n1_; (try clear hb); (try clear hb2); (try clear hk); (try clear hi)) | ((with_reducible refine gate_callee (f := 15) rfl ?_); refine goesL_ (some 37) rfl rfl Try.func15 (by kernel_rfl) rfl #[.pointer (some ⟨g380, 0, none⟩)] rfl (by (try simp only [List.map_toArray, List.map_cons, List.map_nil]); first | done | rfl | (simp only [List.length_drop, List.length_take]; rfl)) ?_; (with_reducible refine (power_Battery_Left.calls g380 t375 t400 t401 t402 t403 t404 t405 true t407 t408 t409 t410 w _ ?side1 ?side2 A16.out).mono ?_); (case side1 => repeat (first | (with_reducible first | exact HI380.out | apply IsS63.alloc | apply IsS63.drewN | apply IsS63.drew | apply IsS63.set_1 | apply IsS63.set_2 | apply IsS63.set_3 | apply IsS63.set_4) | exact HI380.out)); (case side2 => repeat (first | (with_reducible first | exact HB.out | apply below_alloc | apply pw_below_drewN | apply below_drew1 | refine below_set ?_ (IsS63.ge HI380.out)) | exact HB.out)); rintro e w24 ⟨rfl, hi, hb, hk⟩; refine ⟨_, rfl, ?_⟩; have n0_ := Aside0.mk (hb); have n1_ := Aside0.mk (hi); clear HB; clear HI380; have HB := n0_; have HI380 := n1_; clear n0_ n1_; (try clear hb); (try clear hb2); (try clear hk); (try clear hi)) | ((with_reducible refine gate_dst (N := 6) rfl ?_); refine box_event ?hg (N := 6) ?hd (cs := #[.int .i64 0, .int .i64 0]) (t := 31) ?hr ?_; (case hd => rfl); (case hg => rfl); (case hr => first | (go_simp; done) | (go_simp; rfl)); intro gb411 hg w25 hbox hb; have n0_ := Aside0.mk (IsS63.below (by repeat (first | (with_reducible first | exact HI380.out | apply IsS63.alloc | apply IsS63.drewN | apply IsS63.drew | apply IsS63.set_1 | apply IsS63.set_2 | apply IsS63.set_3 | apply IsS63.set_4) | exact HI380.out)) hb); have n1_ := Aside0.mk (below_step (by repeat (first | (with_reducible first | exact HB.out | apply below_alloc | apply pw_below_drewN | apply below_drew1 | refine below_set ?_ (IsS63.ge HI380.out)) | exact HB.out)) hb); have n2_ := Aside0.mk (hbox); have n3_ := Aside0.mk ((by rw [hg]; exact (below_size (by repeat (first | (with_reducible first | exact HB.out | apply below_alloc | apply pw_below_drewN | apply below_drew1 | refine below_set ?_ (IsS63.ge HI380.out)) | exact HB.out))) : w.heap.size ≤ gb411)); have n4_ := Aside0.mk ((by rw [hg]; exact (below_size (by repeat (first | (with_reducible first | exact HB.out | apply below_alloc | apply pw_below_drewN | apply below_drew1 | refine below_set ?_ (IsS63.ge HI380.out)) | exact HB.out))) : w.heap.size ≤ gb411)); have n5_ := Aside0.mk ((by rw [hg]; exact IsS63.lt (show IsS63 w _ g380 t375 t407 t408 t409 t410 from by repeat (first | (with_reducible first | exact HI380.out | apply IsS63.alloc | apply IsS63.drewN | apply IsS63.drew | apply IsS63.set_1 | apply IsS63.set_2 | apply IsS63.set_3 | apply IsS63.set_4) | exact HI380.out)) : g380 < gb411)); have n6_ := Aside0.mk ((by rw [hg]; exact Nat.ne_of_lt (IsS63.lt (show IsS63 w _ g380 t375 t407 t408 t409 t410 from by repeat (first | (with_reducible first | exact HI380.out | apply IsS63.alloc | apply IsS63.drewN | apply IsS63.drew | apply IsS63.set_1 | apply IsS63.set_2 | apply IsS63.set_3 | apply IsS63.set_4) | exact HI380.out))) : g380 ≠ gb411)); have n7_ := Aside0.mk ((by rw [hg]; exact Nat.ne_of_gt (IsS63.lt (show IsS63 w _ g380 t375 t407 t408 t409 t410 from by repeat (first | (with_reducible first | exact HI380.out | apply IsS63.alloc | apply IsS63.drewN | apply IsS63.drew | apply IsS63.set_1 | apply IsS63.set_2 | apply IsS63.set_3 | apply IsS63.set_4) | exact HI380.out))) : gb411 ≠ g380)); clear HI380; clear HB; have HI380 := n0_; have HB := n1_; have BK411 := n2_; have GW411 := n3_; have GE411 := n4_; have NL380_411 := n5_; have NB380_411 := n6_; have NB411_380 := n7_; clear n0_ n1_ n2_ n3_ n4_ n5_ n6_ n7_; clear hb hbox hg; have hnb26 := NB411_380.out; have hnc26 := NB380_411.out; have hcz27_0 := blk_cells2 (w := w25) (g := gb411) BK411.out; have hfz27_0 := blk_frozen BK411.out) | (go_at_call 16; (with_reducible refine (power_Battery_Tier.calls kj5 g380 t375 t407 t408 t409 t410 0 0 t412 t413 t414 t415 t416 w _ ?side1 ?side2 A20.out).mono ?_); (case side1 => repeat (first | (with_reducible first | exact HI380.out | apply IsS63.alloc | apply IsS63.drewN | apply IsS63.drew | apply IsS63.set_1 | apply IsS63.set_2 | apply IsS63.set_3 | apply IsS63.set_4 | apply IsS63.farb NL380_411.out) | exact HI380.out)); (case side2 => repeat (first | (with_reducible first | exact HB.out | apply below_alloc | apply pw_below_drewN | apply below_drew1 | refine below_set ?_ (IsS63.ge HI380.out) | refine below_set ?_ GE411.out) | exact HB.out)); rintro e w28 ⟨rfl, hi, hb, hk⟩; have n0_ := Aside0.mk (KeepBut.blk hk (g' := gb411) (o := .cells #[.int .i64 t404, .int .i64 t405] 31 (0, 0)) (by (with_reducible repeat (first | refine blk_drewN ?_ _ | refine blk_drew ?_ | refine blk_alloc ?_ _)); refine blk_put (cs := #[.int .i64 t404, .int .i64 0]) ?_ 1 _ rfl; (with_reducible repeat (first | refine blk_drewN ?_ _ | refine blk_drew ?_ | refine blk_alloc ?_ _)); refine blk_put (cs := #[.int .i64 0, .int .i64 0]) ?_ 0 _ rfl; (with_reducible repeat (first | refine blk_drewN ?_ _ | refine blk_drew ?_ | refine blk_alloc ?_ _)); exact BK411.out) NB411_380.out (by simp)); have n1_ := Aside0.mk (hb); have n2_ := Aside0.mk (hi); clear BK411; clear HB; clear HI380; have BK411 := n0_; have HB := n1_; have HI380 := n2_; clear n0_ n1_ n2_; (try clear hb); (try clear hb2); (try clear hk); (try clear hi); clear A20))
                  go_ret
                  exact ⟨by first | rfl | (simp [errW_none, errW_some] <;> rfl) | (simp [*, errW_none, errW_some] <;> rfl), by repeat (first | (with_reducible first | exact HB.out | apply below_alloc | apply pw_below_drewN | apply below_drew1 | refine below_set ?_ (IsS63.ge HI380.out) | refine below_set ?_ GE411.out) | exact HB.out)⟩
                · rw [if_neg c19] at H
                  exact absurd H (by simp)
              · replace c18 := Bool.eq_false_iff.mpr c18
                subst c18; have H1 : (none) = some r := by rw [if_neg (show ¬ (false = true) by decide)] at H; exact H
                clear H; have H := H1; clear H1
                exact absurd H (by simp)
            · rw [if_neg c17] at H
              exact absurd H (by simp)
  · rw [if_neg c3] at H
    have c3b0 : (t381 == 0) = false := beq_eq_false_iff_ne.mpr c3; have c3b1 : (t381 != 0) = true := bne_iff_ne.mpr c3; replace H := Option.bind_eq_some_iff.mp H; obtain ⟨⟨t417, t418, t419, t420, t421, t423⟩, A290, H⟩ := H; replace H : (if t423 = 0 then (none) else (none)) = some r := H; have A29 := Aside0.mk A290; clear A290
    by_cases c30 : t423 = 0
    · rw [if_pos c30] at H
      have c30b0 : (t423 == 0) = true := beq_iff_eq.mpr c30; have c30b1 : (t423 != 0) = false := bne_eq_false_iff_eq.mpr c30; clear c30
      exact absurd H (by simp)
    · rw [if_neg c30] at H
      have c30b0 : (t423 == 0) = false := beq_eq_false_iff_ne.mpr c30; have c30b1 : (t423 != 0) = true := bne_iff_ne.mpr c30
      exact absurd H (by simp)

end Go.Proofs.Ytmmlahckcgjofaa.PPowerFollows
