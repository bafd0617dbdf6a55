-- WRITTEN BY wip/tools/aprint.py of this claim's repository over the kit's words: not typed by hand
import Derived.Test.YtmmlahckcgjofaaPPowerFollowsx0
import Derived.Test.YtmmlahckcgjofaaPPowerFollowsx2
import Derived.Test.YtmmlahckcgjofaaPPowerFollowsx3
import Derived.Test.YtmmlahckcgjofaaPPowerFollowsx4
import Derived.Test.YtmmlahckcgjofaaPPowerFollowsx8
namespace Go.Proofs.Ytmmlahckcgjofaa.PPowerFollows
open Go.RowKit Go.Proofs.YtmmlahckcgjofaaW.PrintWords Go.Proofs.YtmmlahckcgjofaaW.PrintLast Go.Proofs.YtmmlahckcgjofaaW.PrintMore
attribute [local go_sem] max2_int min2_int max_two min_two max_three min_three max_four min_four   -- for this text's walks alone
set_option linter.unusedVariables false
set_option linter.unusedSimpArgs false

/-! ### power_Battery_Step: function 13, by hand -/
def power_Battery_Step.off (k : Nat) (s0_0 : List Int) (s0_1 : Int) (s0_2 : Bool) (lo s0_4 : Int) (a1_0 : Bool) (a1_1 : Int) : Option (Int × Bool × Int × Int) := if a1_0 = true then (if 18 < s0_0.length then ((fix_Sub.f k a1_1 (rd s0_0 18)).bind fun sl => (fix_Add.f k a1_1 (rd s0_0 18)).bind fun sh => if s0_2 = true ∧ mx sl lo ≤ mn sh s0_4 then some (s0_1, true, mx sl lo, mn sh s0_4) else some (s0_1, true, sl, sh)) else none) else some (s0_1, s0_2, lo, s0_4)
def power_Battery_Step.f (k : Nat) (s0_0 : List Int) (s0_1 : Int) (s0_2 : Bool) (s0_3 : Int) (s0_4 : Int) (a1_0 : Bool) (a1_1 : Int) : Option (Int × Bool × Int × Int) := if s0_2 = true then ((fix_Sub.f k s0_3 s0_1).bind fun lo => power_Battery_Step.off k s0_0 s0_1 s0_2 lo s0_4 a1_0 a1_1) else power_Battery_Step.off k s0_0 s0_1 s0_2 s0_3 s0_4 a1_0 a1_1
theorem power_Battery_Step.at17 {w : World} {ad : Addr} {l : List Int} (j : Nat) (hj : j ≠ 0) (h : Kd.C (Kd.int .i64) w (some ad) l.length l) (hl : j < l.length) : w.cell? ⟨ad.block, ad.off + j, none⟩ = some (.int .i64 (rd l (j : Int))) := by
 obtain ⟨ad', e, hx⟩ := Kd.at_int h (j : Int) (by omega) (by omega)
 obtain rfl : ad = ad' := by injection e
 rw [show ((j : Nat) : Int).toNat = j from by omega] at hx
 have h0 : ad.add j = ⟨ad.block, ad.off + j, none⟩ := by
  unfold Addr.add; rw [if_neg hj]
 rw [h0] at hx
 exact hx
theorem power_Battery_Step.mono : ∀ a0 a1 a2 a3 a4 a5 a6 k, LeO (power_Battery_Step.f k a0 a1 a2 a3 a4 a5 a6) (power_Battery_Step.f (k + 1) a0 a1 a2 a3 a4 a5 a6) := by
 intro a0 a1 a2 a3 a4 a5 a6 k
 have ho : ∀ lo, LeO (power_Battery_Step.off k a0 a1 a2 lo a4 a5 a6) (power_Battery_Step.off (k + 1) a0 a1 a2 lo a4 a5 a6) := by
  intro lo; unfold power_Battery_Step.off; refine LeO.ite ?_ (LeO.refl _); refine LeO.ite ?_ (LeO.refl _); refine LeO.bind (fix_Sub.mono _ _ _) (fun _ => ?_)
  exact LeO.bind (fix_Add.mono _ _ _) (fun _ => LeO.refl _)
 unfold power_Battery_Step.f; refine LeO.ite ?_ (ho _)
 exact LeO.bind (fix_Sub.mono _ _ _) (fun _ => ho _)
set_option maxHeartbeats 8000000 in
set_option maxRecDepth 100000 in
theorem power_Battery_Step.calls (k : Nat) (g : Nat) (s0_0 : List Int) (s0_1 : Int) (s0_2 : Bool) (s0_3 : Int) (s0_4 : Int) (a1_0 : Bool) (a1_1 : Int) (r1 : Int) (r2 : Bool) (r3 r4 : Int) (w0 w : World) (hI : IsS63 w0 w g s0_0 s0_1 s0_2 s0_3 s0_4) (hB : Below w0.heap.size w0 w) (h : power_Battery_Step.f k s0_0 s0_1 s0_2 s0_3 s0_4 a1_0 a1_1 = some (r1, r2, r3, r4)) :
  Calls Try.prog 13 #[.pointer (some ⟨g, 0, none⟩), .agg #[.bool a1_0, .int .i64 a1_1]] w fun e w' => e = .returned (.tuple #[]) ∧ IsS63 w0 w' g s0_0 r1 r2 r3 r4 ∧ Below w0.heap.size w0 w' ∧ KeepBut w w' g none := by
 have hu63 := Try.underlying63; have hu31 := Try.underlying31; have hu42 := Try.underlying42; unfold power_Battery_Step.f at h; have HK := Aside0.mk (KeepBut.refl w g none); have HB := Aside0.mk hB; have HL := Aside0.mk (IsS63.lt hI); have HI := Aside0.mk hI; obtain ⟨Aq, cq, hblk, _, hrow⟩ := id hI; have BS0 := Aside0.mk hblk; have HR0 := Aside0.mk (Kd.R_reads' hrow); clear hB hI hblk hrow
 cases s0_2 with
 | false =>
  rw [if_neg (by decide)] at h; unfold power_Battery_Step.off at h
  cases a1_0 with
  | false =>
   rw [if_neg (by decide)] at h; simp only [Option.some.injEq, Prod.mk.injEq] at h; obtain ⟨rfl, rfl, rfl, rfl⟩ := h; go_enter Try.func13, Try.ntmps13
   go_wp2_with (first | ((with_reducible refine gate_dst (N := 3) rfl ?_); refine box_event ?hg (N := 3) ?hd (cs := #[.bool false, .int .i64 a1_1]) (t := 42) ?hr ?_; (case hd => rfl); (case hg => rfl); (case hr => first | (go_simp; done) | (go_simp; rfl)); intro gt hg w4 hbox hb; have hb_ := hb; have BT := Aside0.mk hbox; have n0_ := Aside0.mk (IsS63.below HI.out hb); have n1_ := Aside0.mk (below_step HB.out hb); have GW := Aside0.mk (show w.heap.size ≤ gt by rw [hg]; exact Nat.le_refl _); have NL := Aside0.mk (show g < gt by rw [hg]; exact HL.out); have n2_ := Aside0.mk (show KeepBut w w4 g none from HK.out.trans (KeepBut.of_below hb g none) (.inl rfl)); clear HI HB HK; have HI := n0_; have HB := n1_; have HK := n2_; clear n0_ n1_ n2_ hb hbox hg; have BS := Aside0.mk (blk_below BS0.out hb_); have HR := Aside0.mk (Kd.C_below HR0.out.2.2 hb_); clear hb_; have hcs := blk_cells5 (w := w4) (g := g) BS.out; have hct := blk_cells2 (w := w4) (g := gt) BT.out))
   refine bodyPost_ret (results_none rfl _ _ _) rfl ?_
   exact ⟨rfl, HI.out, HB.out, HK.out⟩
  | true =>
   rw [if_pos rfl] at h
   by_cases c18 : 18 < s0_0.length
   case neg => rw [if_neg c18] at h; cases h
   rw [if_pos c18] at h; have HC := Aside0.mk c18; replace h := Option.bind_eq_some_iff.mp h; obtain ⟨sl, e1, h⟩ := h; replace h := Option.bind_eq_some_iff.mp h; obtain ⟨sh, e2, h⟩ := h; have E1 := Aside0.mk e1; have E2 := Aside0.mk e2; have H := Aside0.mk h; obtain ⟨ad, ea, _⟩ := Kd.at_int HR0.out.2.2 0 (by decide) (by omega); subst ea; have b18 : (18 < s0_0.length) = True := eq_true c18; have g18 : ((18 : Int) < (s0_0.length : Int)) = True := eq_true (by omega); have d18 : decide (18 < s0_0.length) = true := decide_eq_true c18; have f18 : decide ((18 : Int) < (s0_0.length : Int)) = true := decide_eq_true (by omega); clear e1 e2 h c18; go_enter Try.func13, Try.ntmps13
   go_wp2_with (first | ((with_reducible refine gate_dst (N := 3) rfl ?_); refine box_event ?hg (N := 3) ?hd (cs := #[.bool true, .int .i64 a1_1]) (t := 42) ?hr ?_; (case hd => rfl); (case hg => rfl); (case hr => first | (go_simp; done) | (go_simp; rfl)); intro gt hg w4 hbox hb; have hb_ := hb; have BT := Aside0.mk hbox; have n0_ := Aside0.mk (IsS63.below HI.out hb); have n1_ := Aside0.mk (below_step HB.out hb); have GW := Aside0.mk (show w.heap.size ≤ gt by rw [hg]; exact Nat.le_refl _); have NL := Aside0.mk (show g < gt by rw [hg]; exact HL.out); have n2_ := Aside0.mk (show KeepBut w w4 g none from HK.out.trans (KeepBut.of_below hb g none) (.inl rfl)); clear HI HB HK; have HI := n0_; have HB := n1_; have HK := n2_; clear n0_ n1_ n2_ hb hbox hg; have BS := Aside0.mk (blk_below BS0.out hb_); have HR := Aside0.mk (Kd.C_below HR0.out.2.2 hb_); clear hb_; have hcs := blk_cells5 (w := w4) (g := g) BS.out; have hy18 := power_Battery_Step.at17 18 (by decide) HR.out HC.out; have hct := blk_cells2 (w := w4) (g := gt) BT.out))
   clear hcs hct hy18; have egt : w4.heap.size ≠ gt := Nat.ne_of_gt (blk_lt BT.out); have egg : w4.heap.size ≠ g := Nat.ne_of_gt (blk_lt BS.out); have y1 : _ := (blk_cell BT.out 1).trans rfl; have hnew : ∀ m, ((w4.drewN m).alloc (.cells #[.int .i64 0, .int .i64 0] 31)).heap[w4.heap.size]? = some (.cells #[.int .i64 0, .int .i64 0] 31 (0, 0)) := fun m => blk_new (w4.drewN m) _
   have hn0 : ∀ m, ((w4.drewN m).alloc (.cells #[.int .i64 0, .int .i64 0] 31)).cell? ⟨w4.heap.size, 0, none⟩ = some (.int .i64 0) := fun m => (blk_cell (hnew m) 0).trans rfl
   have hn1 : ∀ m, ((w4.drewN m).alloc (.cells #[.int .i64 0, .int .i64 0] 31)).cell? ⟨w4.heap.size, 1, none⟩ = some (.int .i64 0) := fun m => (blk_cell (hnew m) 1).trans rfl
   have hz0 : ∀ m, ((w4.drewN m).alloc (.cells #[.int .i64 0, .int .i64 0] 31)).frozen? ⟨w4.heap.size, 0, none⟩ = false := fun m => blk_frozen (hnew m) 0
   have hz1 : ∀ m, ((w4.drewN m).alloc (.cells #[.int .i64 0, .int .i64 0] 31)).frozen? ⟨w4.heap.size, 1, none⟩ = false := fun m => blk_frozen (hnew m) 1
   have HNEW := Aside0.mk hnew; clear hnew
   go_region_held3 (fun w' => w'.cell? ⟨gt, 1, none⟩ = some (.int .i64 a1_1)) (go_keep)
    (first
     | (go_at_call 23; (with_reducible refine (fix_Sub.calls k a1_1 (rd s0_0 18) sl _ E1.out).mono ?_); rintro e w' ⟨rfl, ⟨nd, rfl⟩⟩)
     | (go_at_call 24; (with_reducible refine (fix_Add.calls k a1_1 (rd s0_0 18) sh _ E2.out).mono ?_); rintro e w' ⟨rfl, ⟨nd, rfl⟩⟩))
   all_goals
    generalize hW : World.setCell (World.setCell _ ⟨w4.heap.size, 0, none⟩ _) ⟨w4.heap.size, 1, none⟩ _ = W5; have hlt : g < w4.heap.size := blk_lt BS.out
    have B5 := Aside0.mk (show W5.heap[w4.heap.size]? = some (.cells #[.int .i64 sl, .int .i64 sh] 31 (0, 0)) from by
     rw [← hW]; refine blk_put (cs := #[.int .i64 sl, .int .i64 0]) ?_ 1 _ rfl; refine blk_put (cs := #[.int .i64 0, .int .i64 0]) ?_ 0 _ rfl
     first | exact HNEW.out _ | (refine blk_drewN ?_ _; first | exact HNEW.out _ | exact blk_new w4 _))
    have BS5 := Aside0.mk (show W5.heap[g]? = some (.cells #[.slice (some ad) s0_0.length cq, .int .i64 s0_1, .bool false, .int .i64 s0_3, .int .i64 s0_4] 63 (0, 0)) from by
     rw [← hW]; refine blk_far (blk_far ?_ (Nat.ne_of_lt hlt) _) (Nat.ne_of_lt hlt) _
     repeat (first | exact BS.out | refine blk_drewN ?_ _ | refine blk_alloc ?_ _))
    have HI5 := Aside0.mk (show IsS63 w0 W5 g s0_0 s0_1 false s0_3 s0_4 from by
     rw [← hW]; refine IsS63.far (IsS63.far ?_ hlt _) hlt _
     repeat (first | exact HI.out | apply IsS63.drewN | apply IsS63.alloc))
    have HB5 := Aside0.mk (show Below w0.heap.size w0 W5 from by
     rw [← hW]; refine below_set (below_set ?_ HB.out.size) HB.out.size
     repeat (first | exact HB.out | apply pw_below_drewN | apply below_alloc))
    have HK5 := Aside0.mk (show KeepBut w W5 g none from by
     rw [← hW]; refine keep_far (keep_far ?_ (keep_size HK.out) _) (keep_size HK.out) _
     repeat (first | exact HK.out | apply keep_drewN | apply keep_alloc))
    clear hn0 hn1 hz0 hz1 hW y1; obtain ⟨n5, hn5⟩ : ∃ n, w4.heap.size = n := ⟨_, rfl⟩; rw [hn5] at B5 hlt egg egt ⊢; have HN5 := Aside0.mk hn5; clear hn5; have v0 : _ := (blk_cell B5.out 0).trans rfl; have v1 : _ := (blk_cell B5.out 1).trans rfl; have v3 : _ := (blk_cell BS5.out 3).trans rfl; have v4 : _ := (blk_cell BS5.out 4).trans rfl; obtain ⟨MX, hmx⟩ : ∃ m, (if sl < s0_3 then s0_3 else sl) = m := ⟨_, rfl⟩; obtain ⟨MN, hmn⟩ : ∃ m, (if s0_4 < sh then s0_4 else sh) = m := ⟨_, rfl⟩
    go_wp2
    go_region_held3 (fun w' => w'.cell? ⟨n5, 0, none⟩ = some (.int .i64 sl) ∧ w'.cell? ⟨n5, 1, none⟩ = some (.int .i64 sh) ∧ w'.cell? ⟨g, 3, none⟩ = some (.int .i64 s0_3) ∧ w'.cell? ⟨g, 4, none⟩ = some (.int .i64 s0_4)) (go_keep) (fail)
    all_goals
     have v2 : _ := (blk_cell BS5.out 2).trans rfl; have hf2 : _ := blk_frozen BS5.out 2; have hf3 : _ := blk_frozen BS5.out 3; have hf4 : _ := blk_frozen BS5.out 4
     go_wp2
     (first | go_end0 | ((try simp only [Exit.inBlock, Exit.then]); refine bodyPost_ret (results_none rfl _ _ _) rfl ?_)); replace H := H.out; rw [if_neg (by simp)] at H; simp only [Option.some.injEq, Prod.mk.injEq] at H; obtain ⟨rfl, rfl, rfl, rfl⟩ := H; have GE5 := Aside0.mk (IsS63.ge HI5.out)
     exact ⟨rfl, (((HI5.out.set_3 sl).set_4 sh).set_2 true).drew, below_drew1 (below_set (below_set (below_set HB5.out GE5.out) GE5.out) GE5.out), keep_drew (((HK5.out.set_ 3 _).set_ 4 _).set_ 2 _)⟩
 | true =>
  rw [if_pos rfl] at h; replace h := Option.bind_eq_some_iff.mp h; obtain ⟨lo, e0, h⟩ := h; have E0 := Aside0.mk e0; clear e0; unfold power_Battery_Step.off at h
  cases a1_0 with
  | false =>
   rw [if_neg (by decide)] at h; simp only [Option.some.injEq, Prod.mk.injEq] at h; obtain ⟨rfl, rfl, rfl, rfl⟩ := h; go_enter Try.func13, Try.ntmps13
   go_wp2_with (first | ((with_reducible refine gate_dst (N := 3) rfl ?_); refine box_event ?hg (N := 3) ?hd (cs := #[.bool false, .int .i64 a1_1]) (t := 42) ?hr ?_; (case hd => rfl); (case hg => rfl); (case hr => first | (go_simp; done) | (go_simp; rfl)); intro gt hg w4 hbox hb; have hb_ := hb; have BT := Aside0.mk hbox; have n0_ := Aside0.mk (IsS63.below HI.out hb); have n1_ := Aside0.mk (below_step HB.out hb); have GW := Aside0.mk (show w.heap.size ≤ gt by rw [hg]; exact Nat.le_refl _); have NL := Aside0.mk (show g < gt by rw [hg]; exact HL.out); have n2_ := Aside0.mk (show KeepBut w w4 g none from HK.out.trans (KeepBut.of_below hb g none) (.inl rfl)); clear HI HB HK; have HI := n0_; have HB := n1_; have HK := n2_; clear n0_ n1_ n2_ hb hbox hg; have BS := Aside0.mk (blk_below BS0.out hb_); have HR := Aside0.mk (Kd.C_below HR0.out.2.2 hb_); clear hb_; have hcs := blk_cells5 (w := w4) (g := g) BS.out; have hct := blk_cells2 (w := w4) (g := gt) BT.out))
   have hf3_ : _ := blk_frozen BS.out 3
   go_region_with (first | (go_at_call 23; (with_reducible refine (fix_Sub.calls k s0_3 s0_1 lo _ E0.out).mono ?_); rintro e w' ⟨rfl, ⟨nd, rfl⟩⟩))
   all_goals
    generalize hW3 : World.setCell _ ⟨g, 3, none⟩ _ = W3
    have HI3 := Aside0.mk (show IsS63 w0 W3 g s0_0 s0_1 true lo s0_4 from by
     rw [← hW3]
     exact (IsS63.drewN HI.out _).set_3 lo)
    have BS3 := Aside0.mk (show W3.heap[g]? = some (.cells #[.slice Aq s0_0.length cq, .int .i64 s0_1, .bool true, .int .i64 lo, .int .i64 s0_4] 63 (0, 0)) from by
     rw [← hW3]
     exact blk_put (blk_drewN BS.out _) 3 _ rfl)
    have BT3 := Aside0.mk (show W3.heap[gt]? = some (.cells #[.bool false, .int .i64 a1_1] 42 (0, 0)) from by
     rw [← hW3]
     exact blk_far (blk_drewN BT.out _) (Nat.ne_of_gt NL.out) _)
    have HB3 := Aside0.mk (show Below w0.heap.size w0 W3 from by
     rw [← hW3]
     exact below_set (pw_below_drewN HB.out _) (IsS63.ge HI.out))
    have HK3 := Aside0.mk (show KeepBut w W3 g none from by
     rw [← hW3]
     exact (keep_drewN HK.out _).set_ 3 _)
    clear hcs hct hf3_ hW3 HI BS BT HB HK ; have HI := HI3; have BS := BS3; have BT := BT3; have HB := HB3; have HK := HK3; have hcs := blk_cells5 (w := W3) (g := g) BS.out; have hct := blk_cells2 (w := W3) (g := gt) BT.out
    go_wp2
    (first | go_end0 | ((try simp only [Exit.inBlock, Exit.then]); refine bodyPost_ret (results_none rfl _ _ _) rfl ?_))
    exact ⟨rfl, HI.out, HB.out, HK.out⟩
  | true =>
   rw [if_pos rfl] at h
   by_cases c18 : 18 < s0_0.length
   case neg => rw [if_neg c18] at h; cases h
   rw [if_pos c18] at h; have HC := Aside0.mk c18; replace h := Option.bind_eq_some_iff.mp h; obtain ⟨sl, e1, h⟩ := h; replace h := Option.bind_eq_some_iff.mp h; obtain ⟨sh, e2, h⟩ := h; have E1 := Aside0.mk e1; have E2 := Aside0.mk e2; have H := Aside0.mk h; obtain ⟨ad, ea, _⟩ := Kd.at_int HR0.out.2.2 0 (by decide) (by omega); subst ea; have b18 : (18 < s0_0.length) = True := eq_true c18; have g18 : ((18 : Int) < (s0_0.length : Int)) = True := eq_true (by omega); have d18 : decide (18 < s0_0.length) = true := decide_eq_true c18; have f18 : decide ((18 : Int) < (s0_0.length : Int)) = true := decide_eq_true (by omega); clear e1 e2 h c18; go_enter Try.func13, Try.ntmps13
   go_wp2_with (first | ((with_reducible refine gate_dst (N := 3) rfl ?_); refine box_event ?hg (N := 3) ?hd (cs := #[.bool true, .int .i64 a1_1]) (t := 42) ?hr ?_; (case hd => rfl); (case hg => rfl); (case hr => first | (go_simp; done) | (go_simp; rfl)); intro gt hg w4 hbox hb; have hb_ := hb; have BT := Aside0.mk hbox; have n0_ := Aside0.mk (IsS63.below HI.out hb); have n1_ := Aside0.mk (below_step HB.out hb); have GW := Aside0.mk (show w.heap.size ≤ gt by rw [hg]; exact Nat.le_refl _); have NL := Aside0.mk (show g < gt by rw [hg]; exact HL.out); have n2_ := Aside0.mk (show KeepBut w w4 g none from HK.out.trans (KeepBut.of_below hb g none) (.inl rfl)); clear HI HB HK; have HI := n0_; have HB := n1_; have HK := n2_; clear n0_ n1_ n2_ hb hbox hg; have BS := Aside0.mk (blk_below BS0.out hb_); have HR := Aside0.mk (Kd.C_below HR0.out.2.2 hb_); clear hb_; have hcs := blk_cells5 (w := w4) (g := g) BS.out; have hct := blk_cells2 (w := w4) (g := gt) BT.out))
   have hf3_ : _ := blk_frozen BS.out 3
   go_region_with (first | (go_at_call 23; (with_reducible refine (fix_Sub.calls k s0_3 s0_1 lo _ E0.out).mono ?_); rintro e w' ⟨rfl, ⟨nd, rfl⟩⟩))
   all_goals
    generalize hW3 : World.setCell _ ⟨g, 3, none⟩ _ = W3
    have HI3 := Aside0.mk (show IsS63 w0 W3 g s0_0 s0_1 true lo s0_4 from by
     rw [← hW3]
     exact (IsS63.drewN HI.out _).set_3 lo)
    have BS3 := Aside0.mk (show W3.heap[g]? = some (.cells #[.slice (some ad) s0_0.length cq, .int .i64 s0_1, .bool true, .int .i64 lo, .int .i64 s0_4] 63 (0, 0)) from by
     rw [← hW3]
     exact blk_put (blk_drewN BS.out _) 3 _ rfl)
    have BT3 := Aside0.mk (show W3.heap[gt]? = some (.cells #[.bool true, .int .i64 a1_1] 42 (0, 0)) from by
     rw [← hW3]
     exact blk_far (blk_drewN BT.out _) (Nat.ne_of_gt NL.out) _)
    have HB3 := Aside0.mk (show Below w0.heap.size w0 W3 from by
     rw [← hW3]
     exact below_set (pw_below_drewN HB.out _) (IsS63.ge HI.out))
    have HK3 := Aside0.mk (show KeepBut w W3 g none from by
     rw [← hW3]
     exact (keep_drewN HK.out _).set_ 3 _)
    have HR3 := Aside0.mk (show Kd.C (Kd.int .i64) W3 (some ad) s0_0.length s0_0 from by
     obtain ⟨A2, c2, hb2, _, hr2⟩ := HI3.out; have e2 := hb2.symm.trans BS3.out; have e3 : A2 = some ad := by simp at e2; exact e2.1
     rw [← e3]
     exact (Kd.R_reads' hr2).2.2)
    clear hcs hct hf3_ hW3 HI BS BT HB HK HR; have HI := HI3; have BS := BS3; have BT := BT3; have HB := HB3; have HK := HK3; have hcs := blk_cells5 (w := W3) (g := g) BS.out; have hct := blk_cells2 (w := W3) (g := gt) BT.out; have HR := HR3; have hy18 := power_Battery_Step.at17 18 (by decide) HR.out HC.out
    go_wp2
    clear hcs hct hy18; have egt : W3.heap.size ≠ gt := Nat.ne_of_gt (blk_lt BT.out); have egg : W3.heap.size ≠ g := Nat.ne_of_gt (blk_lt BS.out); have y1 : _ := (blk_cell BT.out 1).trans rfl; have hnew : ∀ m, ((W3.drewN m).alloc (.cells #[.int .i64 0, .int .i64 0] 31)).heap[W3.heap.size]? = some (.cells #[.int .i64 0, .int .i64 0] 31 (0, 0)) := fun m => blk_new (W3.drewN m) _
    have hn0 : ∀ m, ((W3.drewN m).alloc (.cells #[.int .i64 0, .int .i64 0] 31)).cell? ⟨W3.heap.size, 0, none⟩ = some (.int .i64 0) := fun m => (blk_cell (hnew m) 0).trans rfl
    have hn1 : ∀ m, ((W3.drewN m).alloc (.cells #[.int .i64 0, .int .i64 0] 31)).cell? ⟨W3.heap.size, 1, none⟩ = some (.int .i64 0) := fun m => (blk_cell (hnew m) 1).trans rfl
    have hz0 : ∀ m, ((W3.drewN m).alloc (.cells #[.int .i64 0, .int .i64 0] 31)).frozen? ⟨W3.heap.size, 0, none⟩ = false := fun m => blk_frozen (hnew m) 0
    have hz1 : ∀ m, ((W3.drewN m).alloc (.cells #[.int .i64 0, .int .i64 0] 31)).frozen? ⟨W3.heap.size, 1, none⟩ = false := fun m => blk_frozen (hnew m) 1
    have HNEW := Aside0.mk hnew; clear hnew
    go_region_held3 (fun w' => w'.cell? ⟨gt, 1, none⟩ = some (.int .i64 a1_1)) (go_keep)
     (first
      | (go_at_call 23; (with_reducible refine (fix_Sub.calls k a1_1 (rd s0_0 18) sl _ E1.out).mono ?_); rintro e w' ⟨rfl, ⟨nd, rfl⟩⟩)
      | (go_at_call 24; (with_reducible refine (fix_Add.calls k a1_1 (rd s0_0 18) sh _ E2.out).mono ?_); rintro e w' ⟨rfl, ⟨nd, rfl⟩⟩))
    all_goals
     generalize hW : World.setCell (World.setCell _ ⟨W3.heap.size, 0, none⟩ _) ⟨W3.heap.size, 1, none⟩ _ = W5; have hlt : g < W3.heap.size := blk_lt BS.out
     have B5 := Aside0.mk (show W5.heap[W3.heap.size]? = some (.cells #[.int .i64 sl, .int .i64 sh] 31 (0, 0)) from by
      rw [← hW]; refine blk_put (cs := #[.int .i64 sl, .int .i64 0]) ?_ 1 _ rfl; refine blk_put (cs := #[.int .i64 0, .int .i64 0]) ?_ 0 _ rfl
      first | exact HNEW.out _ | (refine blk_drewN ?_ _; first | exact HNEW.out _ | exact blk_new W3 _))
     have BS5 := Aside0.mk (show W5.heap[g]? = some (.cells #[.slice (some ad) s0_0.length cq, .int .i64 s0_1, .bool true, .int .i64 lo, .int .i64 s0_4] 63 (0, 0)) from by
      rw [← hW]; refine blk_far (blk_far ?_ (Nat.ne_of_lt hlt) _) (Nat.ne_of_lt hlt) _
      repeat (first | exact BS.out | refine blk_drewN ?_ _ | refine blk_alloc ?_ _))
     have HI5 := Aside0.mk (show IsS63 w0 W5 g s0_0 s0_1 true lo s0_4 from by
      rw [← hW]; refine IsS63.far (IsS63.far ?_ hlt _) hlt _
      repeat (first | exact HI.out | apply IsS63.drewN | apply IsS63.alloc))
     have HB5 := Aside0.mk (show Below w0.heap.size w0 W5 from by
      rw [← hW]; refine below_set (below_set ?_ HB.out.size) HB.out.size
      repeat (first | exact HB.out | apply pw_below_drewN | apply below_alloc))
     have HK5 := Aside0.mk (show KeepBut w W5 g none from by
      rw [← hW]; refine keep_far (keep_far ?_ (keep_size HK.out) _) (keep_size HK.out) _
      repeat (first | exact HK.out | apply keep_drewN | apply keep_alloc))
     clear hn0 hn1 hz0 hz1 hW y1; obtain ⟨n5, hn5⟩ : ∃ n, W3.heap.size = n := ⟨_, rfl⟩; rw [hn5] at B5 hlt egg egt ⊢; have HN5 := Aside0.mk hn5; clear hn5; have v0 : _ := (blk_cell B5.out 0).trans rfl; have v1 : _ := (blk_cell B5.out 1).trans rfl; have v3 : _ := (blk_cell BS5.out 3).trans rfl; have v4 : _ := (blk_cell BS5.out 4).trans rfl; obtain ⟨MX, hmx⟩ : ∃ m, (if sl < lo then lo else sl) = m := ⟨_, rfl⟩; obtain ⟨MN, hmn⟩ : ∃ m, (if s0_4 < sh then s0_4 else sh) = m := ⟨_, rfl⟩
     go_wp2
     go_region_held3 (fun w' => w'.cell? ⟨n5, 0, none⟩ = some (.int .i64 sl) ∧ w'.cell? ⟨n5, 1, none⟩ = some (.int .i64 sh) ∧ w'.cell? ⟨g, 3, none⟩ = some (.int .i64 lo) ∧ w'.cell? ⟨g, 4, none⟩ = some (.int .i64 s0_4)) (go_keep) (fail)
     all_goals
      have v2 : _ := (blk_cell BS5.out 2).trans rfl; have hf2 : _ := blk_frozen BS5.out 2; have hf3 : _ := blk_frozen BS5.out 3; have hf4 : _ := blk_frozen BS5.out 4; have hfn0 : _ := blk_frozen B5.out 0; have hfn1 : _ := blk_frozen B5.out 1; have HMX := Aside0.mk (show mx sl lo = MX from hmx); have HMN := Aside0.mk (show mn sh s0_4 = MN from hmn); have hgn : g ≠ n5 := Nat.ne_of_lt hlt; have hng : n5 ≠ g := Nat.ne_of_gt hlt; clear hmx hmn; replace H := H.out; rw [HMX.out, HMN.out] at H; have GE5 := Aside0.mk (IsS63.ge HI5.out); have GN5 := Aside0.mk (show w0.heap.size ≤ n5 from Nat.le_trans GE5.out (Nat.le_of_lt hlt))
      by_cases cM : MX ≤ MN
      ·rw [if_pos (by first | exact ⟨rfl, cM⟩ | exact ⟨trivial, cM⟩)] at H
       simp only [Option.some.injEq, Prod.mk.injEq] at H; obtain ⟨rfl, rfl, rfl, rfl⟩ := H; have cMb : decide (MX ≤ MN) = true := decide_eq_true cM
       go_wp2
       (first | go_end0 | ((try simp only [Exit.inBlock, Exit.then]); refine bodyPost_ret (results_none rfl _ _ _) rfl ?_)); have GW5 : w.heap.size ≤ n5 := by rw [← HN5.out]; exact keep_size HK.out
       exact ⟨rfl, (((((HI5.out.far hlt _).far hlt _).set_3 MX).set_4 MN).set_2 true).drew, below_drew1 (below_set (below_set (below_set (below_set (below_set HB5.out GN5.out) GN5.out) GE5.out) GE5.out) GE5.out), keep_drew ((((keep_far (keep_far HK5.out GW5 _) GW5 _).set_ 3 _).set_ 4 _).set_ 2 _)⟩
      ·rw [if_neg (fun h_ => cM h_.2)] at H
       simp only [Option.some.injEq, Prod.mk.injEq] at H; obtain ⟨rfl, rfl, rfl, rfl⟩ := H; have cMb : decide (MX ≤ MN) = false := decide_eq_false cM
       go_wp2
       (first | go_end0 | ((try simp only [Exit.inBlock, Exit.then]); refine bodyPost_ret (results_none rfl _ _ _) rfl ?_))
       exact ⟨rfl, (((HI5.out.set_3 sl).set_4 sh).set_2 true).drew, below_drew1 (below_set (below_set (below_set HB5.out GE5.out) GE5.out) GE5.out), keep_drew (((HK5.out.set_ 3 _).set_ 4 _).set_ 2 _)⟩


/-! ### power_Battery_Left: function 15, by hand -/
def power_Battery_Left.f (s0_0 : List Int) (s0_1 : Int) (s0_2 : Bool) (s0_3 : Int) (s0_4 : Int) : Option (Int × Int × Bool × Int × Bool × Int × Int) := some (s0_3, s0_4, s0_2, s0_1, s0_2, s0_3, s0_4)
set_option maxHeartbeats 8000000 in
set_option maxRecDepth 100000 in
theorem power_Battery_Left.calls (g : Nat) (s0_0 : List Int) (s0_1 : Int) (s0_2 : Bool) (s0_3 : Int) (s0_4 : Int) (r1 r2 : Int) (r3 : Bool) (r4 : Int) (r5 : Bool) (r6 r7 : Int) (w0 w : World) (hI : IsS63 w0 w g s0_0 s0_1 s0_2 s0_3 s0_4) (hB : Below w0.heap.size w0 w) (h : power_Battery_Left.f s0_0 s0_1 s0_2 s0_3 s0_4 = some (r1, r2, r3, r4, r5, r6, r7)) :
  Calls Try.prog 15 #[.pointer (some ⟨g, 0, none⟩)] w fun e w' => e = .returned (.tuple #[.agg #[.int .i64 r1, .int .i64 r2], .bool r3]) ∧ IsS63 w0 w' g s0_0 r4 r5 r6 r7 ∧ Below w0.heap.size w0 w' ∧ KeepBut w w' g none := by
 simp only [power_Battery_Left.f, Option.some.injEq, Prod.mk.injEq] at h; obtain ⟨rfl, rfl, rfl, rfl, rfl, rfl, rfl⟩ := h; have hu31 := Try.underlying31; have hu63 := Try.underlying63; have HK := Aside0.mk (KeepBut.refl w g none); have HB := Aside0.mk hB; have HL := Aside0.mk (IsS63.lt hI); have HI := Aside0.mk hI; clear hI hB; go_enter Try.func15, Try.ntmps15
 go_wp2_with (first | ((with_reducible refine gate_dst (N := 2) rfl ?_); refine box_event ?hg (N := 2) ?hd (cs := #[.int .i64 0, .int .i64 0]) (t := 31) ?hr ?_; (case hd => rfl); (case hg => rfl); (case hr => first | (go_simp; done) | (go_simp; rfl)); intro gm hg w4 hbox hb; have BK := Aside0.mk hbox; have n0_ := Aside0.mk (IsS63.below HI.out hb); have n1_ := Aside0.mk (below_step HB.out hb); have GW := Aside0.mk (show w.heap.size ≤ gm by rw [hg]; exact Nat.le_refl _); have NL := Aside0.mk (show g < gm by rw [hg]; exact HL.out); have n2_ := Aside0.mk (show KeepBut w w4 g none from HK.out.trans (KeepBut.of_below hb g none) (.inl rfl)); clear HI HB HK; have HI := n0_; have HB := n1_; have HK := n2_; clear n0_ n1_ n2_ hb hbox hg; obtain ⟨Aq, cq, hblk, _, hrow⟩ := HI.out; have BS := Aside0.mk hblk; clear hblk hrow; have hcs := blk_cells5 (w := w4) (g := g) BS.out; have hcz := blk_cells2 (w := w4) (g := gm) BK.out; have hfz := blk_frozen BK.out; have hng := Nat.ne_of_lt NL.out; have hnh := Nat.ne_of_gt NL.out))
 have q2 : _ := (blk_cell BS.out 2).trans rfl; have q3 : _ := (blk_cell BS.out 3).trans rfl; have q4 : _ := (blk_cell BS.out 4).trans rfl; clear hcs
 go_region_held3 (fun w' => w'.cell? ⟨g, 2, none⟩ = some (.bool s0_2) ∧ w'.cell? ⟨g, 3, none⟩ = some (.int .i64 s0_3) ∧ w'.cell? ⟨g, 4, none⟩ = some (.int .i64 s0_4)) (go_keep) (fail)
 all_goals go_wp2
 refine bodyPost_ret (results_ct rfl _ _ gm 31 #[.int .i64 s0_3, .int .i64 s0_4] (0, 0) _ rfl (blk_drew (blk_put (blk_put BK.out 0 _ rfl) 1 _ rfl)) Try.underlying31 rfl (by kernel_rfl)) rfl ?_; have GE := Aside0.mk (show w0.heap.size ≤ gm from Nat.le_trans (IsS63.ge HI.out) (Nat.le_of_lt NL.out))
 exact ⟨rfl, ((HI.out.far NL.out _).far NL.out _).drew, below_drew1 (below_set (below_set HB.out GE.out) GE.out), keep_drew (keep_far (keep_far HK.out GW.out _) GW.out _)⟩


/-! ### fix_Clamp: function 27 -/
def fix_Clamp.f (a0 : Int) (a1 : Int) (a2 : Int) : Option (Int) := if a0 < a1 then (some a1) else (if a0 > a2 then (some a2) else (some a0))
set_option maxHeartbeats 8000000 in
set_option maxRecDepth 100000 in
theorem fix_Clamp.calls (a0 : Int) (a1 : Int) (a2 : Int) (r : Int) (w : World) (h : fix_Clamp.f a0 a1 a2 = some r) :
  Calls Try.prog 27 #[.int .i64 a0, .int .i64 a1, .int .i64 a2] w fun e w' => e = .returned (.int .i64 r) ∧ Drawn0 w w' := by
 have H : (if a0 < a1 then (some a1) else (if a0 > a2 then (some a2) else (some a0))) = some r := h; clear h
 by_cases c4 : a0 < a1
 ·rw [if_pos c4] at H
  have c4b0 : decide (a0 < a1) = true := decide_eq_true c4; clear c4; obtain rfl := Option.some.inj H; go_enter Try.func27, Try.ntmps27
  go_wp2
  go_ret
  exact ⟨by first | rfl | (simp; done) | (simp [*]; done), by repeat (first | exact Drawn0.refl _ | apply Drawn0.step)⟩
 ·rw [if_neg c4] at H
  have c4b0 : decide (a0 < a1) = false := decide_eq_false c4; clear c4
  by_cases c5 : a0 > a2
  ·rw [if_pos c5] at H
   have c5b0 : decide (a2 < a0) = true := decide_eq_true c5; clear c5; obtain rfl := Option.some.inj H; go_enter Try.func27, Try.ntmps27
   go_wp2
   go_ret
   exact ⟨by first | rfl | (simp; done) | (simp [*]; done), by repeat (first | exact Drawn0.refl _ | apply Drawn0.step)⟩
  ·rw [if_neg c5] at H
   have c5b0 : decide (a2 < a0) = false := decide_eq_false c5; clear c5; obtain rfl := Option.some.inj H; go_enter Try.func27, Try.ntmps27
   go_wp2
   go_ret
   exact ⟨by first | rfl | (simp; done) | (simp [*]; done), by repeat (first | exact Drawn0.refl _ | apply Drawn0.step)⟩

/-! ### params_outside: function 42 -/
def params_outside.f (a0 : Int) : Option (Bool) := if a0 < 0 then (some true) else (some (decide (a0 > 536870912)))
set_option maxHeartbeats 8000000 in
set_option maxRecDepth 100000 in
theorem params_outside.calls (a0 : Int) (r : Bool) (w : World) (h : params_outside.f a0 = some r) :
  Calls Try.prog 42 #[.int .i64 a0] w fun e w' => e = .returned (.bool r) ∧ Drawn0 w w' := by
 have H : (if a0 < 0 then (some true) else (some (decide (a0 > 536870912)))) = some r := h; clear h
 by_cases c2 : a0 < 0
 ·rw [if_pos c2] at H
  have c2b0 : decide (a0 < 0) = true := decide_eq_true c2; clear c2; obtain rfl := Option.some.inj H; go_enter Try.func42, Try.ntmps42
  go_wp2
  go_ret
  exact ⟨by first | rfl | (simp; done) | (simp [*]; done), by repeat (first | exact Drawn0.refl _ | apply Drawn0.step)⟩
 ·rw [if_neg c2] at H
  have c2b0 : decide (a0 < 0) = false := decide_eq_false c2; clear c2; obtain rfl := Option.some.inj H; go_enter Try.func42, Try.ntmps42
  go_wp2
  go_ret
  exact ⟨by first | rfl | (simp; done) | (simp [*]; done), by repeat (first | exact Drawn0.refl _ | apply Drawn0.step)⟩

/-! ### params_LandTicks: function 28 -/
def params_LandTicks.f (k : Nat) (l0 : List Int) (a1 : Int) : Option (Int × Int) := (params_Margins.f k l0).bind fun bt280 => (if bt280.2.2.2.2.2.2 = 0 then ((params_outside.f a1).bind fun t288 => (if t288 = true then (some (0, 1)) else ((params_way.f bt280.2.2.2.1 bt280.1).bind fun t289 => (if bt280.1 = 0 then (none) else (if 9 < (l0.length : Int) then ((params_up.f (wrap64 ((wrap64 ((wrap64 (a1 * 6400)) + t289)) + (wrap64 (16 * bt280.2.2.2.1)))) (wrap64 ((rd l0 9) - bt280.2.1))).bind fun t292 => (some (wrap64 ((wrap64 ((wrap64 ((wrap64 ((wrap64 (Int.tdiv bt280.2.2.2.1 bt280.1)) + (wrap64 (Int.tdiv (rd l0 9) 32)))) + t292)) + 40)) + 64), 0))) else (none)))))) else (some (0, bt280.2.2.2.2.2.2)))
theorem params_LandTicks.mono : ∀ a0 a1 k, LeO (params_LandTicks.f k a0 a1) (params_LandTicks.f (k + 1) a0 a1) := by
 intro a0 a1 k; unfold params_LandTicks.f
 repeat' first
   | (with_reducible exact params_Margins.mono _ _)
   | (with_reducible exact LeO.refl _)
   | (with_reducible exact LeO.none _)
   | (with_reducible refine LeO.ite ?_ ?_)
   | (with_reducible refine LeO.bind ?_ (fun _ => ?_))
   | exact params_Margins.mono _ _
   | exact LeO.none _
   | refine LeO.ite ?_ ?_
   | refine LeO.bind ?_ (fun _ => ?_)
def params_LandTicks.T6 : Bool × List (List Nat × List Nat) := (true, [([], []), ([0], [0]), ([], []), ([2], [2]), ([], []), ([4], [4]), ([3, 5], [3, 5]), ([1, 6], [1, 6]), ([], []), ([8], [8]), ([9], [9]), ([7, 10], [7, 10]), ([11, 6, 0, 1, 2, 3, 4, 5, 6, 7, 8, 9, 10, 11], [11])])
def params_LandTicks.B6 : List Nat := [0, 1, 0, 4, 0, 16, 60, 127, 0, 256, 768, 2047, 4095]
theorem params_LandTicks.tab6 : rtab .any (opsOf Try.f28 6) = params_LandTicks.T6 := by kernel_rfl
theorem params_LandTicks.bits6 : waitsOk params_LandTicks.T6.2 params_LandTicks.B6 = true := by kernel_rfl
def params_LandTicks.T7 : Bool × List (List Nat × List Nat) := (true, [([], []), ([0], [0]), ([], []), ([2], [2]), ([1, 3], [1, 3]), ([], []), ([5], [5]), ([6], [6]), ([7], [7]), ([4, 8], [4, 8]), ([], []), ([], []), ([11], [11]), ([12], [12]), ([], []), ([14], [14]), ([13, 15], [13, 15]), ([10, 16], [10, 16]), ([9, 17], [9, 17]), ([18], [18]), ([19], [19]), ([20, 17, 0, 1, 2, 3, 4, 5, 6, 7, 8, 9, 10, 11, 12, 13, 14, 15, 16, 17, 18, 19, 20], [20]), ([21, 0, 1, 2, 3, 4, 5, 6, 7, 8, 9, 10, 11, 12, 13, 14, 15, 16, 17, 18, 19, 20, 21], [])])
def params_LandTicks.B7 : List Nat := [0, 1, 0, 4, 15, 0, 32, 96, 224, 511, 0, 0, 2048, 6144, 0, 16384, 63488, 130048, 262143, 524287, 1048575, 2097151, 4194303]
theorem params_LandTicks.tab7 : rtab .any (opsOf Try.f28 7) = params_LandTicks.T7 := by kernel_rfl
theorem params_LandTicks.bits7 : waitsOk params_LandTicks.T7.2 params_LandTicks.B7 = true := by kernel_rfl
set_option maxHeartbeats 8000000 in
set_option maxRecDepth 100000 in
theorem params_LandTicks.calls (k : Nat) (A0 : Option Addr) (c0 : Nat) (l0 : List Int) (a1 : Int) (r1 : Int) (r2 : Int) (w : World) (hr0 : Kd.C (Kd.int .i64) w A0 l0.length l0) (hc0 : l0.length ≤ c0) (h : params_LandTicks.f k l0 a1 = some (r1, r2)) :
  Calls Try.prog 28 #[.slice A0 l0.length c0, .int .i64 a1] w fun e w' => e = .returned (.tuple #[.int .i64 r1, .int .i64 r2]) ∧ Below w.heap.size w w' := by
 have hu54 := Try.underlying54; have HR0 := Aside0.mk hr0; have HC0 := Aside0.mk hc0; clear hr0 hc0; have HB := Aside0.mk (Below.refl w.heap.size w); have H : ((params_Margins.f k l0).bind fun bt280 => (if bt280.2.2.2.2.2.2 = 0 then ((params_outside.f a1).bind fun t288 => (if t288 = true then (some (0, 1)) else ((params_way.f bt280.2.2.2.1 bt280.1).bind fun t289 => (if bt280.1 = 0 then (none) else (if 9 < (l0.length : Int) then ((params_up.f (wrap64 ((wrap64 ((wrap64 (a1 * 6400)) + t289)) + (wrap64 (16 * bt280.2.2.2.1)))) (wrap64 ((rd l0 9) - bt280.2.1))).bind fun t292 => (some (wrap64 ((wrap64 ((wrap64 ((wrap64 ((wrap64 (Int.tdiv bt280.2.2.2.1 bt280.1)) + (wrap64 (Int.tdiv (rd l0 9) 32)))) + t292)) + 40)) + 64), 0))) else (none)))))) else (some (0, bt280.2.2.2.2.2.2)))) = some (r1, r2) := h; clear h; replace H := Option.bind_eq_some_iff.mp H; obtain ⟨⟨t280, t281, t282, t283, t284, t285, t286⟩, A30, H⟩ := H; replace H : (if t286 = 0 then ((params_outside.f a1).bind fun t288 => (if t288 = true then (some (0, 1)) else ((params_way.f t283 t280).bind fun t289 => (if t280 = 0 then (none) else (if 9 < (l0.length : Int) then ((params_up.f (wrap64 ((wrap64 ((wrap64 (a1 * 6400)) + t289)) + (wrap64 (16 * t283)))) (wrap64 ((rd l0 9) - t281))).bind fun t292 => (some (wrap64 ((wrap64 ((wrap64 ((wrap64 ((wrap64 (Int.tdiv t283 t280)) + (wrap64 (Int.tdiv (rd l0 9) 32)))) + t292)) + 40)) + 64), 0))) else (none)))))) else (some (0, t286))) = some (r1, r2) := H; have A3 := Aside0.mk A30; clear A30
 by_cases c4 : t286 = 0
 ·rw [if_pos c4] at H
  have c4b0 : (t286 == 0) = true := beq_iff_eq.mpr c4; have c4b1 : (t286 != 0) = false := bne_eq_false_iff_eq.mpr c4; clear c4; replace H := Option.bind_eq_some_iff.mp H; obtain ⟨t288, A50, H⟩ := H; replace H : (if t288 = true then (some (0, 1)) else ((params_way.f t283 t280).bind fun t289 => (if t280 = 0 then (none) else (if 9 < (l0.length : Int) then ((params_up.f (wrap64 ((wrap64 ((wrap64 (a1 * 6400)) + t289)) + (wrap64 (16 * t283)))) (wrap64 ((rd l0 9) - t281))).bind fun t292 => (some (wrap64 ((wrap64 ((wrap64 ((wrap64 ((wrap64 (Int.tdiv t283 t280)) + (wrap64 (Int.tdiv (rd l0 9) 32)))) + t292)) + 40)) + 64), 0))) else (none))))) = some (r1, r2) := H; have A5 := Aside0.mk A50; clear A50
  by_cases c6 : t288 = true
  ·subst c6
   have H1 : (some (0, 1)) = some (r1, r2) := by rw [if_pos rfl] at H; exact H
   clear H; have H := H1; clear H1; simp only [Option.some.injEq, Prod.mk.injEq] at H; obtain ⟨rfl, rfl⟩ := H; go_enter Try.func28, Try.ntmps28
   go_wp2_with (first | ((with_reducible refine gate_callee (f := 18) rfl ?_); refine goesL_ (some 11) rfl rfl Try.func18 (by kernel_rfl) rfl #[.slice A0 l0.length c0] rfl (by (try simp only [List.map_toArray, List.map_cons, List.map_nil]); first | done | rfl | (simp only [List.length_drop, List.length_take]; rfl)) ?_; (with_reducible refine (params_Margins.calls k _ _ l0 t280 t281 t282 t283 t284 t285 t286 _ ?side1 ?side2 A3.out).mono ?_); (case side1 => repeat (first | exact HR0.out | (with_reducible refine Kd.C_alloc ?_ _) | (with_reducible refine Kd.C_drewN ?_ _) | (with_reducible refine Kd.C_drew ?_))); (case side2 => exact HC0.out); rintro e w7 ⟨rfl, hb⟩; refine ⟨_, rfl, ?_⟩; have n0_ := Aside0.mk (below_step (by repeat (first | (with_reducible first | exact HB.out | apply below_alloc | apply pw_below_drewN | apply below_drew1) | exact HB.out)) hb); clear HB; have HB := n0_; clear n0_; (try clear hb); (try clear hb2); (try clear hk); (try clear hi)) | ((with_reducible refine gate_dst (N := 6) rfl ?_); refine box_event ?hg (N := 6) ?hd (cs := #[.int .i64 0, .int .i64 0, .int .i64 0, .int .i64 0, .int .i64 0, .int .i64 0]) (t := 54) ?hr ?_; (case hd => rfl); (case hg => rfl); (case hr => first | (go_simp; done) | (go_simp; rfl)); intro gb287 hg w8 hbox hb; have n0_ := Aside0.mk (below_step (by repeat (first | (with_reducible first | exact HB.out | apply below_alloc | apply pw_below_drewN | apply below_drew1) | exact HB.out)) hb); have n1_ := Aside0.mk (hbox); have n2_ := Aside0.mk ((by rw [hg]; exact (below_size (by repeat (first | (with_reducible first | exact HB.out | apply below_alloc | apply pw_below_drewN | apply below_drew1) | exact HB.out))) : w.heap.size ≤ gb287)); have n3_ := Aside0.mk ((by rw [hg]; exact (below_size (by repeat (first | (with_reducible first | exact HB.out | apply below_alloc | apply pw_below_drewN | apply below_drew1) | exact HB.out))) : w.heap.size ≤ gb287)); clear HB; have HB := n0_; have BK287 := n1_; have GW287 := n2_; have GE287 := n3_; clear n0_ n1_ n2_ n3_; clear hb hbox hg; have hcz9_0 := blk_cells6 (w := w8) (g := gb287) BK287.out; have hfz9_0 := blk_frozen BK287.out) | ((with_reducible refine gate_callee (f := 42) rfl ?_); refine goesL_ (some 18) rfl rfl Try.func42 (by kernel_rfl) rfl #[.int .i64 a1] rfl (by (try simp only [List.map_toArray, List.map_cons, List.map_nil]); first | done | rfl | (simp only [List.length_drop, List.length_take]; rfl)) ?_; (with_reducible refine (params_outside.calls a1 true _ A5.out).mono ?_); rintro e w' ⟨rfl, ⟨nd, rfl⟩⟩; refine ⟨_, rfl, ?_⟩))
   go_ret2
   exact ⟨by first | rfl | (simp [errW_none, errW_some] <;> rfl) | (simp [*, errW_none, errW_some] <;> rfl), by repeat (first | (with_reducible first | exact HB.out | apply below_alloc | apply pw_below_drewN | apply below_drew1 | refine below_set ?_ GE287.out) | exact HB.out)⟩
  ·replace c6 := Bool.eq_false_iff.mpr c6
   subst c6; have H1 : ((params_way.f t283 t280).bind fun t289 => (if t280 = 0 then (none) else (if 9 < (l0.length : Int) then ((params_up.f (wrap64 ((wrap64 ((wrap64 (a1 * 6400)) + t289)) + (wrap64 (16 * t283)))) (wrap64 ((rd l0 9) - t281))).bind fun t292 => (some (wrap64 ((wrap64 ((wrap64 ((wrap64 ((wrap64 (Int.tdiv t283 t280)) + (wrap64 (Int.tdiv (rd l0 9) 32)))) + t292)) + 40)) + 64), 0))) else (none)))) = some (r1, r2) := by rw [if_neg (show ¬ (false = true) by decide)] at H; exact H
   clear H; have H := H1; clear H1; replace H := Option.bind_eq_some_iff.mp H; obtain ⟨t289, A100, H⟩ := H; replace H : (if t280 = 0 then (none) else (if 9 < (l0.length : Int) then ((params_up.f (wrap64 ((wrap64 ((wrap64 (a1 * 6400)) + t289)) + (wrap64 (16 * t283)))) (wrap64 ((rd l0 9) - t281))).bind fun t292 => (some (wrap64 ((wrap64 ((wrap64 ((wrap64 ((wrap64 (Int.tdiv t283 t280)) + (wrap64 (Int.tdiv (rd l0 9) 32)))) + t292)) + 40)) + 64), 0))) else (none))) = some (r1, r2) := H; have A10 := Aside0.mk A100; clear A100
   by_cases c11 : t280 = 0
   ·rw [if_pos c11] at H
    exact absurd H (by simp)
   ·rw [if_neg c11] at H
    have c11b0 : (t280 == 0) = false := beq_eq_false_iff_ne.mpr c11; have c11b1 : (t280 != 0) = true := bne_iff_ne.mpr c11
    by_cases c12 : 9 < (l0.length : Int)
    ·rw [if_pos c12] at H
     have c12b0 : decide (9 < (l0.length : Int)) = true := decide_eq_true c12; have c12b1 : decide (9 < l0.length) = true := decide_eq_true (by omega); clear c12; replace H := Option.bind_eq_some_iff.mp H; obtain ⟨t292, A130, H⟩ := H; replace H : (some (wrap64 ((wrap64 ((wrap64 ((wrap64 ((wrap64 (Int.tdiv t283 t280)) + (wrap64 (Int.tdiv (rd l0 9) 32)))) + t292)) + 40)) + 64), 0)) = some (r1, r2) := H; have A13 := Aside0.mk A130; clear A130; simp only [Option.some.injEq, Prod.mk.injEq] at H; obtain ⟨rfl, rfl⟩ := H; go_enter Try.func28, Try.ntmps28
     try go_wp2_with (first | ((with_reducible refine gate_callee (f := 18) rfl ?_); refine goesL_ (some 11) rfl rfl Try.func18 (by kernel_rfl) rfl #[.slice A0 l0.length c0] rfl (by (try simp only [List.map_toArray, List.map_cons, List.map_nil]); first | done | rfl | (simp only [List.length_drop, List.length_take]; rfl)) ?_; (with_reducible refine (params_Margins.calls k _ _ l0 t280 t281 t282 t283 t284 t285 t286 _ ?side1 ?side2 A3.out).mono ?_); (case side1 => repeat (first | exact HR0.out | (with_reducible refine Kd.C_alloc ?_ _) | (with_reducible refine Kd.C_drewN ?_ _) | (with_reducible refine Kd.C_drew ?_))); (case side2 => exact HC0.out); rintro e w14 ⟨rfl, hb⟩; refine ⟨_, rfl, ?_⟩; have n0_ := Aside0.mk (below_step (by repeat (first | (with_reducible first | exact HB.out | apply below_alloc | apply pw_below_drewN | apply below_drew1) | exact HB.out)) hb); clear HB; have HB := n0_; clear n0_; (try clear hb); (try clear hb2); (try clear hk); (try clear hi)) | ((with_reducible refine gate_dst (N := 6) rfl ?_); refine box_event ?hg (N := 6) ?hd (cs := #[.int .i64 0, .int .i64 0, .int .i64 0, .int .i64 0, .int .i64 0, .int .i64 0]) (t := 54) ?hr ?_; (case hd => rfl); (case hg => rfl); (case hr => first | (go_simp; done) | (go_simp; rfl)); intro gb287 hg w15 hbox hb; have n0_ := Aside0.mk (below_step (by repeat (first | (with_reducible first | exact HB.out | apply below_alloc | apply pw_below_drewN | apply below_drew1) | exact HB.out)) hb); have n1_ := Aside0.mk (hbox); have n2_ := Aside0.mk ((by rw [hg]; exact (below_size (by repeat (first | (with_reducible first | exact HB.out | apply below_alloc | apply pw_below_drewN | apply below_drew1) | exact HB.out))) : w.heap.size ≤ gb287)); have n3_ := Aside0.mk ((by rw [hg]; exact (below_size (by repeat (first | (with_reducible first | exact HB.out | apply below_alloc | apply pw_below_drewN | apply below_drew1) | exact HB.out))) : w.heap.size ≤ gb287)); clear HB; have HB := n0_; have BK287 := n1_; have GW287 := n2_; have GE287 := n3_; clear n0_ n1_ n2_ n3_; clear hb hbox hg; have hcz16_0 := blk_cells6 (w := w15) (g := gb287) BK287.out; have hfz16_0 := blk_frozen BK287.out) | ((with_reducible refine gate_callee (f := 42) rfl ?_); refine goesL_ (some 18) rfl rfl Try.func42 (by kernel_rfl) rfl #[.int .i64 a1] rfl (by (try simp only [List.map_toArray, List.map_cons, List.map_nil]); first | done | rfl | (simp only [List.length_drop, List.length_take]; rfl)) ?_; (with_reducible refine (params_outside.calls a1 false _ A5.out).mono ?_); rintro e w' ⟨rfl, ⟨nd, rfl⟩⟩; refine ⟨_, rfl, ?_⟩))
     (repeat (rw [drewN_self w15]; generalize hq_ : World.drewN w15 _ = w15; have n0_ := Aside0.mk (blk_at hq_ BK287.out); have n1_ := Aside0.mk (below_at hq_ HB.out); clear hq_ BK287 HB; have BK287 := n0_; have HB := n1_; clear n0_ n1_))
     obtain ⟨w17, hW_⟩ : ∃ W_, W_ = ((((((w15.setCell ⟨gb287, 0, none⟩ (.int .i64 t280)).setCell ⟨gb287, 1, none⟩ (.int .i64 t281)).setCell ⟨gb287, 2, none⟩ (.int .i64 t282)).setCell ⟨gb287, 3, none⟩ (.int .i64 t283)).setCell ⟨gb287, 4, none⟩ (.int .i64 t284)).setCell ⟨gb287, 5, none⟩ (.int .i64 t285)) := ⟨_, rfl⟩; have n0_ : Aside0 (w17.heap[gb287]? = some (.cells #[.int .i64 t280, .int .i64 t281, .int .i64 t282, .int .i64 t283, .int .i64 t284, .int .i64 t285] 54 (0, 0))) := ⟨by rw [hW_]; refine blk_put (cs := #[.int .i64 t280, .int .i64 t281, .int .i64 t282, .int .i64 t283, .int .i64 t284, .int .i64 0]) ?_ 5 _ rfl; refine blk_put (cs := #[.int .i64 t280, .int .i64 t281, .int .i64 t282, .int .i64 t283, .int .i64 0, .int .i64 0]) ?_ 4 _ rfl; refine blk_put (cs := #[.int .i64 t280, .int .i64 t281, .int .i64 t282, .int .i64 0, .int .i64 0, .int .i64 0]) ?_ 3 _ rfl; refine blk_put (cs := #[.int .i64 t280, .int .i64 t281, .int .i64 0, .int .i64 0, .int .i64 0, .int .i64 0]) ?_ 2 _ rfl; refine blk_put (cs := #[.int .i64 t280, .int .i64 0, .int .i64 0, .int .i64 0, .int .i64 0, .int .i64 0]) ?_ 1 _ rfl; refine blk_put (cs := #[.int .i64 0, .int .i64 0, .int .i64 0, .int .i64 0, .int .i64 0, .int .i64 0]) ?_ 0 _ rfl; exact BK287.out⟩; have n1_ : Aside0 (Below w.heap.size w w17) := ⟨by rw [hW_]; repeat (first | (with_reducible first | exact HB.out | apply below_alloc | apply pw_below_drewN | apply below_drew1 | refine below_set ?_ GE287.out) | exact HB.out)⟩; (try clear BK287); (try clear HB); rw [← hW_]; clear hW_; have BK287 := n0_; have HB := n1_; clear n0_ n1_
     (repeat (rw [drewN_self w17]; generalize hq_ : World.drewN w17 _ = w17; have n0_ : Aside0 (w17.heap[gb287]? = some (.cells #[.int .i64 t280, .int .i64 t281, .int .i64 t282, .int .i64 t283, .int .i64 t284, .int .i64 t285] 54 (0, 0))) := ⟨by rw [← hq_]; exact (by (with_reducible repeat (first | refine blk_drewN ?_ _ | refine blk_drew ?_ | refine blk_alloc ?_ _)); exact BK287.out)⟩; have n1_ : Aside0 (Below w.heap.size w w17) := ⟨by rw [← hq_]; exact (by repeat (first | (with_reducible first | exact HB.out | apply below_alloc | apply pw_below_drewN | apply below_drew1 | refine below_set ?_ GE287.out) | exact HB.out))⟩; clear BK287 HB hq_; have BK287 := n0_; have HB := n1_; clear n0_ n1_))
     have n0_ := Aside0.mk (blk_drew BK287.out); have n1_ := Aside0.mk (below_drew1 HB.out); clear BK287; clear HB; have BK287 := n0_; have HB := n1_; clear n0_ n1_; refine start_ (n := 13) (S := fun w' => w'.cell? ⟨gb287, 0, none⟩ = some (.int .i64 t280) ∧ w'.cell? ⟨gb287, 1, none⟩ = some (.int .i64 t281) ∧ w'.cell? ⟨gb287, 2, none⟩ = some (.int .i64 t282) ∧ w'.cell? ⟨gb287, 3, none⟩ = some (.int .i64 t283) ∧ w'.cell? ⟨gb287, 4, none⟩ = some (.int .i64 t284) ∧ w'.cell? ⟨gb287, 5, none⟩ = some (.int .i64 t285)) (ds := []) (lb_ 13 0) (by kernel_rfl) rfl rfl ⟨(blk_cell BK287.out 0).trans rfl, (blk_cell BK287.out 1).trans rfl, (blk_cell BK287.out 2).trans rfl, (blk_cell BK287.out 3).trans rfl, (blk_cell BK287.out 4).trans rfl, (blk_cell BK287.out 5).trans rfl⟩ (fun hHeld => ?_); refine with_tabW params_LandTicks.tab6 params_LandTicks.bits6 (fun HT_ HW_ => ?_); generalize w17.drew = w18 at BK287 HB hHeld ⊢; refine pz_ HT_ 0 19 ?_ (lb_ 13 1) ?_ ?_ ?_ ?_; rotate_left; (intro w'; go_simp; with_reducible rfl); rotate_left; (simp only [sqs_]; rfl); refine pz_ HT_ 1 20 ?_ (lb_ 13 3) ?_ ?_ ?_ ?_; rotate_left; (intro w'; go_simp; with_reducible rfl); rotate_left; (simp only [sqs_]; rfl); refine pz_ HT_ 2 21 ?_ (lb_ 13 7) ?_ ?_ ?_ ?_; rotate_left; (intro w'; go_simp; with_reducible rfl); rotate_left; (simp only [sqs_]; rfl); refine pz_ HT_ 4 23 ?_ (lb_ 13 23) ?_ ?_ ?_ ?_; rotate_left; (intro w'; go_simp; with_reducible rfl); rotate_left; (simp only [sqs_]; rfl); refine pz_ HT_ 8 27 ?_ (lb_ 13 279) ?_ ?_ ?_ ?_; rotate_left; (intro w'; go_simp; with_reducible rfl); rotate_left; (simp only [sqs_]; rfl); refine tz_ HT_ HW_ 3 22 ?_ (lb_ 13 287) ?_ hHeld ?_ ?_ ?_; rotate_left; (rintro w' ⟨s0, s1, s2, s3, s4, s5⟩; go_simp; with_reducible rfl); rotate_left; (simp only [sqs_]; rfl); refine tz_ HT_ HW_ 5 24 ?_ (lb_ 13 319) ?_ hHeld ?_ ?_ ?_; rotate_left; (rintro w' ⟨s0, s1, s2, s3, s4, s5⟩; go_simp; with_reducible rfl); rotate_left; (simp only [sqs_]; rfl); refine tz_ HT_ HW_ 9 28 ?_ (lb_ 13 831) ?_ hHeld ?_ ?_ ?_; rotate_left; (rintro w' ⟨s0, s1, s2, s3, s4, s5⟩; go_simp; with_reducible rfl); rotate_left; (simp only [sqs_]; rfl); refine pz_ HT_ 10 29 ?_ (lb_ 13 1855) ?_ ?_ ?_ ?_; rotate_left; (intro w'; go_simp; with_reducible rfl); rotate_left; (simp only [sqs_]; rfl); refine one_ (i := 6) (N := some 25) (lb_ 13 1919) rfl rfl (one_of HT_.out (by kernel_rfl)) (by decide) (fun K hK => ?_); refine goes_ Try.func33 (by kernel_rfl) rfl #[.int .i64 t283, .int .i64 t280] (by rfl) rfl rfl (by (try simp only [List.map_toArray, List.map_cons, List.map_nil]); first | done | rfl | (simp only [List.length_drop, List.length_take]; rfl)) ?_
     with_reducible refine (params_way.calls t283 t280 t289 _ A10.out).mono ?_
     rintro e w' ⟨rfl, ⟨nd, rfl⟩⟩; refine ⟨_, rfl, ?_⟩; refine hK.out _ _ ⟨(blk_cell BK287.out 0).trans rfl, (blk_cell BK287.out 1).trans rfl, (blk_cell BK287.out 2).trans rfl, (blk_cell BK287.out 3).trans rfl, (blk_cell BK287.out 4).trans rfl, (blk_cell BK287.out 5).trans rfl⟩ (fun hHeld => ?_); clear hK K; refine norm_ (a' := ?_) ?_ ?_; rotate_left
     ·show Act.put _ (some 25) _ = _
      simp only [Act.put, List.setIfInBounds_toArray, List.set_cons_zero, List.set_cons_succ, i64_w, i32_w]
      rfl
     refine pz_ HT_ 7 26 ?_ (lb_ 13 2047) ?_ ?_ ?_ ?_; rotate_left; (intro w'; go_simp; with_reducible rfl); rotate_left; (simp only [sqs_]; rfl); refine pz_ HT_ 11 30 ?_ (lb_ 13 4095) ?_ ?_ ?_ ?_; rotate_left; (intro w'; go_simp; with_reducible rfl); rotate_left; (simp only [sqs_]; rfl); refine pz_ HT_ 12 8 ?_ (lb_ 13 8191) ?_ ?_ ?_ ?_; rotate_left; (intro w'; go_simp; with_reducible rfl); rotate_left; (simp only [sqs_]; rfl); refine done_ (done_of HT_.out (by kernel_rfl)) ?_
     try go_wp2
     (repeat (rw [drewN_self w18]; generalize hq_ : World.drewN w18 _ = w18; have n0_ : Aside0 (w18.heap[gb287]? = some (.cells #[.int .i64 t280, .int .i64 t281, .int .i64 t282, .int .i64 t283, .int .i64 t284, .int .i64 t285] 54 (0, 0))) := ⟨by rw [← hq_]; exact (by (with_reducible repeat (first | refine blk_drewN ?_ _ | refine blk_drew ?_ | refine blk_alloc ?_ _)); exact BK287.out)⟩; have n1_ : Aside0 (Below w.heap.size w w18) := ⟨by rw [← hq_]; exact (by repeat (first | (with_reducible first | exact HB.out | apply below_alloc | apply pw_below_drewN | apply below_drew1 | refine below_set ?_ GE287.out) | exact HB.out))⟩; clear BK287 HB hq_; have BK287 := n0_; have HB := n1_; clear n0_ n1_))
     have n0_ := Aside0.mk (blk_drew BK287.out); have n1_ := Aside0.mk (below_drew1 HB.out); clear BK287; clear HB; have BK287 := n0_; have HB := n1_; clear n0_ n1_; have p290 : 0 ≤ (9 : Int) := (by omega); have q290 : 9 < (l0.length : Int) := of_decide_eq_true (by with_reducible assumption); obtain ⟨ad290, e290, hx290_0⟩ := Kd.at_int HR0.out 9 p290 q290; have hw290_0 := hx290_0; (try rw [show 9 * 1 = 9 from rfl] at hw290_0); (try simp only [Nat.reduceMul, Nat.reduceEqDiff, Go.Addr.add, ↓reduceIte] at hw290_0); cases e290; (try simp only [show (9 : Int).toNat = 9 from rfl, Nat.reduceMul, Nat.reduceEqDiff, Go.Addr.add, ↓reduceIte] at hx290_0); have qi290 : (9 < l0.length) = True := eq_true (by omega); replace hx290_0 := (HB.out.cell (World.block_lt_of_cell? w _ hx290_0)).trans hx290_0; replace p290 := eq_true p290; replace q290 := eq_true q290; have p291 : 0 ≤ (9 : Int) := (by omega); have q291 : 9 < (l0.length : Int) := of_decide_eq_true (by with_reducible assumption); obtain ⟨ad291, e291, hx291_0⟩ := Kd.at_int HR0.out 9 p291 q291; have hw291_0 := hx291_0; (try rw [show 9 * 1 = 9 from rfl] at hw291_0); (try simp only [Nat.reduceMul, Nat.reduceEqDiff, Go.Addr.add, ↓reduceIte] at hw291_0)
     obtain rfl : ad290 = ad291 := (by injection e291)
     (try simp only [show (9 : Int).toNat = 9 from rfl, Nat.reduceMul, Nat.reduceEqDiff, Go.Addr.add, ↓reduceIte] at hx291_0); have qi291 : (9 < l0.length) = True := eq_true (by omega); replace hx291_0 := (HB.out.cell (World.block_lt_of_cell? w _ hx291_0)).trans hx291_0; replace p291 := eq_true p291; replace q291 := eq_true q291; refine start_ (n := 23) (S := fun w' => w'.cell? ⟨gb287, 0, none⟩ = some (.int .i64 t280) ∧ w'.cell? ⟨gb287, 1, none⟩ = some (.int .i64 t281) ∧ w'.cell? ⟨gb287, 2, none⟩ = some (.int .i64 t282) ∧ w'.cell? ⟨gb287, 3, none⟩ = some (.int .i64 t283) ∧ w'.cell? ⟨gb287, 4, none⟩ = some (.int .i64 t284) ∧ w'.cell? ⟨gb287, 5, none⟩ = some (.int .i64 t285) ∧ w'.cell? ⟨ad290.block, ad290.off + 9, none⟩ = some (.int .i64 (rd l0 9)) ∧ w'.cell? ⟨ad290.block, ad290.off + 9, none⟩ = some (.int .i64 (rd l0 9))) (ds := []) (lb_ 23 0) (by kernel_rfl) rfl rfl ⟨(blk_cell BK287.out 0).trans rfl, (blk_cell BK287.out 1).trans rfl, (blk_cell BK287.out 2).trans rfl, (blk_cell BK287.out 3).trans rfl, (blk_cell BK287.out 4).trans rfl, (blk_cell BK287.out 5).trans rfl, ((HB.out.cell (World.block_lt_of_cell? w _ hw290_0)).trans hw290_0), ((HB.out.cell (World.block_lt_of_cell? w _ hw291_0)).trans hw291_0)⟩ (fun hHeld => ?_); refine with_tabW params_LandTicks.tab7 params_LandTicks.bits7 (fun HT_ HW_ => ?_); generalize w18.drew = w19 at BK287 HB hx290_0 hx291_0 hHeld ⊢; refine pz_ HT_ 0 31 ?_ (lb_ 23 1) ?_ ?_ ?_ ?_; rotate_left; (intro w'; go_simp; with_reducible rfl); rotate_left; (simp only [sqs_]; rfl); refine pz_ HT_ 2 33 ?_ (lb_ 23 5) ?_ ?_ ?_ ?_; rotate_left; (intro w'; go_simp; with_reducible rfl); rotate_left; (simp only [sqs_]; rfl); refine pz_ HT_ 5 36 ?_ (lb_ 23 37) ?_ ?_ ?_ ?_; rotate_left; (intro w'; go_simp; with_reducible rfl); rotate_left; (simp only [sqs_]; rfl); refine pz_ HT_ 6 37 ?_ (lb_ 23 101) ?_ ?_ ?_ ?_; rotate_left; (intro w'; go_simp; with_reducible rfl); rotate_left; (simp only [sqs_]; rfl); refine pz_ HT_ 10 41 ?_ (lb_ 23 1125) ?_ ?_ ?_ ?_; rotate_left; (intro w'; go_simp; with_reducible rfl); rotate_left; (simp only [sqs_]; rfl); refine pz_ HT_ 11 42 ?_ (lb_ 23 3173) ?_ ?_ ?_ ?_; rotate_left; (intro w'; go_simp; with_reducible rfl); rotate_left; (simp only [sqs_]; rfl); refine pz_ HT_ 12 43 ?_ (lb_ 23 7269) ?_ ?_ ?_ ?_; rotate_left; (intro w'; go_simp; with_reducible rfl); rotate_left; (simp only [sqs_]; rfl); refine pz_ HT_ 14 45 ?_ (lb_ 23 23653) ?_ ?_ ?_ ?_; rotate_left; (intro w'; go_simp; with_reducible rfl); rotate_left; (simp only [sqs_]; rfl); refine tz_ HT_ HW_ 1 32 ?_ (lb_ 23 23655) ?_ hHeld ?_ ?_ ?_; rotate_left; (rintro w' ⟨s0, s1, s2, s3, s4, s5, s6, s7⟩; go_simp; with_reducible rfl); rotate_left; (simp only [sqs_]; rfl); refine tz_ HT_ HW_ 3 34 ?_ (lb_ 23 23663) ?_ hHeld ?_ ?_ ?_; rotate_left; (rintro w' ⟨s0, s1, s2, s3, s4, s5, s6, s7⟩; go_simp; with_reducible rfl); rotate_left; (simp only [sqs_]; rfl); refine pz_ HT_ 4 35 ?_ (lb_ 23 23679) ?_ ?_ ?_ ?_; rotate_left; (intro w'; go_simp; with_reducible rfl); rotate_left; (simp only [sqs_]; rfl); refine tz_ HT_ HW_ 7 38 ?_ (lb_ 23 23807) ?_ hHeld ?_ ?_ ?_; rotate_left; (rintro w' ⟨s0, s1, s2, s3, s4, s5, s6, s7⟩; go_simp; with_reducible rfl); rotate_left; (simp only [sqs_]; rfl); refine pz_ HT_ 8 39 ?_ (lb_ 23 24063) ?_ ?_ ?_ ?_; rotate_left; (intro w'; go_simp; with_reducible rfl); rotate_left; (simp only [sqs_]; rfl); refine pz_ HT_ 9 40 ?_ (lb_ 23 24575) ?_ ?_ ?_ ?_; rotate_left; (intro w'; go_simp; with_reducible rfl); rotate_left; (simp only [sqs_]; rfl); refine tz_ HT_ HW_ 13 44 ?_ (lb_ 23 32767) ?_ hHeld ?_ ?_ ?_; rotate_left; (rintro w' ⟨s0, s1, s2, s3, s4, s5, s6, s7⟩; go_simp; with_reducible rfl); rotate_left; (simp only [sqs_]; rfl); refine tz_ HT_ HW_ 15 46 ?_ (lb_ 23 65535) ?_ hHeld ?_ ?_ ?_; rotate_left; (rintro w' ⟨s0, s1, s2, s3, s4, s5, s6, s7⟩; go_simp; with_reducible rfl); rotate_left; (simp only [sqs_]; rfl)
     refine pz_ HT_ 16 47 ?_ (lb_ 23 131071) ?_ ?_ ?_ ?_; rotate_left; (intro w'; go_simp; with_reducible rfl); rotate_left; (simp only [sqs_]; rfl); refine one_ (i := 17) (N := some 48) (lb_ 23 262143) rfl rfl (one_of HT_.out (by kernel_rfl)) (by decide) (fun K hK => ?_); refine goes_ Try.func32 (by kernel_rfl) rfl #[.int .i64 (wrap64 ((wrap64 ((wrap64 (a1 * 6400)) + t289)) + (wrap64 (16 * t283)))), .int .i64 (wrap64 ((rd l0 9) - t281))] (by rfl) rfl rfl (by (try simp only [List.map_toArray, List.map_cons, List.map_nil]); first | done | rfl | (simp only [List.length_drop, List.length_take]; rfl)) ?_
     with_reducible refine (params_up.calls (wrap64 ((wrap64 ((wrap64 (a1 * 6400)) + t289)) + (wrap64 (16 * t283)))) (wrap64 ((rd l0 9) - t281)) t292 _ A13.out).mono ?_
     rintro e w' ⟨rfl, ⟨nd, rfl⟩⟩; refine ⟨_, rfl, ?_⟩; refine hK.out _ _ ⟨(blk_cell BK287.out 0).trans rfl, (blk_cell BK287.out 1).trans rfl, (blk_cell BK287.out 2).trans rfl, (blk_cell BK287.out 3).trans rfl, (blk_cell BK287.out 4).trans rfl, (blk_cell BK287.out 5).trans rfl, ((HB.out.cell (World.block_lt_of_cell? w _ hw290_0)).trans hw290_0), ((HB.out.cell (World.block_lt_of_cell? w _ hw291_0)).trans hw291_0)⟩ (fun hHeld => ?_); clear hK K; refine norm_ (a' := ?_) ?_ ?_; rotate_left
     ·show Act.put _ (some 48) _ = _
      simp only [Act.put, List.setIfInBounds_toArray, List.set_cons_zero, List.set_cons_succ, i64_w, i32_w]
      rfl
     refine pz_ HT_ 18 49 ?_ (lb_ 23 524287) ?_ ?_ ?_ ?_; rotate_left; (intro w'; go_simp; with_reducible rfl); rotate_left; (simp only [sqs_]; rfl); refine pz_ HT_ 19 50 ?_ (lb_ 23 1048575) ?_ ?_ ?_ ?_; rotate_left; (intro w'; go_simp; with_reducible rfl); rotate_left; (simp only [sqs_]; rfl); refine pz_ HT_ 20 51 ?_ (lb_ 23 2097151) ?_ ?_ ?_ ?_; rotate_left; (intro w'; go_simp; with_reducible rfl); rotate_left; (simp only [sqs_]; rfl); refine pz_ HT_ 21 4 ?_ (lb_ 23 4194303) ?_ ?_ ?_ ?_; rotate_left; (intro w'; go_simp; with_reducible rfl); rotate_left; (simp only [sqs_]; rfl); refine pz_ HT_ 22 5 ?_ (lb_ 23 8388607) ?_ ?_ ?_ ?_; rotate_left; (intro w'; go_simp; with_reducible rfl); rotate_left; (simp only [sqs_]; rfl); refine done_ (done_of HT_.out (by kernel_rfl)) ?_
     try go_wp2
     go_ret2
     exact ⟨by first | rfl | (simp [errW_none, errW_some] <;> rfl) | (simp [*, errW_none, errW_some] <;> rfl), by repeat (first | (with_reducible first | exact HB.out | apply below_alloc | apply pw_below_drewN | apply below_drew1 | refine below_set ?_ GE287.out) | exact HB.out)⟩
    ·rw [if_neg c12] at H
     exact absurd H (by simp)
 ·rw [if_neg c4] at H
  have c4b0 : (t286 == 0) = false := beq_eq_false_iff_ne.mpr c4; have c4b1 : (t286 != 0) = true := bne_iff_ne.mpr c4; simp only [Option.some.injEq, Prod.mk.injEq] at H; obtain ⟨rfl, rfl⟩ := H; go_enter Try.func28, Try.ntmps28
  go_wp2_with (first | ((with_reducible refine gate_callee (f := 18) rfl ?_); refine goesL_ (some 11) rfl rfl Try.func18 (by kernel_rfl) rfl #[.slice A0 l0.length c0] rfl (by (try simp only [List.map_toArray, List.map_cons, List.map_nil]); first | done | rfl | (simp only [List.length_drop, List.length_take]; rfl)) ?_; (with_reducible refine (params_Margins.calls k _ _ l0 t280 t281 t282 t283 t284 t285 t286 _ ?side1 ?side2 A3.out).mono ?_); (case side1 => repeat (first | exact HR0.out | (with_reducible refine Kd.C_alloc ?_ _) | (with_reducible refine Kd.C_drewN ?_ _) | (with_reducible refine Kd.C_drew ?_))); (case side2 => exact HC0.out); rintro e w20 ⟨rfl, hb⟩; refine ⟨_, rfl, ?_⟩; have n0_ := Aside0.mk (below_step (by repeat (first | (with_reducible first | exact HB.out | apply below_alloc | apply pw_below_drewN | apply below_drew1) | exact HB.out)) hb); clear HB; have HB := n0_; clear n0_; (try clear hb); (try clear hb2); (try clear hk); (try clear hi)) | ((with_reducible refine gate_dst (N := 6) rfl ?_); refine box_event ?hg (N := 6) ?hd (cs := #[.int .i64 0, .int .i64 0, .int .i64 0, .int .i64 0, .int .i64 0, .int .i64 0]) (t := 54) ?hr ?_; (case hd => rfl); (case hg => rfl); (case hr => first | (go_simp; done) | (go_simp; rfl)); intro gb287 hg w21 hbox hb; have n0_ := Aside0.mk (below_step (by repeat (first | (with_reducible first | exact HB.out | apply below_alloc | apply pw_below_drewN | apply below_drew1) | exact HB.out)) hb); have n1_ := Aside0.mk (hbox); have n2_ := Aside0.mk ((by rw [hg]; exact (below_size (by repeat (first | (with_reducible first | exact HB.out | apply below_alloc | apply pw_below_drewN | apply below_drew1) | exact HB.out))) : w.heap.size ≤ gb287)); have n3_ := Aside0.mk ((by rw [hg]; exact (below_size (by repeat (first | (with_reducible first | exact HB.out | apply below_alloc | apply pw_below_drewN | apply below_drew1) | exact HB.out))) : w.heap.size ≤ gb287)); clear HB; have HB := n0_; have BK287 := n1_; have GW287 := n2_; have GE287 := n3_; clear n0_ n1_ n2_ n3_; clear hb hbox hg; have hcz22_0 := blk_cells6 (w := w21) (g := gb287) BK287.out; have hfz22_0 := blk_frozen BK287.out))
  go_ret2
  exact ⟨by first | rfl | (simp [errW_none, errW_some] <;> rfl) | (simp [*, errW_none, errW_some] <;> rfl), by repeat (first | (with_reducible first | exact HB.out | apply below_alloc | apply pw_below_drewN | apply below_drew1 | refine below_set ?_ GE287.out) | exact HB.out)⟩

end Go.Proofs.Ytmmlahckcgjofaa.PPowerFollows
