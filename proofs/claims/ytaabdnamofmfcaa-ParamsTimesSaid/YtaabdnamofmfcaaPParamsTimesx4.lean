-- WRITTEN BY wip/tools/aprint.py of this claim's repository over the kit's words: not typed by hand
import Derived.Test.YtaabdnamofmfcaaPParamsTimesx0
namespace Go.Proofs.Ytaabdnamofmfcaa.PParamsTimes
open Go.RowKit Go.Proofs.YtaabdnamofmfcaaW.PrintWords Go.Proofs.YtaabdnamofmfcaaW.PrintLast Go.Proofs.YtaabdnamofmfcaaW.PrintMore
attribute [local go_sem] max2_int min2_int max_two min_two max_three min_three max_four min_four   -- for this text's walks alone
set_option linter.unusedVariables false
set_option linter.unusedSimpArgs false

/-! ### windhoverref08_rules: function 38 -/
def windhoverref08_rules.f (l0 : List Int) : Option (Bool) := if 2 < (l0.length : Int) then (if 4 < (l0.length : Int) then (if 1 < (l0.length : Int) then (if 3 < (l0.length : Int) then (if 0 < (l0.length : Int) then (if 6 < (l0.length : Int) then (if (wrap64 ((wrap64 ((wrap64 ((rd l0 0) + (rd l0 6))) + (wrap64 (2 * (mx (rd l0 2) (rd l0 4)))))) + 4)) ≤ 64 then (if 12 < (l0.length : Int) then (if (rd l0 12) ≥ (wrap64 ((wrap64 (8 * (mx (rd l0 1) (rd l0 3)))) + 100)) then (if 11 < (l0.length : Int) then (if 10 < (l0.length : Int) then (some (decide ((rd l0 11) ≤ (rd l0 10)))) else (none)) else (none)) else (some false)) else (none)) else (some false)) else (none)) else (none)) else (none)) else (none)) else (none)) else (none)
set_option maxHeartbeats 8000000 in
set_option maxRecDepth 100000 in
theorem windhoverref08_rules.calls (A0 : Option Addr) (c0 : Nat) (l0 : List Int) (r : Bool) (w : World) (hr0 : Kd.C (Kd.int .i64) w A0 l0.length l0) (hc0 : l0.length ≤ c0) (h : windhoverref08_rules.f l0 = some r) :
    Calls Try.prog 38 #[.slice A0 l0.length c0] w fun e w' => e = .returned (.bool r) ∧ Below w.heap.size w w' := by
  have HR0 := Aside0.mk hr0
  have HC0 := Aside0.mk hc0
  clear hr0 hc0
  have HB := Aside0.mk (Below.refl w.heap.size w)
  have H : (if 2 < (l0.length : Int) then (if 4 < (l0.length : Int) then (if 1 < (l0.length : Int) then (if 3 < (l0.length : Int) then (if 0 < (l0.length : Int) then (if 6 < (l0.length : Int) then (if (wrap64 ((wrap64 ((wrap64 ((rd l0 0) + (rd l0 6))) + (wrap64 (2 * (mx (rd l0 2) (rd l0 4)))))) + 4)) ≤ 64 then (if 12 < (l0.length : Int) then (if (rd l0 12) ≥ (wrap64 ((wrap64 (8 * (mx (rd l0 1) (rd l0 3)))) + 100)) then (if 11 < (l0.length : Int) then (if 10 < (l0.length : Int) then (some (decide ((rd l0 11) ≤ (rd l0 10)))) else (none)) else (none)) else (some false)) else (none)) else (some false)) else (none)) else (none)) else (none)) else (none)) else (none)) else (none)) = some r := h
  clear h
  by_cases c2 : 2 < (l0.length : Int)
  · rw [if_pos c2] at H
    have c2b0 : decide (2 < (l0.length : Int)) = true := decide_eq_true c2
    have c2b1 : decide (2 < l0.length) = true := decide_eq_true (by omega)
    clear c2
    by_cases c3 : 4 < (l0.length : Int)
    · rw [if_pos c3] at H
      have c3b0 : decide (4 < (l0.length : Int)) = true := decide_eq_true c3
      have c3b1 : decide (4 < l0.length) = true := decide_eq_true (by omega)
      clear c3
      obtain ⟨ji4, hji4⟩ : ∃ j_ : Int, (mx (rd l0 2) (rd l0 4)) = j_ := ⟨_, rfl⟩
      replace H : (if 1 < (l0.length : Int) then (if 3 < (l0.length : Int) then (if 0 < (l0.length : Int) then (if 6 < (l0.length : Int) then (if (wrap64 ((wrap64 ((wrap64 ((rd l0 0) + (rd l0 6))) + (wrap64 (2 * (ji4))))) + 4)) ≤ 64 then (if 12 < (l0.length : Int) then (if (rd l0 12) ≥ (wrap64 ((wrap64 (8 * (mx (rd l0 1) (rd l0 3)))) + 100)) then (if 11 < (l0.length : Int) then (if 10 < (l0.length : Int) then (some (decide ((rd l0 11) ≤ (rd l0 10)))) else (none)) else (none)) else (some false)) else (none)) else (some false)) else (none)) else (none)) else (none)) else (none)) = some r := by first | (rw [hji4] at H; exact H) | (simp only [hji4] at H ⊢; exact H)
      have hji4_ : (if (rd l0 2) < (rd l0 4) then (rd l0 4) else (rd l0 2)) = ji4 := hji4
      by_cases c5 : 1 < (l0.length : Int)
      · rw [if_pos c5] at H
        have c5b0 : decide (1 < (l0.length : Int)) = true := decide_eq_true c5
        have c5b1 : decide (1 < l0.length) = true := decide_eq_true (by omega)
        clear c5
        by_cases c6 : 3 < (l0.length : Int)
        · rw [if_pos c6] at H
          have c6b0 : decide (3 < (l0.length : Int)) = true := decide_eq_true c6
          have c6b1 : decide (3 < l0.length) = true := decide_eq_true (by omega)
          clear c6
          obtain ⟨ji7, hji7⟩ : ∃ j_ : Int, (mx (rd l0 1) (rd l0 3)) = j_ := ⟨_, rfl⟩
          replace H : (if 0 < (l0.length : Int) then (if 6 < (l0.length : Int) then (if (wrap64 ((wrap64 ((wrap64 ((rd l0 0) + (rd l0 6))) + (wrap64 (2 * (ji4))))) + 4)) ≤ 64 then (if 12 < (l0.length : Int) then (if (rd l0 12) ≥ (wrap64 ((wrap64 (8 * (ji7))) + 100)) then (if 11 < (l0.length : Int) then (if 10 < (l0.length : Int) then (some (decide ((rd l0 11) ≤ (rd l0 10)))) else (none)) else (none)) else (some false)) else (none)) else (some false)) else (none)) else (none)) = some r := by first | (rw [hji7] at H; exact H) | (simp only [hji7] at H ⊢; exact H)
          have hji7_ : (if (rd l0 1) < (rd l0 3) then (rd l0 3) else (rd l0 1)) = ji7 := hji7
          by_cases c8 : 0 < (l0.length : Int)
          · rw [if_pos c8] at H
            have c8b0 : decide (0 < (l0.length : Int)) = true := decide_eq_true c8
            have c8b1 : decide (0 < l0.length) = true := decide_eq_true (by omega)
            clear c8
            by_cases c9 : 6 < (l0.length : Int)
            · rw [if_pos c9] at H
              have c9b0 : decide (6 < (l0.length : Int)) = true := decide_eq_true c9
              have c9b1 : decide (6 < l0.length) = true := decide_eq_true (by omega)
              clear c9
              by_cases c10 : (wrap64 ((wrap64 ((wrap64 ((rd l0 0) + (rd l0 6))) + (wrap64 (2 * (ji4))))) + 4)) ≤ 64
              · rw [if_pos c10] at H
                have c10b0 : decide ((wrap64 ((wrap64 ((wrap64 ((rd l0 0) + (rd l0 6))) + (wrap64 (2 * (ji4))))) + 4)) ≤ 64) = true := decide_eq_true c10
                clear c10
                by_cases c11 : 12 < (l0.length : Int)
                · rw [if_pos c11] at H
                  have c11b0 : decide (12 < (l0.length : Int)) = true := decide_eq_true c11
                  have c11b1 : decide (12 < l0.length) = true := decide_eq_true (by omega)
                  clear c11
                  by_cases c12 : (rd l0 12) ≥ (wrap64 ((wrap64 (8 * (ji7))) + 100))
                  · rw [if_pos c12] at H
                    have c12b0 : decide ((wrap64 ((wrap64 (8 * (ji7))) + 100)) ≤ (rd l0 12)) = true := decide_eq_true c12
                    clear c12
                    by_cases c13 : 11 < (l0.length : Int)
                    · rw [if_pos c13] at H
                      have c13b0 : decide (11 < (l0.length : Int)) = true := decide_eq_true c13
                      have c13b1 : decide (11 < l0.length) = true := decide_eq_true (by omega)
                      clear c13
                      by_cases c14 : 10 < (l0.length : Int)
                      · rw [if_pos c14] at H
                        have c14b0 : decide (10 < (l0.length : Int)) = true := decide_eq_true c14
                        have c14b1 : decide (10 < l0.length) = true := decide_eq_true (by omega)
                        clear c14
                        obtain rfl := Option.some.inj H
                        have p323 : 0 ≤ (2 : Int) := (by omega)
                        have q323 : 2 < (l0.length : Int) := of_decide_eq_true (by first | (with_reducible assumption) | assumption)
                        obtain ⟨ad323, e323, hx323_0⟩ := Kd.at_int HR0.out 2 p323 q323
                        cases e323
                        (try simp only [show (2 : Int).toNat = 2 from rfl, Nat.reduceMul, Nat.reduceEqDiff, Go.Addr.add, ↓reduceIte] at hx323_0)
                        have qi323 : (2 < l0.length) = True := eq_true (by omega)
                        (try rw [show ((2 : Int)).toNat = 2 from rfl] at hx323_0)
                        replace p323 := eq_true p323
                        replace q323 := eq_true q323
                        have p324 : 0 ≤ (4 : Int) := (by omega)
                        have q324 : 4 < (l0.length : Int) := of_decide_eq_true (by first | (with_reducible assumption) | assumption)
                        obtain ⟨ad324, e324, hx324_0⟩ := Kd.at_int HR0.out 4 p324 q324
                        obtain rfl : ad323 = ad324 := (by injection e324)
                        (try simp only [show (4 : Int).toNat = 4 from rfl, Nat.reduceMul, Nat.reduceEqDiff, Go.Addr.add, ↓reduceIte] at hx324_0)
                        have qi324 : (4 < l0.length) = True := eq_true (by omega)
                        (try rw [show ((4 : Int)).toNat = 4 from rfl] at hx324_0)
                        replace p324 := eq_true p324
                        replace q324 := eq_true q324
                        have p325 : 0 ≤ (1 : Int) := (by omega)
                        have q325 : 1 < (l0.length : Int) := of_decide_eq_true (by first | (with_reducible assumption) | assumption)
                        obtain ⟨ad325, e325, hx325_0⟩ := Kd.at_int HR0.out 1 p325 q325
                        obtain rfl : ad323 = ad325 := (by injection e325)
                        (try simp only [show (1 : Int).toNat = 1 from rfl, Nat.reduceMul, Nat.reduceEqDiff, Go.Addr.add, ↓reduceIte] at hx325_0)
                        have qi325 : (1 < l0.length) = True := eq_true (by omega)
                        (try rw [show ((1 : Int)).toNat = 1 from rfl] at hx325_0)
                        replace p325 := eq_true p325
                        replace q325 := eq_true q325
                        have p326 : 0 ≤ (3 : Int) := (by omega)
                        have q326 : 3 < (l0.length : Int) := of_decide_eq_true (by first | (with_reducible assumption) | assumption)
                        obtain ⟨ad326, e326, hx326_0⟩ := Kd.at_int HR0.out 3 p326 q326
                        obtain rfl : ad323 = ad326 := (by injection e326)
                        (try simp only [show (3 : Int).toNat = 3 from rfl, Nat.reduceMul, Nat.reduceEqDiff, Go.Addr.add, ↓reduceIte] at hx326_0)
                        have qi326 : (3 < l0.length) = True := eq_true (by omega)
                        (try rw [show ((3 : Int)).toNat = 3 from rfl] at hx326_0)
                        replace p326 := eq_true p326
                        replace q326 := eq_true q326
                        have p327 : 0 ≤ (0 : Int) := (by omega)
                        have q327 : 0 < (l0.length : Int) := of_decide_eq_true (by first | (with_reducible assumption) | assumption)
                        obtain ⟨ad327, e327, hx327_0⟩ := Kd.at_int HR0.out 0 p327 q327
                        obtain rfl : ad323 = ad327 := (by injection e327)
                        have qi327 : (0 < l0.length) = True := eq_true (by omega)
                        (try rw [show ((0 : Int)).toNat = 0 from rfl] at hx327_0)
                        (try rw [Addr.add_zero'] at hx327_0)
                        replace p327 := eq_true p327
                        replace q327 := eq_true q327
                        have p328 : 0 ≤ (6 : Int) := (by omega)
                        have q328 : 6 < (l0.length : Int) := of_decide_eq_true (by first | (with_reducible assumption) | assumption)
                        obtain ⟨ad328, e328, hx328_0⟩ := Kd.at_int HR0.out 6 p328 q328
                        obtain rfl : ad323 = ad328 := (by injection e328)
                        (try simp only [show (6 : Int).toNat = 6 from rfl, Nat.reduceMul, Nat.reduceEqDiff, Go.Addr.add, ↓reduceIte] at hx328_0)
                        have qi328 : (6 < l0.length) = True := eq_true (by omega)
                        (try rw [show ((6 : Int)).toNat = 6 from rfl] at hx328_0)
                        replace p328 := eq_true p328
                        replace q328 := eq_true q328
                        have p329 : 0 ≤ (12 : Int) := (by omega)
                        have q329 : 12 < (l0.length : Int) := of_decide_eq_true (by first | (with_reducible assumption) | assumption)
                        obtain ⟨ad329, e329, hx329_0⟩ := Kd.at_int HR0.out 12 p329 q329
                        obtain rfl : ad323 = ad329 := (by injection e329)
                        (try simp only [show (12 : Int).toNat = 12 from rfl, Nat.reduceMul, Nat.reduceEqDiff, Go.Addr.add, ↓reduceIte] at hx329_0)
                        have qi329 : (12 < l0.length) = True := eq_true (by omega)
                        (try rw [show ((12 : Int)).toNat = 12 from rfl] at hx329_0)
                        replace p329 := eq_true p329
                        replace q329 := eq_true q329
                        have p330 : 0 ≤ (11 : Int) := (by omega)
                        have q330 : 11 < (l0.length : Int) := of_decide_eq_true (by first | (with_reducible assumption) | assumption)
                        obtain ⟨ad330, e330, hx330_0⟩ := Kd.at_int HR0.out 11 p330 q330
                        obtain rfl : ad323 = ad330 := (by injection e330)
                        (try simp only [show (11 : Int).toNat = 11 from rfl, Nat.reduceMul, Nat.reduceEqDiff, Go.Addr.add, ↓reduceIte] at hx330_0)
                        have qi330 : (11 < l0.length) = True := eq_true (by omega)
                        (try rw [show ((11 : Int)).toNat = 11 from rfl] at hx330_0)
                        replace p330 := eq_true p330
                        replace q330 := eq_true q330
                        have p331 : 0 ≤ (10 : Int) := (by omega)
                        have q331 : 10 < (l0.length : Int) := of_decide_eq_true (by first | (with_reducible assumption) | assumption)
                        obtain ⟨ad331, e331, hx331_0⟩ := Kd.at_int HR0.out 10 p331 q331
                        obtain rfl : ad323 = ad331 := (by injection e331)
                        (try simp only [show (10 : Int).toNat = 10 from rfl, Nat.reduceMul, Nat.reduceEqDiff, Go.Addr.add, ↓reduceIte] at hx331_0)
                        have qi331 : (10 < l0.length) = True := eq_true (by omega)
                        (try rw [show ((10 : Int)).toNat = 10 from rfl] at hx331_0)
                        replace p331 := eq_true p331
                        replace q331 := eq_true q331
                        go_enter Try.func38, Try.ntmps38
                        go_wp2
                        repeat (go_quiet (fail); try go_wp2)
                        go_ret
                        exact ⟨by first | rfl | (simp [errW_none, errW_some] <;> rfl) | (simp only [← hji4, ← hji7]; first | rfl | (simp [errW_none, errW_some] <;> rfl)) | (simp [*, errW_none, errW_some] <;> rfl), by repeat (first | (with_reducible first | exact HB.out | apply below_alloc | apply pw_below_drewN | apply below_drew1) | exact HB.out)⟩
                      · rw [if_neg c14] at H
                        exact absurd H (by simp)
                    · rw [if_neg c13] at H
                      exact absurd H (by simp)
                  · rw [if_neg c12] at H
                    have c12b0 : decide ((wrap64 ((wrap64 (8 * (ji7))) + 100)) ≤ (rd l0 12)) = false := decide_eq_false c12
                    clear c12
                    obtain rfl := Option.some.inj H
                    have p323 : 0 ≤ (2 : Int) := (by omega)
                    have q323 : 2 < (l0.length : Int) := of_decide_eq_true (by first | (with_reducible assumption) | assumption)
                    obtain ⟨ad323, e323, hx323_0⟩ := Kd.at_int HR0.out 2 p323 q323
                    cases e323
                    (try simp only [show (2 : Int).toNat = 2 from rfl, Nat.reduceMul, Nat.reduceEqDiff, Go.Addr.add, ↓reduceIte] at hx323_0)
                    have qi323 : (2 < l0.length) = True := eq_true (by omega)
                    (try rw [show ((2 : Int)).toNat = 2 from rfl] at hx323_0)
                    replace p323 := eq_true p323
                    replace q323 := eq_true q323
                    have p324 : 0 ≤ (4 : Int) := (by omega)
                    have q324 : 4 < (l0.length : Int) := of_decide_eq_true (by first | (with_reducible assumption) | assumption)
                    obtain ⟨ad324, e324, hx324_0⟩ := Kd.at_int HR0.out 4 p324 q324
                    obtain rfl : ad323 = ad324 := (by injection e324)
                    (try simp only [show (4 : Int).toNat = 4 from rfl, Nat.reduceMul, Nat.reduceEqDiff, Go.Addr.add, ↓reduceIte] at hx324_0)
                    have qi324 : (4 < l0.length) = True := eq_true (by omega)
                    (try rw [show ((4 : Int)).toNat = 4 from rfl] at hx324_0)
                    replace p324 := eq_true p324
                    replace q324 := eq_true q324
                    have p325 : 0 ≤ (1 : Int) := (by omega)
                    have q325 : 1 < (l0.length : Int) := of_decide_eq_true (by first | (with_reducible assumption) | assumption)
                    obtain ⟨ad325, e325, hx325_0⟩ := Kd.at_int HR0.out 1 p325 q325
                    obtain rfl : ad323 = ad325 := (by injection e325)
                    (try simp only [show (1 : Int).toNat = 1 from rfl, Nat.reduceMul, Nat.reduceEqDiff, Go.Addr.add, ↓reduceIte] at hx325_0)
                    have qi325 : (1 < l0.length) = True := eq_true (by omega)
                    (try rw [show ((1 : Int)).toNat = 1 from rfl] at hx325_0)
                    replace p325 := eq_true p325
                    replace q325 := eq_true q325
                    have p326 : 0 ≤ (3 : Int) := (by omega)
                    have q326 : 3 < (l0.length : Int) := of_decide_eq_true (by first | (with_reducible assumption) | assumption)
                    obtain ⟨ad326, e326, hx326_0⟩ := Kd.at_int HR0.out 3 p326 q326
                    obtain rfl : ad323 = ad326 := (by injection e326)
                    (try simp only [show (3 : Int).toNat = 3 from rfl, Nat.reduceMul, Nat.reduceEqDiff, Go.Addr.add, ↓reduceIte] at hx326_0)
                    have qi326 : (3 < l0.length) = True := eq_true (by omega)
                    (try rw [show ((3 : Int)).toNat = 3 from rfl] at hx326_0)
                    replace p326 := eq_true p326
                    replace q326 := eq_true q326
                    have p327 : 0 ≤ (0 : Int) := (by omega)
                    have q327 : 0 < (l0.length : Int) := of_decide_eq_true (by first | (with_reducible assumption) | assumption)
                    obtain ⟨ad327, e327, hx327_0⟩ := Kd.at_int HR0.out 0 p327 q327
                    obtain rfl : ad323 = ad327 := (by injection e327)
                    have qi327 : (0 < l0.length) = True := eq_true (by omega)
                    (try rw [show ((0 : Int)).toNat = 0 from rfl] at hx327_0)
                    (try rw [Addr.add_zero'] at hx327_0)
                    replace p327 := eq_true p327
                    replace q327 := eq_true q327
                    have p328 : 0 ≤ (6 : Int) := (by omega)
                    have q328 : 6 < (l0.length : Int) := of_decide_eq_true (by first | (with_reducible assumption) | assumption)
                    obtain ⟨ad328, e328, hx328_0⟩ := Kd.at_int HR0.out 6 p328 q328
                    obtain rfl : ad323 = ad328 := (by injection e328)
                    (try simp only [show (6 : Int).toNat = 6 from rfl, Nat.reduceMul, Nat.reduceEqDiff, Go.Addr.add, ↓reduceIte] at hx328_0)
                    have qi328 : (6 < l0.length) = True := eq_true (by omega)
                    (try rw [show ((6 : Int)).toNat = 6 from rfl] at hx328_0)
                    replace p328 := eq_true p328
                    replace q328 := eq_true q328
                    have p329 : 0 ≤ (12 : Int) := (by omega)
                    have q329 : 12 < (l0.length : Int) := of_decide_eq_true (by first | (with_reducible assumption) | assumption)
                    obtain ⟨ad329, e329, hx329_0⟩ := Kd.at_int HR0.out 12 p329 q329
                    obtain rfl : ad323 = ad329 := (by injection e329)
                    (try simp only [show (12 : Int).toNat = 12 from rfl, Nat.reduceMul, Nat.reduceEqDiff, Go.Addr.add, ↓reduceIte] at hx329_0)
                    have qi329 : (12 < l0.length) = True := eq_true (by omega)
                    (try rw [show ((12 : Int)).toNat = 12 from rfl] at hx329_0)
                    replace p329 := eq_true p329
                    replace q329 := eq_true q329
                    go_enter Try.func38, Try.ntmps38
                    go_wp2
                    repeat (go_quiet (fail); try go_wp2)
                    go_ret
                    exact ⟨by first | rfl | (simp [errW_none, errW_some] <;> rfl) | (simp only [← hji4, ← hji7]; first | rfl | (simp [errW_none, errW_some] <;> rfl)) | (simp [*, errW_none, errW_some] <;> rfl), by repeat (first | (with_reducible first | exact HB.out | apply below_alloc | apply pw_below_drewN | apply below_drew1) | exact HB.out)⟩
                · rw [if_neg c11] at H
                  exact absurd H (by simp)
              · rw [if_neg c10] at H
                have c10b0 : decide ((wrap64 ((wrap64 ((wrap64 ((rd l0 0) + (rd l0 6))) + (wrap64 (2 * (ji4))))) + 4)) ≤ 64) = false := decide_eq_false c10
                clear c10
                obtain rfl := Option.some.inj H
                have p323 : 0 ≤ (2 : Int) := (by omega)
                have q323 : 2 < (l0.length : Int) := of_decide_eq_true (by first | (with_reducible assumption) | assumption)
                obtain ⟨ad323, e323, hx323_0⟩ := Kd.at_int HR0.out 2 p323 q323
                cases e323
                (try simp only [show (2 : Int).toNat = 2 from rfl, Nat.reduceMul, Nat.reduceEqDiff, Go.Addr.add, ↓reduceIte] at hx323_0)
                have qi323 : (2 < l0.length) = True := eq_true (by omega)
                (try rw [show ((2 : Int)).toNat = 2 from rfl] at hx323_0)
                replace p323 := eq_true p323
                replace q323 := eq_true q323
                have p324 : 0 ≤ (4 : Int) := (by omega)
                have q324 : 4 < (l0.length : Int) := of_decide_eq_true (by first | (with_reducible assumption) | assumption)
                obtain ⟨ad324, e324, hx324_0⟩ := Kd.at_int HR0.out 4 p324 q324
                obtain rfl : ad323 = ad324 := (by injection e324)
                (try simp only [show (4 : Int).toNat = 4 from rfl, Nat.reduceMul, Nat.reduceEqDiff, Go.Addr.add, ↓reduceIte] at hx324_0)
                have qi324 : (4 < l0.length) = True := eq_true (by omega)
                (try rw [show ((4 : Int)).toNat = 4 from rfl] at hx324_0)
                replace p324 := eq_true p324
                replace q324 := eq_true q324
                have p325 : 0 ≤ (1 : Int) := (by omega)
                have q325 : 1 < (l0.length : Int) := of_decide_eq_true (by first | (with_reducible assumption) | assumption)
                obtain ⟨ad325, e325, hx325_0⟩ := Kd.at_int HR0.out 1 p325 q325
                obtain rfl : ad323 = ad325 := (by injection e325)
                (try simp only [show (1 : Int).toNat = 1 from rfl, Nat.reduceMul, Nat.reduceEqDiff, Go.Addr.add, ↓reduceIte] at hx325_0)
                have qi325 : (1 < l0.length) = True := eq_true (by omega)
                (try rw [show ((1 : Int)).toNat = 1 from rfl] at hx325_0)
                replace p325 := eq_true p325
                replace q325 := eq_true q325
                have p326 : 0 ≤ (3 : Int) := (by omega)
                have q326 : 3 < (l0.length : Int) := of_decide_eq_true (by first | (with_reducible assumption) | assumption)
                obtain ⟨ad326, e326, hx326_0⟩ := Kd.at_int HR0.out 3 p326 q326
                obtain rfl : ad323 = ad326 := (by injection e326)
                (try simp only [show (3 : Int).toNat = 3 from rfl, Nat.reduceMul, Nat.reduceEqDiff, Go.Addr.add, ↓reduceIte] at hx326_0)
                have qi326 : (3 < l0.length) = True := eq_true (by omega)
                (try rw [show ((3 : Int)).toNat = 3 from rfl] at hx326_0)
                replace p326 := eq_true p326
                replace q326 := eq_true q326
                have p327 : 0 ≤ (0 : Int) := (by omega)
                have q327 : 0 < (l0.length : Int) := of_decide_eq_true (by first | (with_reducible assumption) | assumption)
                obtain ⟨ad327, e327, hx327_0⟩ := Kd.at_int HR0.out 0 p327 q327
                obtain rfl : ad323 = ad327 := (by injection e327)
                have qi327 : (0 < l0.length) = True := eq_true (by omega)
                (try rw [show ((0 : Int)).toNat = 0 from rfl] at hx327_0)
                (try rw [Addr.add_zero'] at hx327_0)
                replace p327 := eq_true p327
                replace q327 := eq_true q327
                have p328 : 0 ≤ (6 : Int) := (by omega)
                have q328 : 6 < (l0.length : Int) := of_decide_eq_true (by first | (with_reducible assumption) | assumption)
                obtain ⟨ad328, e328, hx328_0⟩ := Kd.at_int HR0.out 6 p328 q328
                obtain rfl : ad323 = ad328 := (by injection e328)
                (try simp only [show (6 : Int).toNat = 6 from rfl, Nat.reduceMul, Nat.reduceEqDiff, Go.Addr.add, ↓reduceIte] at hx328_0)
                have qi328 : (6 < l0.length) = True := eq_true (by omega)
                (try rw [show ((6 : Int)).toNat = 6 from rfl] at hx328_0)
                replace p328 := eq_true p328
                replace q328 := eq_true q328
                go_enter Try.func38, Try.ntmps38
                go_wp2
                repeat (go_quiet (fail); try go_wp2)
                go_ret
                exact ⟨by first | rfl | (simp [errW_none, errW_some] <;> rfl) | (simp only [← hji4, ← hji7]; first | rfl | (simp [errW_none, errW_some] <;> rfl)) | (simp [*, errW_none, errW_some] <;> rfl), by repeat (first | (with_reducible first | exact HB.out | apply below_alloc | apply pw_below_drewN | apply below_drew1) | exact HB.out)⟩
            · rw [if_neg c9] at H
              exact absurd H (by simp)
          · rw [if_neg c8] at H
            exact absurd H (by simp)
        · rw [if_neg c6] at H
          exact absurd H (by simp)
      · rw [if_neg c5] at H
        exact absurd H (by simp)
    · rw [if_neg c3] at H
      exact absurd H (by simp)
  · rw [if_neg c2] at H
    exact absurd H (by simp)

end Go.Proofs.Ytaabdnamofmfcaa.PParamsTimes
