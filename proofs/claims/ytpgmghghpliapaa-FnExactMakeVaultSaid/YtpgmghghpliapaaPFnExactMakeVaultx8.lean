-- Made by a program of this session, after the kit's print of the translation. Lean checks it.
import Derived.Test.YtpgmghghpliapaaPFnExactMakeVaultx0
import Derived.Test.YtpgmghghpliapaaPFnExactMakeVaultx2
import Derived.Test.YtpgmghghpliapaaPFnExactMakeVaultx5
import Derived.Test.YtpgmghghpliapaaPFnExactMakeVaultx6
import Derived.Test.YtpgmghghpliapaaPFnExactMakeVaultx7
namespace Go.Proofs.Ytpgmghghpliapaa.PFnExactMakeVault
open Go.RowKit Go.Proofs.YtpgmghghpliapaaW.PrintWords Go.Proofs.YtpgmghghpliapaaW.PrintLast Go.Proofs.YtpgmghghpliapaaW.PrintMore
attribute [local go_sem] max2_int min2_int max_two min_two max_three min_three max_four min_four   -- for this text's walks alone
set_option linter.unusedVariables false
set_option linter.unusedSimpArgs false

/-! ### laws_heldKeeperHostS: function 12 -/
def laws_heldKeeperHostS.l0 : Nat → List (S47) → Int → Int → Option (Int)
  | 0, _, _, _ => none
  | k + 1, x0, x1, x5 => if x5 < (x0.length : Int) then (if 0 ≤ x5 then (if ((rd_T47 x0 x5).f0.f0.f0) = x1 then (if ((rd_T47 x0 x5).f0.f0.f1) = (wrap64 (x1 + 1)) then (if ((rd_T47 x0 x5).f0.f1) = (wrap64 ((wrap64 (x1 + 1)) + 1)) then (if ((rd_T47 x0 x5).f0.f2) = (wrap64 ((wrap64 ((wrap64 (x1 + 1)) + 1)) + 1)) then (if ((rd_T47 x0 x5).f0.f3) = (wrap64 ((wrap64 ((wrap64 ((wrap64 (x1 + 1)) + 1)) + 1)) + 1)) then ((laws_heldKeeperS.f k ((rd_T47 x0 x5).f1) (wrap64 ((wrap64 ((wrap64 ((wrap64 ((wrap64 (x1 + 1)) + 1)) + 1)) + 1)) + 1))).bind fun t347 => (if t347 < 0 then (some (-1)) else (if ((rd_T47 x0 x5).f2) = t347 then (laws_heldKeeperHostS.l0 k x0 (wrap64 (t347 + 1)) (wrap64 (x5 + 1))) else (some (-1))))) else (some (-1))) else (some (-1))) else (some (-1))) else (some (-1))) else (some (-1))) else (none)) else (some x1)
def laws_heldKeeperHostS.f (k : Nat) (l0 : List (S47)) (a1 : Int) : Option (Int) := laws_heldKeeperHostS.l0 k l0 a1 0
theorem laws_heldKeeperHostS.mono_l : ∀ k, (∀ y0 y1 y2, LeO (laws_heldKeeperHostS.l0 k y0 y1 y2) (laws_heldKeeperHostS.l0 (k + 1) y0 y1 y2))
  | 0 => fun _ _ _ r h => by simp [laws_heldKeeperHostS.l0] at h
  | k + 1 => by
    have ih0 := laws_heldKeeperHostS.mono_l k
    · intro y0 y1 y2
      unfold laws_heldKeeperHostS.l0
      repeat' first
      | (with_reducible exact ih0 _ _ _)
      | (with_reducible exact laws_heldKeeperS.mono _ _ _)
      | (with_reducible exact LeO.refl _)
      | (with_reducible exact LeO.none _)
      | (with_reducible refine LeO.ite ?_ ?_)
      | (with_reducible refine LeO.bind ?_ (fun _ => ?_))
      | exact ih0 _ _ _
      | exact laws_heldKeeperS.mono _ _ _
      | exact LeO.none _
      | refine LeO.ite ?_ ?_
      | refine LeO.bind ?_ (fun _ => ?_)
theorem laws_heldKeeperHostS.mono : ∀ a0 a1 k, LeO (laws_heldKeeperHostS.f k a0 a1) (laws_heldKeeperHostS.f (k + 1) a0 a1) := by
  intro a0 a1 k
  have ih0 := laws_heldKeeperHostS.mono_l k
  unfold laws_heldKeeperHostS.f
  repeat' first
      | (with_reducible exact ih0 _ _ _)
      | (with_reducible exact laws_heldKeeperS.mono _ _ _)
      | (with_reducible exact LeO.refl _)
      | (with_reducible exact LeO.none _)
      | (with_reducible refine LeO.ite ?_ ?_)
      | (with_reducible refine LeO.bind ?_ (fun _ => ?_))
      | exact ih0 _ _ _
      | exact laws_heldKeeperS.mono _ _ _
      | exact LeO.none _
      | refine LeO.ite ?_ ?_
      | refine LeO.bind ?_ (fun _ => ?_)
set_option maxHeartbeats 8000000 in
set_option maxRecDepth 100000 in
theorem laws_heldKeeperHostS.calls (k : Nat) (A0 : Option Addr) (c0 : Nat) (l0 : List (S47)) (a1 : Int) (r : Int) (w : World) (hr0 : Kd.C k47 w A0 l0.length l0) (hc0 : l0.length ≤ c0) (h : laws_heldKeeperHostS.f k l0 a1 = some r) :
    Calls Try.prog 12 #[.slice A0 l0.length c0, .int .i64 a1] w fun e w' => e = .returned (.int .i64 r) ∧ Drawn0 w w' := by
  have HR0 := Aside0.mk hr0
  have HC0 := Aside0.mk hc0
  clear hr0 hc0
  have H : (laws_heldKeeperHostS.l0 k l0 a1 0) = some r := h
  clear h
  have H' := Aside0.mk H
  clear H
  go_enter Try.func12, Try.ntmps12
  go_wp2
  go_loopg [1, 5] k (fun kq v1 v5 w' => ∃ (x1_1 : Int) (x5_1 : Int), v1 = .int .i64 x1_1 ∧ v5 = .int .i64 x5_1 ∧ Aside0 (laws_heldKeeperHostS.l0 kq l0 x1_1 x5_1 = some r) ∧ Aside0 (kq ≤ k) ∧ Drawn0 w w')
  case atStart => exact ⟨(a1), (0), (by first | rfl | (simp; done) | (simp [*]; done)), (by first | rfl | (simp; done) | (simp [*]; done)), H', ⟨Nat.le_refl _⟩, by repeat (first | exact Drawn0.refl _ | apply Drawn0.step)⟩
  case round =>
    clear H'
    try clear c1
    try clear p2
    obtain ⟨x1_1, x5_1, rfl, rfl, HA, HK1, ⟨m1, rfl⟩⟩ := hrel
    cases gk with
    | zero => exact absurd HA.out (by simp [laws_heldKeeperHostS.l0])
    | succ k1 =>
      have H := HA.out
      clear HA
      simp only [laws_heldKeeperHostS.l0] at H
      by_cases c3 : x5_1 < (l0.length : Int)
      · rw [if_pos c3] at H
        have c3b0 : decide (x5_1 < (l0.length : Int)) = true := decide_eq_true c3
        clear c3
        by_cases c4 : 0 ≤ x5_1
        · rw [if_pos c4] at H
          have c4b0 : decide (0 ≤ x5_1) = true := decide_eq_true c4
          clear c4
          by_cases c5 : ((rd_T47 l0 x5_1).f0.f0.f0) = x1_1
          · rw [if_pos c5] at H
            have c5b0 : (((rd_T47 l0 x5_1).f0.f0.f0) == x1_1) = true := beq_iff_eq.mpr c5
            have c5b1 : (((rd_T47 l0 x5_1).f0.f0.f0) != x1_1) = false := bne_eq_false_iff_eq.mpr c5
            clear c5
            by_cases c6 : ((rd_T47 l0 x5_1).f0.f0.f1) = (wrap64 (x1_1 + 1))
            · rw [if_pos c6] at H
              have c6b0 : (((rd_T47 l0 x5_1).f0.f0.f1) == (wrap64 (x1_1 + 1))) = true := beq_iff_eq.mpr c6
              have c6b1 : (((rd_T47 l0 x5_1).f0.f0.f1) != (wrap64 (x1_1 + 1))) = false := bne_eq_false_iff_eq.mpr c6
              clear c6
              by_cases c7 : ((rd_T47 l0 x5_1).f0.f1) = (wrap64 ((wrap64 (x1_1 + 1)) + 1))
              · rw [if_pos c7] at H
                have c7b0 : (((rd_T47 l0 x5_1).f0.f1) == (wrap64 ((wrap64 (x1_1 + 1)) + 1))) = true := beq_iff_eq.mpr c7
                have c7b1 : (((rd_T47 l0 x5_1).f0.f1) != (wrap64 ((wrap64 (x1_1 + 1)) + 1))) = false := bne_eq_false_iff_eq.mpr c7
                clear c7
                by_cases c8 : ((rd_T47 l0 x5_1).f0.f2) = (wrap64 ((wrap64 ((wrap64 (x1_1 + 1)) + 1)) + 1))
                · rw [if_pos c8] at H
                  have c8b0 : (((rd_T47 l0 x5_1).f0.f2) == (wrap64 ((wrap64 ((wrap64 (x1_1 + 1)) + 1)) + 1))) = true := beq_iff_eq.mpr c8
                  have c8b1 : (((rd_T47 l0 x5_1).f0.f2) != (wrap64 ((wrap64 ((wrap64 (x1_1 + 1)) + 1)) + 1))) = false := bne_eq_false_iff_eq.mpr c8
                  clear c8
                  by_cases c9 : ((rd_T47 l0 x5_1).f0.f3) = (wrap64 ((wrap64 ((wrap64 ((wrap64 (x1_1 + 1)) + 1)) + 1)) + 1))
                  · rw [if_pos c9] at H
                    have c9b0 : (((rd_T47 l0 x5_1).f0.f3) == (wrap64 ((wrap64 ((wrap64 ((wrap64 (x1_1 + 1)) + 1)) + 1)) + 1))) = true := beq_iff_eq.mpr c9
                    have c9b1 : (((rd_T47 l0 x5_1).f0.f3) != (wrap64 ((wrap64 ((wrap64 ((wrap64 (x1_1 + 1)) + 1)) + 1)) + 1))) = false := bne_eq_false_iff_eq.mpr c9
                    clear c9
                    replace H := Option.bind_eq_some_iff.mp H
                    obtain ⟨t347, A100, H⟩ := H
                    replace H : (if t347 < 0 then (some (-1)) else (if ((rd_T47 l0 x5_1).f2) = t347 then (laws_heldKeeperHostS.l0 k1 l0 (wrap64 (t347 + 1)) (wrap64 (x5_1 + 1))) else (some (-1)))) = some r := H
                    have A10 := Aside0.mk A100
                    clear A100
                    have HC11 := Aside0.mk H
                    clear H
                    have p341 : 0 ≤ (x5_1 : Int) := of_decide_eq_true (by first | (with_reducible assumption) | assumption)
                    have q341 : x5_1 < (l0.length : Int) := of_decide_eq_true (by first | (with_reducible assumption) | assumption)
                    obtain ⟨ad341, A341_5, c341_5, e341, hx341_0, hx341_1, hx341_2, hx341_3, hx341_4, hx341_5, hx341_6, hl341_5, hi341_5⟩ := at_T47 HR0.out x5_1 p341 q341
                    cases e341
                    have HR341_5 := Aside0.mk hi341_5
                    have HC341_5 := Aside0.mk hl341_5
                    clear hi341_5 hl341_5
                    replace p341 := eq_true p341
                    replace q341 := eq_true q341
                    have p342 : 0 ≤ (x5_1 : Int) := of_decide_eq_true (by first | (with_reducible assumption) | assumption)
                    have q342 : x5_1 < (l0.length : Int) := of_decide_eq_true (by first | (with_reducible assumption) | assumption)
                    obtain ⟨ad342, A342_5, c342_5, e342, hx342_0, hx342_1, hx342_2, hx342_3, hx342_4, hx342_5, hx342_6, hl342_5, hi342_5⟩ := at_T47 HR0.out x5_1 p342 q342
                    obtain rfl : ad341 = ad342 := (by injection e342)
                    have HR342_5 := Aside0.mk hi342_5
                    have HC342_5 := Aside0.mk hl342_5
                    clear hi342_5 hl342_5
                    replace p342 := eq_true p342
                    replace q342 := eq_true q342
                    have ea_ := Option.some.inj (hx341_5.symm.trans hx342_5)
                    injection ea_ with ea_ en_ ec_
                    subst ea_
                    subst ec_
                    clear en_
                    have p343 : 0 ≤ (x5_1 : Int) := of_decide_eq_true (by first | (with_reducible assumption) | assumption)
                    have q343 : x5_1 < (l0.length : Int) := of_decide_eq_true (by first | (with_reducible assumption) | assumption)
                    obtain ⟨ad343, A343_5, c343_5, e343, hx343_0, hx343_1, hx343_2, hx343_3, hx343_4, hx343_5, hx343_6, hl343_5, hi343_5⟩ := at_T47 HR0.out x5_1 p343 q343
                    obtain rfl : ad341 = ad343 := (by injection e343)
                    have HR343_5 := Aside0.mk hi343_5
                    have HC343_5 := Aside0.mk hl343_5
                    clear hi343_5 hl343_5
                    replace p343 := eq_true p343
                    replace q343 := eq_true q343
                    have ea_ := Option.some.inj (hx341_5.symm.trans hx343_5)
                    injection ea_ with ea_ en_ ec_
                    subst ea_
                    subst ec_
                    clear en_
                    have p344 : 0 ≤ (x5_1 : Int) := of_decide_eq_true (by first | (with_reducible assumption) | assumption)
                    have q344 : x5_1 < (l0.length : Int) := of_decide_eq_true (by first | (with_reducible assumption) | assumption)
                    obtain ⟨ad344, A344_5, c344_5, e344, hx344_0, hx344_1, hx344_2, hx344_3, hx344_4, hx344_5, hx344_6, hl344_5, hi344_5⟩ := at_T47 HR0.out x5_1 p344 q344
                    obtain rfl : ad341 = ad344 := (by injection e344)
                    have HR344_5 := Aside0.mk hi344_5
                    have HC344_5 := Aside0.mk hl344_5
                    clear hi344_5 hl344_5
                    replace p344 := eq_true p344
                    replace q344 := eq_true q344
                    have ea_ := Option.some.inj (hx341_5.symm.trans hx344_5)
                    injection ea_ with ea_ en_ ec_
                    subst ea_
                    subst ec_
                    clear en_
                    have p345 : 0 ≤ (x5_1 : Int) := of_decide_eq_true (by first | (with_reducible assumption) | assumption)
                    have q345 : x5_1 < (l0.length : Int) := of_decide_eq_true (by first | (with_reducible assumption) | assumption)
                    obtain ⟨ad345, A345_5, c345_5, e345, hx345_0, hx345_1, hx345_2, hx345_3, hx345_4, hx345_5, hx345_6, hl345_5, hi345_5⟩ := at_T47 HR0.out x5_1 p345 q345
                    obtain rfl : ad341 = ad345 := (by injection e345)
                    have HR345_5 := Aside0.mk hi345_5
                    have HC345_5 := Aside0.mk hl345_5
                    clear hi345_5 hl345_5
                    replace p345 := eq_true p345
                    replace q345 := eq_true q345
                    have ea_ := Option.some.inj (hx341_5.symm.trans hx345_5)
                    injection ea_ with ea_ en_ ec_
                    subst ea_
                    subst ec_
                    clear en_
                    have p346 : 0 ≤ (x5_1 : Int) := of_decide_eq_true (by first | (with_reducible assumption) | assumption)
                    have q346 : x5_1 < (l0.length : Int) := of_decide_eq_true (by first | (with_reducible assumption) | assumption)
                    obtain ⟨ad346, A346_5, c346_5, e346, hx346_0, hx346_1, hx346_2, hx346_3, hx346_4, hx346_5, hx346_6, hl346_5, hi346_5⟩ := at_T47 HR0.out x5_1 p346 q346
                    obtain rfl : ad341 = ad346 := (by injection e346)
                    have HR346_5 := Aside0.mk hi346_5
                    have HC346_5 := Aside0.mk hl346_5
                    clear hi346_5 hl346_5
                    replace p346 := eq_true p346
                    replace q346 := eq_true q346
                    have ea_ := Option.some.inj (hx341_5.symm.trans hx346_5)
                    injection ea_ with ea_ en_ ec_
                    subst ea_
                    subst ec_
                    clear en_
                    go_upto_if 72 with (first | ((with_reducible refine gate_callee (f := 33) rfl ?_); refine goesL_ (some 70) rfl rfl Try.func33 (by kernel_rfl) rfl #[.slice A341_5 ((rd_T47 l0 x5_1).f1).length c341_5, .int .i64 (wrap64 ((wrap64 ((wrap64 ((wrap64 ((wrap64 (x1_1 + 1)) + 1)) + 1)) + 1)) + 1))] rfl (by (try simp only [List.map_toArray, List.map_cons, List.map_nil]); first | done | rfl | (simp only [List.length_drop, List.length_take]; rfl)) ?_; (with_reducible refine (laws_heldKeeperS.calls k1 _ _ ((rd_T47 l0 x5_1).f1) (wrap64 ((wrap64 ((wrap64 ((wrap64 ((wrap64 (x1_1 + 1)) + 1)) + 1)) + 1)) + 1)) t347 _ ?side1 ?side2 A10.out).mono ?_); (case side1 => repeat (first | exact HR346_5.out | (with_reducible refine Kd.C_alloc ?_ _) | (with_reducible refine Kd.C_drewN ?_ _) | (with_reducible refine Kd.C_drew ?_))); (case side2 => exact HC346_5.out); rintro e w' ⟨rfl, ⟨nd, rfl⟩⟩; refine ⟨_, rfl, ?_⟩))
                    (try simp only [Act.put, List.setIfInBounds_toArray, List.set_cons_zero, List.set_cons_succ])
                    have H := HC11.out
                    clear HC11
                    by_cases c12 : t347 < 0
                    · rw [if_pos c12] at H
                      have c12b0 : decide (t347 < 0) = true := decide_eq_true c12
                      clear c12
                      (first | rw [c12b0] | (simp only [i64_w, i32_w]; rw [c12b0]) | skip)
                      obtain rfl := Option.some.inj H
                      go_wp2
                      go_ret
                      exact ⟨by first | rfl | (simp; done) | (simp [*]; done), by repeat (first | exact Drawn0.refl _ | apply Drawn0.step)⟩
                    · rw [if_neg c12] at H
                      have c12b0 : decide (t347 < 0) = false := decide_eq_false c12
                      clear c12
                      (first | rw [c12b0] | (simp only [i64_w, i32_w]; rw [c12b0]) | skip)
                      by_cases c13 : ((rd_T47 l0 x5_1).f2) = t347
                      · rw [if_pos c13] at H
                        have c13b0 : (((rd_T47 l0 x5_1).f2) == t347) = true := beq_iff_eq.mpr c13
                        have c13b1 : (((rd_T47 l0 x5_1).f2) != t347) = false := bne_eq_false_iff_eq.mpr c13
                        clear c13
                        have H' := Aside0.mk H
                        clear H
                        have p348 : 0 ≤ (x5_1 : Int) := of_decide_eq_true (by first | (with_reducible assumption) | assumption)
                        have q348 : x5_1 < (l0.length : Int) := of_decide_eq_true (by first | (with_reducible assumption) | assumption)
                        obtain ⟨ad348, A348_5, c348_5, e348, hx348_0, hx348_1, hx348_2, hx348_3, hx348_4, hx348_5, hx348_6, hl348_5, hi348_5⟩ := at_T47 HR0.out x5_1 p348 q348
                        obtain rfl : ad341 = ad348 := (by injection e348)
                        have HR348_5 := Aside0.mk hi348_5
                        have HC348_5 := Aside0.mk hl348_5
                        clear hi348_5 hl348_5
                        replace p348 := eq_true p348
                        replace q348 := eq_true q348
                        go_wp2
                        go_roundg k1
                        case measure => have := HK1.out; omega
                        case rel => exact ⟨(wrap64 (t347 + 1)), (wrap64 (x5_1 + 1)), (by first | rfl | (simp; done) | (simp [*]; done)), (by first | rfl | (simp; done) | (simp [*]; done)), H', ⟨by have := HK1.out; omega⟩, by repeat (first | exact Drawn0.refl _ | apply Drawn0.step)⟩
                      · rw [if_neg c13] at H
                        have c13b0 : (((rd_T47 l0 x5_1).f2) == t347) = false := beq_eq_false_iff_ne.mpr c13
                        have c13b1 : (((rd_T47 l0 x5_1).f2) != t347) = true := bne_iff_ne.mpr c13
                        obtain rfl := Option.some.inj H
                        have p348 : 0 ≤ (x5_1 : Int) := of_decide_eq_true (by first | (with_reducible assumption) | assumption)
                        have q348 : x5_1 < (l0.length : Int) := of_decide_eq_true (by first | (with_reducible assumption) | assumption)
                        obtain ⟨ad348, A348_5, c348_5, e348, hx348_0, hx348_1, hx348_2, hx348_3, hx348_4, hx348_5, hx348_6, hl348_5, hi348_5⟩ := at_T47 HR0.out x5_1 p348 q348
                        obtain rfl : ad341 = ad348 := (by injection e348)
                        have HR348_5 := Aside0.mk hi348_5
                        have HC348_5 := Aside0.mk hl348_5
                        clear hi348_5 hl348_5
                        replace p348 := eq_true p348
                        replace q348 := eq_true q348
                        go_wp2
                        go_ret
                        exact ⟨by first | rfl | (simp; done) | (simp [*]; done), by repeat (first | exact Drawn0.refl _ | apply Drawn0.step)⟩
                  · rw [if_neg c9] at H
                    have c9b0 : (((rd_T47 l0 x5_1).f0.f3) == (wrap64 ((wrap64 ((wrap64 ((wrap64 (x1_1 + 1)) + 1)) + 1)) + 1))) = false := beq_eq_false_iff_ne.mpr c9
                    have c9b1 : (((rd_T47 l0 x5_1).f0.f3) != (wrap64 ((wrap64 ((wrap64 ((wrap64 (x1_1 + 1)) + 1)) + 1)) + 1))) = true := bne_iff_ne.mpr c9
                    obtain rfl := Option.some.inj H
                    have p341 : 0 ≤ (x5_1 : Int) := of_decide_eq_true (by first | (with_reducible assumption) | assumption)
                    have q341 : x5_1 < (l0.length : Int) := of_decide_eq_true (by first | (with_reducible assumption) | assumption)
                    obtain ⟨ad341, A341_5, c341_5, e341, hx341_0, hx341_1, hx341_2, hx341_3, hx341_4, hx341_5, hx341_6, hl341_5, hi341_5⟩ := at_T47 HR0.out x5_1 p341 q341
                    cases e341
                    have HR341_5 := Aside0.mk hi341_5
                    have HC341_5 := Aside0.mk hl341_5
                    clear hi341_5 hl341_5
                    replace p341 := eq_true p341
                    replace q341 := eq_true q341
                    have p342 : 0 ≤ (x5_1 : Int) := of_decide_eq_true (by first | (with_reducible assumption) | assumption)
                    have q342 : x5_1 < (l0.length : Int) := of_decide_eq_true (by first | (with_reducible assumption) | assumption)
                    obtain ⟨ad342, A342_5, c342_5, e342, hx342_0, hx342_1, hx342_2, hx342_3, hx342_4, hx342_5, hx342_6, hl342_5, hi342_5⟩ := at_T47 HR0.out x5_1 p342 q342
                    obtain rfl : ad341 = ad342 := (by injection e342)
                    have HR342_5 := Aside0.mk hi342_5
                    have HC342_5 := Aside0.mk hl342_5
                    clear hi342_5 hl342_5
                    replace p342 := eq_true p342
                    replace q342 := eq_true q342
                    have ea_ := Option.some.inj (hx341_5.symm.trans hx342_5)
                    injection ea_ with ea_ en_ ec_
                    subst ea_
                    subst ec_
                    clear en_
                    have p343 : 0 ≤ (x5_1 : Int) := of_decide_eq_true (by first | (with_reducible assumption) | assumption)
                    have q343 : x5_1 < (l0.length : Int) := of_decide_eq_true (by first | (with_reducible assumption) | assumption)
                    obtain ⟨ad343, A343_5, c343_5, e343, hx343_0, hx343_1, hx343_2, hx343_3, hx343_4, hx343_5, hx343_6, hl343_5, hi343_5⟩ := at_T47 HR0.out x5_1 p343 q343
                    obtain rfl : ad341 = ad343 := (by injection e343)
                    have HR343_5 := Aside0.mk hi343_5
                    have HC343_5 := Aside0.mk hl343_5
                    clear hi343_5 hl343_5
                    replace p343 := eq_true p343
                    replace q343 := eq_true q343
                    have ea_ := Option.some.inj (hx341_5.symm.trans hx343_5)
                    injection ea_ with ea_ en_ ec_
                    subst ea_
                    subst ec_
                    clear en_
                    have p344 : 0 ≤ (x5_1 : Int) := of_decide_eq_true (by first | (with_reducible assumption) | assumption)
                    have q344 : x5_1 < (l0.length : Int) := of_decide_eq_true (by first | (with_reducible assumption) | assumption)
                    obtain ⟨ad344, A344_5, c344_5, e344, hx344_0, hx344_1, hx344_2, hx344_3, hx344_4, hx344_5, hx344_6, hl344_5, hi344_5⟩ := at_T47 HR0.out x5_1 p344 q344
                    obtain rfl : ad341 = ad344 := (by injection e344)
                    have HR344_5 := Aside0.mk hi344_5
                    have HC344_5 := Aside0.mk hl344_5
                    clear hi344_5 hl344_5
                    replace p344 := eq_true p344
                    replace q344 := eq_true q344
                    have ea_ := Option.some.inj (hx341_5.symm.trans hx344_5)
                    injection ea_ with ea_ en_ ec_
                    subst ea_
                    subst ec_
                    clear en_
                    have p345 : 0 ≤ (x5_1 : Int) := of_decide_eq_true (by first | (with_reducible assumption) | assumption)
                    have q345 : x5_1 < (l0.length : Int) := of_decide_eq_true (by first | (with_reducible assumption) | assumption)
                    obtain ⟨ad345, A345_5, c345_5, e345, hx345_0, hx345_1, hx345_2, hx345_3, hx345_4, hx345_5, hx345_6, hl345_5, hi345_5⟩ := at_T47 HR0.out x5_1 p345 q345
                    obtain rfl : ad341 = ad345 := (by injection e345)
                    have HR345_5 := Aside0.mk hi345_5
                    have HC345_5 := Aside0.mk hl345_5
                    clear hi345_5 hl345_5
                    replace p345 := eq_true p345
                    replace q345 := eq_true q345
                    have ea_ := Option.some.inj (hx341_5.symm.trans hx345_5)
                    injection ea_ with ea_ en_ ec_
                    subst ea_
                    subst ec_
                    clear en_
                    go_wp2
                    go_ret
                    exact ⟨by first | rfl | (simp; done) | (simp [*]; done), by repeat (first | exact Drawn0.refl _ | apply Drawn0.step)⟩
                · rw [if_neg c8] at H
                  have c8b0 : (((rd_T47 l0 x5_1).f0.f2) == (wrap64 ((wrap64 ((wrap64 (x1_1 + 1)) + 1)) + 1))) = false := beq_eq_false_iff_ne.mpr c8
                  have c8b1 : (((rd_T47 l0 x5_1).f0.f2) != (wrap64 ((wrap64 ((wrap64 (x1_1 + 1)) + 1)) + 1))) = true := bne_iff_ne.mpr c8
                  obtain rfl := Option.some.inj H
                  have p341 : 0 ≤ (x5_1 : Int) := of_decide_eq_true (by first | (with_reducible assumption) | assumption)
                  have q341 : x5_1 < (l0.length : Int) := of_decide_eq_true (by first | (with_reducible assumption) | assumption)
                  obtain ⟨ad341, A341_5, c341_5, e341, hx341_0, hx341_1, hx341_2, hx341_3, hx341_4, hx341_5, hx341_6, hl341_5, hi341_5⟩ := at_T47 HR0.out x5_1 p341 q341
                  cases e341
                  have HR341_5 := Aside0.mk hi341_5
                  have HC341_5 := Aside0.mk hl341_5
                  clear hi341_5 hl341_5
                  replace p341 := eq_true p341
                  replace q341 := eq_true q341
                  have p342 : 0 ≤ (x5_1 : Int) := of_decide_eq_true (by first | (with_reducible assumption) | assumption)
                  have q342 : x5_1 < (l0.length : Int) := of_decide_eq_true (by first | (with_reducible assumption) | assumption)
                  obtain ⟨ad342, A342_5, c342_5, e342, hx342_0, hx342_1, hx342_2, hx342_3, hx342_4, hx342_5, hx342_6, hl342_5, hi342_5⟩ := at_T47 HR0.out x5_1 p342 q342
                  obtain rfl : ad341 = ad342 := (by injection e342)
                  have HR342_5 := Aside0.mk hi342_5
                  have HC342_5 := Aside0.mk hl342_5
                  clear hi342_5 hl342_5
                  replace p342 := eq_true p342
                  replace q342 := eq_true q342
                  have ea_ := Option.some.inj (hx341_5.symm.trans hx342_5)
                  injection ea_ with ea_ en_ ec_
                  subst ea_
                  subst ec_
                  clear en_
                  have p343 : 0 ≤ (x5_1 : Int) := of_decide_eq_true (by first | (with_reducible assumption) | assumption)
                  have q343 : x5_1 < (l0.length : Int) := of_decide_eq_true (by first | (with_reducible assumption) | assumption)
                  obtain ⟨ad343, A343_5, c343_5, e343, hx343_0, hx343_1, hx343_2, hx343_3, hx343_4, hx343_5, hx343_6, hl343_5, hi343_5⟩ := at_T47 HR0.out x5_1 p343 q343
                  obtain rfl : ad341 = ad343 := (by injection e343)
                  have HR343_5 := Aside0.mk hi343_5
                  have HC343_5 := Aside0.mk hl343_5
                  clear hi343_5 hl343_5
                  replace p343 := eq_true p343
                  replace q343 := eq_true q343
                  have ea_ := Option.some.inj (hx341_5.symm.trans hx343_5)
                  injection ea_ with ea_ en_ ec_
                  subst ea_
                  subst ec_
                  clear en_
                  have p344 : 0 ≤ (x5_1 : Int) := of_decide_eq_true (by first | (with_reducible assumption) | assumption)
                  have q344 : x5_1 < (l0.length : Int) := of_decide_eq_true (by first | (with_reducible assumption) | assumption)
                  obtain ⟨ad344, A344_5, c344_5, e344, hx344_0, hx344_1, hx344_2, hx344_3, hx344_4, hx344_5, hx344_6, hl344_5, hi344_5⟩ := at_T47 HR0.out x5_1 p344 q344
                  obtain rfl : ad341 = ad344 := (by injection e344)
                  have HR344_5 := Aside0.mk hi344_5
                  have HC344_5 := Aside0.mk hl344_5
                  clear hi344_5 hl344_5
                  replace p344 := eq_true p344
                  replace q344 := eq_true q344
                  have ea_ := Option.some.inj (hx341_5.symm.trans hx344_5)
                  injection ea_ with ea_ en_ ec_
                  subst ea_
                  subst ec_
                  clear en_
                  go_wp2
                  go_ret
                  exact ⟨by first | rfl | (simp; done) | (simp [*]; done), by repeat (first | exact Drawn0.refl _ | apply Drawn0.step)⟩
              · rw [if_neg c7] at H
                have c7b0 : (((rd_T47 l0 x5_1).f0.f1) == (wrap64 ((wrap64 (x1_1 + 1)) + 1))) = false := beq_eq_false_iff_ne.mpr c7
                have c7b1 : (((rd_T47 l0 x5_1).f0.f1) != (wrap64 ((wrap64 (x1_1 + 1)) + 1))) = true := bne_iff_ne.mpr c7
                obtain rfl := Option.some.inj H
                have p341 : 0 ≤ (x5_1 : Int) := of_decide_eq_true (by first | (with_reducible assumption) | assumption)
                have q341 : x5_1 < (l0.length : Int) := of_decide_eq_true (by first | (with_reducible assumption) | assumption)
                obtain ⟨ad341, A341_5, c341_5, e341, hx341_0, hx341_1, hx341_2, hx341_3, hx341_4, hx341_5, hx341_6, hl341_5, hi341_5⟩ := at_T47 HR0.out x5_1 p341 q341
                cases e341
                have HR341_5 := Aside0.mk hi341_5
                have HC341_5 := Aside0.mk hl341_5
                clear hi341_5 hl341_5
                replace p341 := eq_true p341
                replace q341 := eq_true q341
                have p342 : 0 ≤ (x5_1 : Int) := of_decide_eq_true (by first | (with_reducible assumption) | assumption)
                have q342 : x5_1 < (l0.length : Int) := of_decide_eq_true (by first | (with_reducible assumption) | assumption)
                obtain ⟨ad342, A342_5, c342_5, e342, hx342_0, hx342_1, hx342_2, hx342_3, hx342_4, hx342_5, hx342_6, hl342_5, hi342_5⟩ := at_T47 HR0.out x5_1 p342 q342
                obtain rfl : ad341 = ad342 := (by injection e342)
                have HR342_5 := Aside0.mk hi342_5
                have HC342_5 := Aside0.mk hl342_5
                clear hi342_5 hl342_5
                replace p342 := eq_true p342
                replace q342 := eq_true q342
                have ea_ := Option.some.inj (hx341_5.symm.trans hx342_5)
                injection ea_ with ea_ en_ ec_
                subst ea_
                subst ec_
                clear en_
                have p343 : 0 ≤ (x5_1 : Int) := of_decide_eq_true (by first | (with_reducible assumption) | assumption)
                have q343 : x5_1 < (l0.length : Int) := of_decide_eq_true (by first | (with_reducible assumption) | assumption)
                obtain ⟨ad343, A343_5, c343_5, e343, hx343_0, hx343_1, hx343_2, hx343_3, hx343_4, hx343_5, hx343_6, hl343_5, hi343_5⟩ := at_T47 HR0.out x5_1 p343 q343
                obtain rfl : ad341 = ad343 := (by injection e343)
                have HR343_5 := Aside0.mk hi343_5
                have HC343_5 := Aside0.mk hl343_5
                clear hi343_5 hl343_5
                replace p343 := eq_true p343
                replace q343 := eq_true q343
                have ea_ := Option.some.inj (hx341_5.symm.trans hx343_5)
                injection ea_ with ea_ en_ ec_
                subst ea_
                subst ec_
                clear en_
                go_wp2
                go_ret
                exact ⟨by first | rfl | (simp; done) | (simp [*]; done), by repeat (first | exact Drawn0.refl _ | apply Drawn0.step)⟩
            · rw [if_neg c6] at H
              have c6b0 : (((rd_T47 l0 x5_1).f0.f0.f1) == (wrap64 (x1_1 + 1))) = false := beq_eq_false_iff_ne.mpr c6
              have c6b1 : (((rd_T47 l0 x5_1).f0.f0.f1) != (wrap64 (x1_1 + 1))) = true := bne_iff_ne.mpr c6
              obtain rfl := Option.some.inj H
              have p341 : 0 ≤ (x5_1 : Int) := of_decide_eq_true (by first | (with_reducible assumption) | assumption)
              have q341 : x5_1 < (l0.length : Int) := of_decide_eq_true (by first | (with_reducible assumption) | assumption)
              obtain ⟨ad341, A341_5, c341_5, e341, hx341_0, hx341_1, hx341_2, hx341_3, hx341_4, hx341_5, hx341_6, hl341_5, hi341_5⟩ := at_T47 HR0.out x5_1 p341 q341
              cases e341
              have HR341_5 := Aside0.mk hi341_5
              have HC341_5 := Aside0.mk hl341_5
              clear hi341_5 hl341_5
              replace p341 := eq_true p341
              replace q341 := eq_true q341
              have p342 : 0 ≤ (x5_1 : Int) := of_decide_eq_true (by first | (with_reducible assumption) | assumption)
              have q342 : x5_1 < (l0.length : Int) := of_decide_eq_true (by first | (with_reducible assumption) | assumption)
              obtain ⟨ad342, A342_5, c342_5, e342, hx342_0, hx342_1, hx342_2, hx342_3, hx342_4, hx342_5, hx342_6, hl342_5, hi342_5⟩ := at_T47 HR0.out x5_1 p342 q342
              obtain rfl : ad341 = ad342 := (by injection e342)
              have HR342_5 := Aside0.mk hi342_5
              have HC342_5 := Aside0.mk hl342_5
              clear hi342_5 hl342_5
              replace p342 := eq_true p342
              replace q342 := eq_true q342
              have ea_ := Option.some.inj (hx341_5.symm.trans hx342_5)
              injection ea_ with ea_ en_ ec_
              subst ea_
              subst ec_
              clear en_
              go_wp2
              go_ret
              exact ⟨by first | rfl | (simp; done) | (simp [*]; done), by repeat (first | exact Drawn0.refl _ | apply Drawn0.step)⟩
          · rw [if_neg c5] at H
            have c5b0 : (((rd_T47 l0 x5_1).f0.f0.f0) == x1_1) = false := beq_eq_false_iff_ne.mpr c5
            have c5b1 : (((rd_T47 l0 x5_1).f0.f0.f0) != x1_1) = true := bne_iff_ne.mpr c5
            obtain rfl := Option.some.inj H
            have p341 : 0 ≤ (x5_1 : Int) := of_decide_eq_true (by first | (with_reducible assumption) | assumption)
            have q341 : x5_1 < (l0.length : Int) := of_decide_eq_true (by first | (with_reducible assumption) | assumption)
            obtain ⟨ad341, A341_5, c341_5, e341, hx341_0, hx341_1, hx341_2, hx341_3, hx341_4, hx341_5, hx341_6, hl341_5, hi341_5⟩ := at_T47 HR0.out x5_1 p341 q341
            cases e341
            have HR341_5 := Aside0.mk hi341_5
            have HC341_5 := Aside0.mk hl341_5
            clear hi341_5 hl341_5
            replace p341 := eq_true p341
            replace q341 := eq_true q341
            go_wp2
            go_ret
            exact ⟨by first | rfl | (simp; done) | (simp [*]; done), by repeat (first | exact Drawn0.refl _ | apply Drawn0.step)⟩
        · rw [if_neg c4] at H
          exact absurd H (by simp)
      · rw [if_neg c3] at H
        have c3b0 : decide (x5_1 < (l0.length : Int)) = false := decide_eq_false c3
        clear c3
        obtain rfl := Option.some.inj H
        go_wp2
        go_ret
        exact ⟨by first | rfl | (simp; done) | (simp [*]; done), by repeat (first | exact Drawn0.refl _ | apply Drawn0.step)⟩


/-! ### what a law's walk needs: rows by intervals of blocks -/
theorem lk_R {α : Type} {d : Kd α} {e b n1 a : Nat} {ok : Nat → Prop} {w' : World} {v : Value} {xs : List α} (h : d.R e w' n1 ok v xs) (ha : a ≤ n1) (hb : b ≤ n1) : ∃ ok' : Nat → Prop, d.R e w' b ok' v xs ∧ ∀ k, ok' k → (a ≤ k ∧ k < w'.heap.size) ∧ ok k :=
  ⟨_, Kd.R_lower (Kd.R_bound h) hb, fun _ hk => ⟨⟨Nat.le_trans ha hk.2.1, hk.2.2.1⟩, hk.1⟩⟩
theorem lk_S {α : Type} {d : Kd α} {e b n1 a : Nat} {ok : Nat → Prop} {w' : World} {v : Value} {xs : List α} (h : Kd.S d e w' n1 ok v xs) (ha : a ≤ n1) (hb : b ≤ n1) : ∃ ok' : Nat → Prop, Kd.S d e w' b ok' v xs ∧ ∀ k, ok' k → (a ≤ k ∧ k < w'.heap.size) ∧ ok k :=
  ⟨_, Kd.S_lower (Kd.S_bound h) hb, fun _ hk => ⟨⟨Nat.le_trans ha hk.2.1, hk.2.2.1⟩, hk.1⟩⟩
theorem lk_Ri {α : Type} {d : Kd α} {e b : Nat} {ok : Nat → Prop} {w' : World} {v : Value} {xs : List α} (h : d.R e w' b ok v xs) : ∃ ok' : Nat → Prop, d.R e w' b ok' v xs ∧ ∀ k, ok' k → k < w'.heap.size ∧ ok k :=
  ⟨_, Kd.R_bound h, fun _ hk => ⟨hk.2.2.1, hk.1⟩⟩
theorem lk_Si {α : Type} {d : Kd α} {e b : Nat} {ok : Nat → Prop} {w' : World} {v : Value} {xs : List α} (h : Kd.S d e w' b ok v xs) : ∃ ok' : Nat → Prop, Kd.S d e w' b ok' v xs ∧ ∀ k, ok' k → k < w'.heap.size ∧ ok k :=
  ⟨_, Kd.S_bound h, fun _ hk => ⟨hk.2.2.1, hk.1⟩⟩
theorem lk_c2 {w : World} {g : Nat} {t : TypeId} {v0 v1 : Value} (h : w.heap[g]? = some (.cells #[v0, v1] t (0, 0))) : w.cell? ⟨g, 0, none⟩ = some v0 ∧ w.cell? ⟨g, 1, none⟩ = some v1 ∧ w.frozen? ⟨g, 0, none⟩ = false ∧ w.frozen? ⟨g, 1, none⟩ = false := ⟨(blk_cell h 0).trans rfl, (blk_cell h 1).trans rfl, blk_frozen h 0, blk_frozen h 1⟩
theorem lk_c3 {w : World} {g : Nat} {t : TypeId} {v0 v1 v2 : Value} (h : w.heap[g]? = some (.cells #[v0, v1, v2] t (0, 0))) : w.cell? ⟨g, 0, none⟩ = some v0 ∧ w.cell? ⟨g, 1, none⟩ = some v1 ∧ w.cell? ⟨g, 2, none⟩ = some v2 ∧ w.frozen? ⟨g, 0, none⟩ = false ∧ w.frozen? ⟨g, 1, none⟩ = false ∧ w.frozen? ⟨g, 2, none⟩ = false := ⟨(blk_cell h 0).trans rfl, (blk_cell h 1).trans rfl, (blk_cell h 2).trans rfl, blk_frozen h 0, blk_frozen h 1, blk_frozen h 2⟩
theorem lk_c4 {w : World} {g : Nat} {t : TypeId} {v0 v1 v2 v3 : Value} (h : w.heap[g]? = some (.cells #[v0, v1, v2, v3] t (0, 0))) : w.cell? ⟨g, 0, none⟩ = some v0 ∧ w.cell? ⟨g, 1, none⟩ = some v1 ∧ w.cell? ⟨g, 2, none⟩ = some v2 ∧ w.cell? ⟨g, 3, none⟩ = some v3 ∧ w.frozen? ⟨g, 0, none⟩ = false ∧ w.frozen? ⟨g, 1, none⟩ = false ∧ w.frozen? ⟨g, 2, none⟩ = false ∧ w.frozen? ⟨g, 3, none⟩ = false := ⟨(blk_cell h 0).trans rfl, (blk_cell h 1).trans rfl, (blk_cell h 2).trans rfl, (blk_cell h 3).trans rfl, blk_frozen h 0, blk_frozen h 1, blk_frozen h 2, blk_frozen h 3⟩
theorem lk_c5 {w : World} {g : Nat} {t : TypeId} {v0 v1 v2 v3 v4 : Value} (h : w.heap[g]? = some (.cells #[v0, v1, v2, v3, v4] t (0, 0))) : w.cell? ⟨g, 0, none⟩ = some v0 ∧ w.cell? ⟨g, 1, none⟩ = some v1 ∧ w.cell? ⟨g, 2, none⟩ = some v2 ∧ w.cell? ⟨g, 3, none⟩ = some v3 ∧ w.cell? ⟨g, 4, none⟩ = some v4 ∧ w.frozen? ⟨g, 0, none⟩ = false ∧ w.frozen? ⟨g, 1, none⟩ = false ∧ w.frozen? ⟨g, 2, none⟩ = false ∧ w.frozen? ⟨g, 3, none⟩ = false ∧ w.frozen? ⟨g, 4, none⟩ = false := ⟨(blk_cell h 0).trans rfl, (blk_cell h 1).trans rfl, (blk_cell h 2).trans rfl, (blk_cell h 3).trans rfl, (blk_cell h 4).trans rfl, blk_frozen h 0, blk_frozen h 1, blk_frozen h 2, blk_frozen h 3, blk_frozen h 4⟩
theorem lk_c6 {w : World} {g : Nat} {t : TypeId} {v0 v1 v2 v3 v4 v5 : Value} (h : w.heap[g]? = some (.cells #[v0, v1, v2, v3, v4, v5] t (0, 0))) : w.cell? ⟨g, 0, none⟩ = some v0 ∧ w.cell? ⟨g, 1, none⟩ = some v1 ∧ w.cell? ⟨g, 2, none⟩ = some v2 ∧ w.cell? ⟨g, 3, none⟩ = some v3 ∧ w.cell? ⟨g, 4, none⟩ = some v4 ∧ w.cell? ⟨g, 5, none⟩ = some v5 ∧ w.frozen? ⟨g, 0, none⟩ = false ∧ w.frozen? ⟨g, 1, none⟩ = false ∧ w.frozen? ⟨g, 2, none⟩ = false ∧ w.frozen? ⟨g, 3, none⟩ = false ∧ w.frozen? ⟨g, 4, none⟩ = false ∧ w.frozen? ⟨g, 5, none⟩ = false := ⟨(blk_cell h 0).trans rfl, (blk_cell h 1).trans rfl, (blk_cell h 2).trans rfl, (blk_cell h 3).trans rfl, (blk_cell h 4).trans rfl, (blk_cell h 5).trans rfl, blk_frozen h 0, blk_frozen h 1, blk_frozen h 2, blk_frozen h 3, blk_frozen h 4, blk_frozen h 5⟩
theorem lk_c7 {w : World} {g : Nat} {t : TypeId} {v0 v1 v2 v3 v4 v5 v6 : Value} (h : w.heap[g]? = some (.cells #[v0, v1, v2, v3, v4, v5, v6] t (0, 0))) : w.cell? ⟨g, 0, none⟩ = some v0 ∧ w.cell? ⟨g, 1, none⟩ = some v1 ∧ w.cell? ⟨g, 2, none⟩ = some v2 ∧ w.cell? ⟨g, 3, none⟩ = some v3 ∧ w.cell? ⟨g, 4, none⟩ = some v4 ∧ w.cell? ⟨g, 5, none⟩ = some v5 ∧ w.cell? ⟨g, 6, none⟩ = some v6 ∧ w.frozen? ⟨g, 0, none⟩ = false ∧ w.frozen? ⟨g, 1, none⟩ = false ∧ w.frozen? ⟨g, 2, none⟩ = false ∧ w.frozen? ⟨g, 3, none⟩ = false ∧ w.frozen? ⟨g, 4, none⟩ = false ∧ w.frozen? ⟨g, 5, none⟩ = false ∧ w.frozen? ⟨g, 6, none⟩ = false := ⟨(blk_cell h 0).trans rfl, (blk_cell h 1).trans rfl, (blk_cell h 2).trans rfl, (blk_cell h 3).trans rfl, (blk_cell h 4).trans rfl, (blk_cell h 5).trans rfl, (blk_cell h 6).trans rfl, blk_frozen h 0, blk_frozen h 1, blk_frozen h 2, blk_frozen h 3, blk_frozen h 4, blk_frozen h 5, blk_frozen h 6⟩
theorem lk_c9 {w : World} {g : Nat} {t : TypeId} {v0 v1 v2 v3 v4 v5 v6 v7 v8 : Value} (h : w.heap[g]? = some (.cells #[v0, v1, v2, v3, v4, v5, v6, v7, v8] t (0, 0))) : w.cell? ⟨g, 0, none⟩ = some v0 ∧ w.cell? ⟨g, 1, none⟩ = some v1 ∧ w.cell? ⟨g, 2, none⟩ = some v2 ∧ w.cell? ⟨g, 3, none⟩ = some v3 ∧ w.cell? ⟨g, 4, none⟩ = some v4 ∧ w.cell? ⟨g, 5, none⟩ = some v5 ∧ w.cell? ⟨g, 6, none⟩ = some v6 ∧ w.cell? ⟨g, 7, none⟩ = some v7 ∧ w.cell? ⟨g, 8, none⟩ = some v8 ∧ w.frozen? ⟨g, 0, none⟩ = false ∧ w.frozen? ⟨g, 1, none⟩ = false ∧ w.frozen? ⟨g, 2, none⟩ = false ∧ w.frozen? ⟨g, 3, none⟩ = false ∧ w.frozen? ⟨g, 4, none⟩ = false ∧ w.frozen? ⟨g, 5, none⟩ = false ∧ w.frozen? ⟨g, 6, none⟩ = false ∧ w.frozen? ⟨g, 7, none⟩ = false ∧ w.frozen? ⟨g, 8, none⟩ = false := ⟨(blk_cell h 0).trans rfl, (blk_cell h 1).trans rfl, (blk_cell h 2).trans rfl, (blk_cell h 3).trans rfl, (blk_cell h 4).trans rfl, (blk_cell h 5).trans rfl, (blk_cell h 6).trans rfl, (blk_cell h 7).trans rfl, (blk_cell h 8).trans rfl, blk_frozen h 0, blk_frozen h 1, blk_frozen h 2, blk_frozen h 3, blk_frozen h 4, blk_frozen h 5, blk_frozen h 6, blk_frozen h 7, blk_frozen h 8⟩
theorem lk_c10 {w : World} {g : Nat} {t : TypeId} {v0 v1 v2 v3 v4 v5 v6 v7 v8 v9 : Value} (h : w.heap[g]? = some (.cells #[v0, v1, v2, v3, v4, v5, v6, v7, v8, v9] t (0, 0))) : w.cell? ⟨g, 0, none⟩ = some v0 ∧ w.cell? ⟨g, 1, none⟩ = some v1 ∧ w.cell? ⟨g, 2, none⟩ = some v2 ∧ w.cell? ⟨g, 3, none⟩ = some v3 ∧ w.cell? ⟨g, 4, none⟩ = some v4 ∧ w.cell? ⟨g, 5, none⟩ = some v5 ∧ w.cell? ⟨g, 6, none⟩ = some v6 ∧ w.cell? ⟨g, 7, none⟩ = some v7 ∧ w.cell? ⟨g, 8, none⟩ = some v8 ∧ w.cell? ⟨g, 9, none⟩ = some v9 ∧ w.frozen? ⟨g, 0, none⟩ = false ∧ w.frozen? ⟨g, 1, none⟩ = false ∧ w.frozen? ⟨g, 2, none⟩ = false ∧ w.frozen? ⟨g, 3, none⟩ = false ∧ w.frozen? ⟨g, 4, none⟩ = false ∧ w.frozen? ⟨g, 5, none⟩ = false ∧ w.frozen? ⟨g, 6, none⟩ = false ∧ w.frozen? ⟨g, 7, none⟩ = false ∧ w.frozen? ⟨g, 8, none⟩ = false ∧ w.frozen? ⟨g, 9, none⟩ = false := ⟨(blk_cell h 0).trans rfl, (blk_cell h 1).trans rfl, (blk_cell h 2).trans rfl, (blk_cell h 3).trans rfl, (blk_cell h 4).trans rfl, (blk_cell h 5).trans rfl, (blk_cell h 6).trans rfl, (blk_cell h 7).trans rfl, (blk_cell h 8).trans rfl, (blk_cell h 9).trans rfl, blk_frozen h 0, blk_frozen h 1, blk_frozen h 2, blk_frozen h 3, blk_frozen h 4, blk_frozen h 5, blk_frozen h 6, blk_frozen h 7, blk_frozen h 8, blk_frozen h 9⟩
/-! ### laws_FnExactMakeVault: function 3 -/
def laws_FnExactMakeVault.f (k : Nat) (a0 : Int) (a1 : Int) (a2 : Int) (a3 : Int) (l4 : List Int) (a5 : Int) (a6 : Int) : Option (Bool) := if (l4.length : Int) > 1048576 then (some true) else ((laws_toIntS.f k l4).bind fun t349 => ((spec_MakeVault.f k a0 a1 a2 a3 t349 a5 a6).bind fun bt352 => ((laws_toIntS.f k l4).bind fun t361 => ((impl_MakeVault.f k a0 a1 a2 a3 t361 a5 a6).bind fun bt364 => ((laws_eqVault.f bt364.1 bt364.2.1 bt364.2.2.1 bt364.2.2.2.1 bt352.1 bt352.2.1 bt352.2.2.1 bt352.2.2.2.1).bind fun t373 => (if t373 = true then ((laws_eqKeeperHostS.f k bt364.2.2.2.2.1 bt352.2.2.2.2.1).bind fun t374 => (if t374 = true then (if (bt364.2.2.2.2.2 != bt352.2.2.2.2.2) = true then (some false) else ((laws_toIntS.f k l4).bind fun t375 => ((laws_eqIntS.f k t361 t375).bind fun t378 => (if t378 = true then ((laws_markIntS.f k t361 1).bind fun bt379 => (if bt379.1 < 0 then (some false) else ((laws_eqVault.f bt364.1 bt364.2.1 bt364.2.2.1 bt364.2.2.2.1 bt352.1 bt352.2.1 bt352.2.2.1 bt352.2.2.2.1).bind fun t381 => (if t381 = true then ((laws_eqKeeperHostS.f k bt364.2.2.2.2.1 bt352.2.2.2.2.1).bind fun t382 => (if t382 = true then ((laws_markKeeperHostS.f k bt364.2.2.2.2.1 1).bind fun bt383 => ((laws_heldKeeperHostS.f k bt383.2 1).bind fun t385 => (if t385 < 0 then (some false) else (if t385 = bt383.1 then ((laws_toIntS.f k l4).bind fun t386 => ((impl_MakeVault.f k a0 a1 a2 a3 t386 a5 a6).bind fun bt389 => ((laws_eqVault.f bt389.1 bt389.2.1 bt389.2.2.1 bt389.2.2.2.1 bt352.1 bt352.2.1 bt352.2.2.1 bt352.2.2.2.1).bind fun t398 => (if t398 = true then ((laws_eqKeeperHostS.f k bt389.2.2.2.2.1 bt352.2.2.2.2.1).bind fun t399 => (if t399 = true then (if (bt389.2.2.2.2.2 != bt352.2.2.2.2.2) = true then (some false) else ((laws_heldKeeperHostS.f k bt383.2 1).bind fun t400 => (if t400 < 0 then (some false) else (if t400 = bt383.1 then (some true) else (some false))))) else (some false))) else (some false))))) else (some false))))) else (some false))) else (some false))))) else (some false))))) else (some false))) else (some false)))))))
theorem laws_FnExactMakeVault.mono : ∀ a0 a1 a2 a3 a4 a5 a6 k, LeO (laws_FnExactMakeVault.f k a0 a1 a2 a3 a4 a5 a6) (laws_FnExactMakeVault.f (k + 1) a0 a1 a2 a3 a4 a5 a6) := by
  intro a0 a1 a2 a3 a4 a5 a6 k
  unfold laws_FnExactMakeVault.f
  repeat' first
      | (with_reducible exact impl_MakeVault.mono _ _ _ _ _ _ _ _)
      | (with_reducible exact laws_eqIntS.mono _ _ _)
      | (with_reducible exact laws_eqKeeperHostS.mono _ _ _)
      | (with_reducible exact laws_heldKeeperHostS.mono _ _ _)
      | (with_reducible exact laws_markIntS.mono _ _ _)
      | (with_reducible exact laws_markKeeperHostS.mono _ _ _)
      | (with_reducible exact laws_toIntS.mono _ _)
      | (with_reducible exact spec_MakeVault.mono _ _ _ _ _ _ _ _)
      | (with_reducible exact LeO.refl _)
      | (with_reducible exact LeO.none _)
      | (with_reducible refine LeO.ite ?_ ?_)
      | (with_reducible refine LeO.bind ?_ (fun _ => ?_))
      | exact impl_MakeVault.mono _ _ _ _ _ _ _ _
      | exact laws_eqIntS.mono _ _ _
      | exact laws_eqKeeperHostS.mono _ _ _
      | exact laws_heldKeeperHostS.mono _ _ _
      | exact laws_markIntS.mono _ _ _
      | exact laws_markKeeperHostS.mono _ _ _
      | exact laws_toIntS.mono _ _
      | exact spec_MakeVault.mono _ _ _ _ _ _ _ _
      | exact LeO.none _
      | refine LeO.ite ?_ ?_
      | refine LeO.bind ?_ (fun _ => ?_)
set_option maxHeartbeats 8000000 in
set_option maxRecDepth 100000 in
theorem laws_FnExactMakeVault.calls (k : Nat) (a0 : Int) (a1 : Int) (a2 : Int) (a3 : Int) (A4 : Option Addr) (c4 : Nat) (l4 : List Int) (a5 : Int) (a6 : Int) (r : Bool) (w : World) (hr4 : Kd.C (Kd.int .i64) w A4 l4.length l4) (hc4 : l4.length ≤ c4) (hT : Aside0 (r = true)) (h : laws_FnExactMakeVault.f k a0 a1 a2 a3 l4 a5 a6 = some r) :
    Calls Try.prog 3 #[.int .i64 a0, .int .i64 a1, .int .i64 a2, .int .i64 a3, .slice A4 l4.length c4, .int .i64 a5, .int .i64 a6] w fun e w' => e = .returned (.bool r) ∧ Below w.heap.size w w' := by
  have hu24 := Try.underlying24
  have HR4 := Aside0.mk hr4
  have HC4 := Aside0.mk hc4
  clear hr4 hc4
  have HB := Aside0.mk (Below.refl w.heap.size w)
  have H : (if (l4.length : Int) > 1048576 then (some true) else ((laws_toIntS.f k l4).bind fun t349 => ((spec_MakeVault.f k a0 a1 a2 a3 t349 a5 a6).bind fun bt352 => ((laws_toIntS.f k l4).bind fun t361 => ((impl_MakeVault.f k a0 a1 a2 a3 t361 a5 a6).bind fun bt364 => ((laws_eqVault.f bt364.1 bt364.2.1 bt364.2.2.1 bt364.2.2.2.1 bt352.1 bt352.2.1 bt352.2.2.1 bt352.2.2.2.1).bind fun t373 => (if t373 = true then ((laws_eqKeeperHostS.f k bt364.2.2.2.2.1 bt352.2.2.2.2.1).bind fun t374 => (if t374 = true then (if (bt364.2.2.2.2.2 != bt352.2.2.2.2.2) = true then (some false) else ((laws_toIntS.f k l4).bind fun t375 => ((laws_eqIntS.f k t361 t375).bind fun t378 => (if t378 = true then ((laws_markIntS.f k t361 1).bind fun bt379 => (if bt379.1 < 0 then (some false) else ((laws_eqVault.f bt364.1 bt364.2.1 bt364.2.2.1 bt364.2.2.2.1 bt352.1 bt352.2.1 bt352.2.2.1 bt352.2.2.2.1).bind fun t381 => (if t381 = true then ((laws_eqKeeperHostS.f k bt364.2.2.2.2.1 bt352.2.2.2.2.1).bind fun t382 => (if t382 = true then ((laws_markKeeperHostS.f k bt364.2.2.2.2.1 1).bind fun bt383 => ((laws_heldKeeperHostS.f k bt383.2 1).bind fun t385 => (if t385 < 0 then (some false) else (if t385 = bt383.1 then ((laws_toIntS.f k l4).bind fun t386 => ((impl_MakeVault.f k a0 a1 a2 a3 t386 a5 a6).bind fun bt389 => ((laws_eqVault.f bt389.1 bt389.2.1 bt389.2.2.1 bt389.2.2.2.1 bt352.1 bt352.2.1 bt352.2.2.1 bt352.2.2.2.1).bind fun t398 => (if t398 = true then ((laws_eqKeeperHostS.f k bt389.2.2.2.2.1 bt352.2.2.2.2.1).bind fun t399 => (if t399 = true then (if (bt389.2.2.2.2.2 != bt352.2.2.2.2.2) = true then (some false) else ((laws_heldKeeperHostS.f k bt383.2 1).bind fun t400 => (if t400 < 0 then (some false) else (if t400 = bt383.1 then (some true) else (some false))))) else (some false))) else (some false))))) else (some false))))) else (some false))) else (some false))))) else (some false))))) else (some false))) else (some false)))))))) = some r := h
  clear h
  by_cases c8 : (l4.length : Int) > 1048576
  · rw [if_pos c8] at H
    have c8b0 : decide (1048576 < (l4.length : Int)) = true := decide_eq_true c8
    have c8b1 : decide (1048576 < l4.length) = true := decide_eq_true (by omega)
    clear c8
    obtain rfl := Option.some.inj H
    go_enter Try.func3, Try.ntmps3
    try go_wp2
    go_ret
    exact ⟨by first | rfl | (simp [*] <;> rfl), by repeat (first | (with_reducible first | exact HB.out | apply below_alloc | apply pw_below_drewN | apply below_drew1) | exact HB.out)⟩
  · rw [if_neg c8] at H
    have c8b0 : decide (1048576 < (l4.length : Int)) = false := decide_eq_false c8
    have c8b1 : decide (1048576 < l4.length) = false := decide_eq_false (by omega)
    clear c8
    replace H := Option.bind_eq_some_iff.mp H
    obtain ⟨t349, A90, H⟩ := H
    replace H : ((spec_MakeVault.f k a0 a1 a2 a3 t349 a5 a6).bind fun bt352 => ((laws_toIntS.f k l4).bind fun t361 => ((impl_MakeVault.f k a0 a1 a2 a3 t361 a5 a6).bind fun bt364 => ((laws_eqVault.f bt364.1 bt364.2.1 bt364.2.2.1 bt364.2.2.2.1 bt352.1 bt352.2.1 bt352.2.2.1 bt352.2.2.2.1).bind fun t373 => (if t373 = true then ((laws_eqKeeperHostS.f k bt364.2.2.2.2.1 bt352.2.2.2.2.1).bind fun t374 => (if t374 = true then (if (bt364.2.2.2.2.2 != bt352.2.2.2.2.2) = true then (some false) else ((laws_toIntS.f k l4).bind fun t375 => ((laws_eqIntS.f k t361 t375).bind fun t378 => (if t378 = true then ((laws_markIntS.f k t361 1).bind fun bt379 => (if bt379.1 < 0 then (some false) else ((laws_eqVault.f bt364.1 bt364.2.1 bt364.2.2.1 bt364.2.2.2.1 bt352.1 bt352.2.1 bt352.2.2.1 bt352.2.2.2.1).bind fun t381 => (if t381 = true then ((laws_eqKeeperHostS.f k bt364.2.2.2.2.1 bt352.2.2.2.2.1).bind fun t382 => (if t382 = true then ((laws_markKeeperHostS.f k bt364.2.2.2.2.1 1).bind fun bt383 => ((laws_heldKeeperHostS.f k bt383.2 1).bind fun t385 => (if t385 < 0 then (some false) else (if t385 = bt383.1 then ((laws_toIntS.f k l4).bind fun t386 => ((impl_MakeVault.f k a0 a1 a2 a3 t386 a5 a6).bind fun bt389 => ((laws_eqVault.f bt389.1 bt389.2.1 bt389.2.2.1 bt389.2.2.2.1 bt352.1 bt352.2.1 bt352.2.2.1 bt352.2.2.2.1).bind fun t398 => (if t398 = true then ((laws_eqKeeperHostS.f k bt389.2.2.2.2.1 bt352.2.2.2.2.1).bind fun t399 => (if t399 = true then (if (bt389.2.2.2.2.2 != bt352.2.2.2.2.2) = true then (some false) else ((laws_heldKeeperHostS.f k bt383.2 1).bind fun t400 => (if t400 < 0 then (some false) else (if t400 = bt383.1 then (some true) else (some false))))) else (some false))) else (some false))))) else (some false))))) else (some false))) else (some false))))) else (some false))))) else (some false))) else (some false)))))) = some r := H
    have A9 := Aside0.mk A90
    clear A90
    replace H := Option.bind_eq_some_iff.mp H
    obtain ⟨⟨t352, t353, t354, t355, t356, t359⟩, A100, H⟩ := H
    replace H : ((laws_toIntS.f k l4).bind fun t361 => ((impl_MakeVault.f k a0 a1 a2 a3 t361 a5 a6).bind fun bt364 => ((laws_eqVault.f bt364.1 bt364.2.1 bt364.2.2.1 bt364.2.2.2.1 t352 t353 t354 t355).bind fun t373 => (if t373 = true then ((laws_eqKeeperHostS.f k bt364.2.2.2.2.1 t356).bind fun t374 => (if t374 = true then (if (bt364.2.2.2.2.2 != t359) = true then (some false) else ((laws_toIntS.f k l4).bind fun t375 => ((laws_eqIntS.f k t361 t375).bind fun t378 => (if t378 = true then ((laws_markIntS.f k t361 1).bind fun bt379 => (if bt379.1 < 0 then (some false) else ((laws_eqVault.f bt364.1 bt364.2.1 bt364.2.2.1 bt364.2.2.2.1 t352 t353 t354 t355).bind fun t381 => (if t381 = true then ((laws_eqKeeperHostS.f k bt364.2.2.2.2.1 t356).bind fun t382 => (if t382 = true then ((laws_markKeeperHostS.f k bt364.2.2.2.2.1 1).bind fun bt383 => ((laws_heldKeeperHostS.f k bt383.2 1).bind fun t385 => (if t385 < 0 then (some false) else (if t385 = bt383.1 then ((laws_toIntS.f k l4).bind fun t386 => ((impl_MakeVault.f k a0 a1 a2 a3 t386 a5 a6).bind fun bt389 => ((laws_eqVault.f bt389.1 bt389.2.1 bt389.2.2.1 bt389.2.2.2.1 t352 t353 t354 t355).bind fun t398 => (if t398 = true then ((laws_eqKeeperHostS.f k bt389.2.2.2.2.1 t356).bind fun t399 => (if t399 = true then (if (bt389.2.2.2.2.2 != t359) = true then (some false) else ((laws_heldKeeperHostS.f k bt383.2 1).bind fun t400 => (if t400 < 0 then (some false) else (if t400 = bt383.1 then (some true) else (some false))))) else (some false))) else (some false))))) else (some false))))) else (some false))) else (some false))))) else (some false))))) else (some false))) else (some false))))) = some r := H
    have A10 := Aside0.mk A100
    clear A100
    replace H := Option.bind_eq_some_iff.mp H
    obtain ⟨t361, A110, H⟩ := H
    replace H : ((impl_MakeVault.f k a0 a1 a2 a3 t361 a5 a6).bind fun bt364 => ((laws_eqVault.f bt364.1 bt364.2.1 bt364.2.2.1 bt364.2.2.2.1 t352 t353 t354 t355).bind fun t373 => (if t373 = true then ((laws_eqKeeperHostS.f k bt364.2.2.2.2.1 t356).bind fun t374 => (if t374 = true then (if (bt364.2.2.2.2.2 != t359) = true then (some false) else ((laws_toIntS.f k l4).bind fun t375 => ((laws_eqIntS.f k t361 t375).bind fun t378 => (if t378 = true then ((laws_markIntS.f k t361 1).bind fun bt379 => (if bt379.1 < 0 then (some false) else ((laws_eqVault.f bt364.1 bt364.2.1 bt364.2.2.1 bt364.2.2.2.1 t352 t353 t354 t355).bind fun t381 => (if t381 = true then ((laws_eqKeeperHostS.f k bt364.2.2.2.2.1 t356).bind fun t382 => (if t382 = true then ((laws_markKeeperHostS.f k bt364.2.2.2.2.1 1).bind fun bt383 => ((laws_heldKeeperHostS.f k bt383.2 1).bind fun t385 => (if t385 < 0 then (some false) else (if t385 = bt383.1 then ((laws_toIntS.f k l4).bind fun t386 => ((impl_MakeVault.f k a0 a1 a2 a3 t386 a5 a6).bind fun bt389 => ((laws_eqVault.f bt389.1 bt389.2.1 bt389.2.2.1 bt389.2.2.2.1 t352 t353 t354 t355).bind fun t398 => (if t398 = true then ((laws_eqKeeperHostS.f k bt389.2.2.2.2.1 t356).bind fun t399 => (if t399 = true then (if (bt389.2.2.2.2.2 != t359) = true then (some false) else ((laws_heldKeeperHostS.f k bt383.2 1).bind fun t400 => (if t400 < 0 then (some false) else (if t400 = bt383.1 then (some true) else (some false))))) else (some false))) else (some false))))) else (some false))))) else (some false))) else (some false))))) else (some false))))) else (some false))) else (some false)))) = some r := H
    have A11 := Aside0.mk A110
    clear A110
    replace H := Option.bind_eq_some_iff.mp H
    obtain ⟨⟨t364, t365, t366, t367, t368, t371⟩, A120, H⟩ := H
    replace H : ((laws_eqVault.f t364 t365 t366 t367 t352 t353 t354 t355).bind fun t373 => (if t373 = true then ((laws_eqKeeperHostS.f k t368 t356).bind fun t374 => (if t374 = true then (if (t371 != t359) = true then (some false) else ((laws_toIntS.f k l4).bind fun t375 => ((laws_eqIntS.f k t361 t375).bind fun t378 => (if t378 = true then ((laws_markIntS.f k t361 1).bind fun bt379 => (if bt379.1 < 0 then (some false) else ((laws_eqVault.f t364 t365 t366 t367 t352 t353 t354 t355).bind fun t381 => (if t381 = true then ((laws_eqKeeperHostS.f k t368 t356).bind fun t382 => (if t382 = true then ((laws_markKeeperHostS.f k t368 1).bind fun bt383 => ((laws_heldKeeperHostS.f k bt383.2 1).bind fun t385 => (if t385 < 0 then (some false) else (if t385 = bt383.1 then ((laws_toIntS.f k l4).bind fun t386 => ((impl_MakeVault.f k a0 a1 a2 a3 t386 a5 a6).bind fun bt389 => ((laws_eqVault.f bt389.1 bt389.2.1 bt389.2.2.1 bt389.2.2.2.1 t352 t353 t354 t355).bind fun t398 => (if t398 = true then ((laws_eqKeeperHostS.f k bt389.2.2.2.2.1 t356).bind fun t399 => (if t399 = true then (if (bt389.2.2.2.2.2 != t359) = true then (some false) else ((laws_heldKeeperHostS.f k bt383.2 1).bind fun t400 => (if t400 < 0 then (some false) else (if t400 = bt383.1 then (some true) else (some false))))) else (some false))) else (some false))))) else (some false))))) else (some false))) else (some false))))) else (some false))))) else (some false))) else (some false))) = some r := H
    have A12 := Aside0.mk A120
    clear A120
    replace H := Option.bind_eq_some_iff.mp H
    obtain ⟨t373, A130, H⟩ := H
    replace H : (if t373 = true then ((laws_eqKeeperHostS.f k t368 t356).bind fun t374 => (if t374 = true then (if (t371 != t359) = true then (some false) else ((laws_toIntS.f k l4).bind fun t375 => ((laws_eqIntS.f k t361 t375).bind fun t378 => (if t378 = true then ((laws_markIntS.f k t361 1).bind fun bt379 => (if bt379.1 < 0 then (some false) else ((laws_eqVault.f t364 t365 t366 t367 t352 t353 t354 t355).bind fun t381 => (if t381 = true then ((laws_eqKeeperHostS.f k t368 t356).bind fun t382 => (if t382 = true then ((laws_markKeeperHostS.f k t368 1).bind fun bt383 => ((laws_heldKeeperHostS.f k bt383.2 1).bind fun t385 => (if t385 < 0 then (some false) else (if t385 = bt383.1 then ((laws_toIntS.f k l4).bind fun t386 => ((impl_MakeVault.f k a0 a1 a2 a3 t386 a5 a6).bind fun bt389 => ((laws_eqVault.f bt389.1 bt389.2.1 bt389.2.2.1 bt389.2.2.2.1 t352 t353 t354 t355).bind fun t398 => (if t398 = true then ((laws_eqKeeperHostS.f k bt389.2.2.2.2.1 t356).bind fun t399 => (if t399 = true then (if (bt389.2.2.2.2.2 != t359) = true then (some false) else ((laws_heldKeeperHostS.f k bt383.2 1).bind fun t400 => (if t400 < 0 then (some false) else (if t400 = bt383.1 then (some true) else (some false))))) else (some false))) else (some false))))) else (some false))))) else (some false))) else (some false))))) else (some false))))) else (some false))) else (some false)) = some r := H
    have A13 := Aside0.mk A130
    clear A130
    by_cases c14 : t373 = true
    · subst c14
      have H1 : ((laws_eqKeeperHostS.f k t368 t356).bind fun t374 => (if t374 = true then (if (t371 != t359) = true then (some false) else ((laws_toIntS.f k l4).bind fun t375 => ((laws_eqIntS.f k t361 t375).bind fun t378 => (if t378 = true then ((laws_markIntS.f k t361 1).bind fun bt379 => (if bt379.1 < 0 then (some false) else ((laws_eqVault.f t364 t365 t366 t367 t352 t353 t354 t355).bind fun t381 => (if t381 = true then ((laws_eqKeeperHostS.f k t368 t356).bind fun t382 => (if t382 = true then ((laws_markKeeperHostS.f k t368 1).bind fun bt383 => ((laws_heldKeeperHostS.f k bt383.2 1).bind fun t385 => (if t385 < 0 then (some false) else (if t385 = bt383.1 then ((laws_toIntS.f k l4).bind fun t386 => ((impl_MakeVault.f k a0 a1 a2 a3 t386 a5 a6).bind fun bt389 => ((laws_eqVault.f bt389.1 bt389.2.1 bt389.2.2.1 bt389.2.2.2.1 t352 t353 t354 t355).bind fun t398 => (if t398 = true then ((laws_eqKeeperHostS.f k bt389.2.2.2.2.1 t356).bind fun t399 => (if t399 = true then (if (bt389.2.2.2.2.2 != t359) = true then (some false) else ((laws_heldKeeperHostS.f k bt383.2 1).bind fun t400 => (if t400 < 0 then (some false) else (if t400 = bt383.1 then (some true) else (some false))))) else (some false))) else (some false))))) else (some false))))) else (some false))) else (some false))))) else (some false))))) else (some false))) = some r := by rw [if_pos rfl] at H; exact H
      clear H
      have H := H1
      clear H1
      replace H := Option.bind_eq_some_iff.mp H
      obtain ⟨t374, A150, H⟩ := H
      replace H : (if t374 = true then (if (t371 != t359) = true then (some false) else ((laws_toIntS.f k l4).bind fun t375 => ((laws_eqIntS.f k t361 t375).bind fun t378 => (if t378 = true then ((laws_markIntS.f k t361 1).bind fun bt379 => (if bt379.1 < 0 then (some false) else ((laws_eqVault.f t364 t365 t366 t367 t352 t353 t354 t355).bind fun t381 => (if t381 = true then ((laws_eqKeeperHostS.f k t368 t356).bind fun t382 => (if t382 = true then ((laws_markKeeperHostS.f k t368 1).bind fun bt383 => ((laws_heldKeeperHostS.f k bt383.2 1).bind fun t385 => (if t385 < 0 then (some false) else (if t385 = bt383.1 then ((laws_toIntS.f k l4).bind fun t386 => ((impl_MakeVault.f k a0 a1 a2 a3 t386 a5 a6).bind fun bt389 => ((laws_eqVault.f bt389.1 bt389.2.1 bt389.2.2.1 bt389.2.2.2.1 t352 t353 t354 t355).bind fun t398 => (if t398 = true then ((laws_eqKeeperHostS.f k bt389.2.2.2.2.1 t356).bind fun t399 => (if t399 = true then (if (bt389.2.2.2.2.2 != t359) = true then (some false) else ((laws_heldKeeperHostS.f k bt383.2 1).bind fun t400 => (if t400 < 0 then (some false) else (if t400 = bt383.1 then (some true) else (some false))))) else (some false))) else (some false))))) else (some false))))) else (some false))) else (some false))))) else (some false))))) else (some false)) = some r := H
      have A15 := Aside0.mk A150
      clear A150
      by_cases c16 : t374 = true
      · subst c16
        have H1 : (if (t371 != t359) = true then (some false) else ((laws_toIntS.f k l4).bind fun t375 => ((laws_eqIntS.f k t361 t375).bind fun t378 => (if t378 = true then ((laws_markIntS.f k t361 1).bind fun bt379 => (if bt379.1 < 0 then (some false) else ((laws_eqVault.f t364 t365 t366 t367 t352 t353 t354 t355).bind fun t381 => (if t381 = true then ((laws_eqKeeperHostS.f k t368 t356).bind fun t382 => (if t382 = true then ((laws_markKeeperHostS.f k t368 1).bind fun bt383 => ((laws_heldKeeperHostS.f k bt383.2 1).bind fun t385 => (if t385 < 0 then (some false) else (if t385 = bt383.1 then ((laws_toIntS.f k l4).bind fun t386 => ((impl_MakeVault.f k a0 a1 a2 a3 t386 a5 a6).bind fun bt389 => ((laws_eqVault.f bt389.1 bt389.2.1 bt389.2.2.1 bt389.2.2.2.1 t352 t353 t354 t355).bind fun t398 => (if t398 = true then ((laws_eqKeeperHostS.f k bt389.2.2.2.2.1 t356).bind fun t399 => (if t399 = true then (if (bt389.2.2.2.2.2 != t359) = true then (some false) else ((laws_heldKeeperHostS.f k bt383.2 1).bind fun t400 => (if t400 < 0 then (some false) else (if t400 = bt383.1 then (some true) else (some false))))) else (some false))) else (some false))))) else (some false))))) else (some false))) else (some false))))) else (some false))))) = some r := by rw [if_pos rfl] at H; exact H
        clear H
        have H := H1
        clear H1
        by_cases c17 : (t371 != t359) = true
        · rw [if_pos c17] at H
          have c17b0 : (t371 != t359) = true := c17
          (try (have c17b1 : decide (t371 = t359) = false := by simpa using c17))
          (try (have c17b2 : (t371 == t359) = false := by simpa using c17))
          (try (have c17b3 : ¬ (t371 = t359) := by simpa using c17))
          clear c17
          exact absurd ((Option.some.inj H).trans hT.out) (by decide)
        · rw [if_neg c17] at H
          have c17b0 : (t371 != t359) = false := by simpa using c17
          (try (have c17b1 : decide (t371 = t359) = true := by simpa using c17))
          (try (have c17b2 : (t371 == t359) = true := by simpa using c17))
          clear c17
          replace H := Option.bind_eq_some_iff.mp H
          obtain ⟨t375, A180, H⟩ := H
          replace H : ((laws_eqIntS.f k t361 t375).bind fun t378 => (if t378 = true then ((laws_markIntS.f k t361 1).bind fun bt379 => (if bt379.1 < 0 then (some false) else ((laws_eqVault.f t364 t365 t366 t367 t352 t353 t354 t355).bind fun t381 => (if t381 = true then ((laws_eqKeeperHostS.f k t368 t356).bind fun t382 => (if t382 = true then ((laws_markKeeperHostS.f k t368 1).bind fun bt383 => ((laws_heldKeeperHostS.f k bt383.2 1).bind fun t385 => (if t385 < 0 then (some false) else (if t385 = bt383.1 then ((laws_toIntS.f k l4).bind fun t386 => ((impl_MakeVault.f k a0 a1 a2 a3 t386 a5 a6).bind fun bt389 => ((laws_eqVault.f bt389.1 bt389.2.1 bt389.2.2.1 bt389.2.2.2.1 t352 t353 t354 t355).bind fun t398 => (if t398 = true then ((laws_eqKeeperHostS.f k bt389.2.2.2.2.1 t356).bind fun t399 => (if t399 = true then (if (bt389.2.2.2.2.2 != t359) = true then (some false) else ((laws_heldKeeperHostS.f k bt383.2 1).bind fun t400 => (if t400 < 0 then (some false) else (if t400 = bt383.1 then (some true) else (some false))))) else (some false))) else (some false))))) else (some false))))) else (some false))) else (some false))))) else (some false))) = some r := H
          have A18 := Aside0.mk A180
          clear A180
          replace H := Option.bind_eq_some_iff.mp H
          obtain ⟨t378, A190, H⟩ := H
          replace H : (if t378 = true then ((laws_markIntS.f k t361 1).bind fun bt379 => (if bt379.1 < 0 then (some false) else ((laws_eqVault.f t364 t365 t366 t367 t352 t353 t354 t355).bind fun t381 => (if t381 = true then ((laws_eqKeeperHostS.f k t368 t356).bind fun t382 => (if t382 = true then ((laws_markKeeperHostS.f k t368 1).bind fun bt383 => ((laws_heldKeeperHostS.f k bt383.2 1).bind fun t385 => (if t385 < 0 then (some false) else (if t385 = bt383.1 then ((laws_toIntS.f k l4).bind fun t386 => ((impl_MakeVault.f k a0 a1 a2 a3 t386 a5 a6).bind fun bt389 => ((laws_eqVault.f bt389.1 bt389.2.1 bt389.2.2.1 bt389.2.2.2.1 t352 t353 t354 t355).bind fun t398 => (if t398 = true then ((laws_eqKeeperHostS.f k bt389.2.2.2.2.1 t356).bind fun t399 => (if t399 = true then (if (bt389.2.2.2.2.2 != t359) = true then (some false) else ((laws_heldKeeperHostS.f k bt383.2 1).bind fun t400 => (if t400 < 0 then (some false) else (if t400 = bt383.1 then (some true) else (some false))))) else (some false))) else (some false))))) else (some false))))) else (some false))) else (some false))))) else (some false)) = some r := H
          have A19 := Aside0.mk A190
          clear A190
          by_cases c20 : t378 = true
          · subst c20
            have H1 : ((laws_markIntS.f k t361 1).bind fun bt379 => (if bt379.1 < 0 then (some false) else ((laws_eqVault.f t364 t365 t366 t367 t352 t353 t354 t355).bind fun t381 => (if t381 = true then ((laws_eqKeeperHostS.f k t368 t356).bind fun t382 => (if t382 = true then ((laws_markKeeperHostS.f k t368 1).bind fun bt383 => ((laws_heldKeeperHostS.f k bt383.2 1).bind fun t385 => (if t385 < 0 then (some false) else (if t385 = bt383.1 then ((laws_toIntS.f k l4).bind fun t386 => ((impl_MakeVault.f k a0 a1 a2 a3 t386 a5 a6).bind fun bt389 => ((laws_eqVault.f bt389.1 bt389.2.1 bt389.2.2.1 bt389.2.2.2.1 t352 t353 t354 t355).bind fun t398 => (if t398 = true then ((laws_eqKeeperHostS.f k bt389.2.2.2.2.1 t356).bind fun t399 => (if t399 = true then (if (bt389.2.2.2.2.2 != t359) = true then (some false) else ((laws_heldKeeperHostS.f k bt383.2 1).bind fun t400 => (if t400 < 0 then (some false) else (if t400 = bt383.1 then (some true) else (some false))))) else (some false))) else (some false))))) else (some false))))) else (some false))) else (some false))))) = some r := by rw [if_pos rfl] at H; exact H
            clear H
            have H := H1
            clear H1
            replace H := Option.bind_eq_some_iff.mp H
            obtain ⟨⟨t379, t380⟩, A210, H⟩ := H
            replace H : (if t379 < 0 then (some false) else ((laws_eqVault.f t364 t365 t366 t367 t352 t353 t354 t355).bind fun t381 => (if t381 = true then ((laws_eqKeeperHostS.f k t368 t356).bind fun t382 => (if t382 = true then ((laws_markKeeperHostS.f k t368 1).bind fun bt383 => ((laws_heldKeeperHostS.f k bt383.2 1).bind fun t385 => (if t385 < 0 then (some false) else (if t385 = bt383.1 then ((laws_toIntS.f k l4).bind fun t386 => ((impl_MakeVault.f k a0 a1 a2 a3 t386 a5 a6).bind fun bt389 => ((laws_eqVault.f bt389.1 bt389.2.1 bt389.2.2.1 bt389.2.2.2.1 t352 t353 t354 t355).bind fun t398 => (if t398 = true then ((laws_eqKeeperHostS.f k bt389.2.2.2.2.1 t356).bind fun t399 => (if t399 = true then (if (bt389.2.2.2.2.2 != t359) = true then (some false) else ((laws_heldKeeperHostS.f k bt383.2 1).bind fun t400 => (if t400 < 0 then (some false) else (if t400 = bt383.1 then (some true) else (some false))))) else (some false))) else (some false))))) else (some false))))) else (some false))) else (some false)))) = some r := H
            have A21 := Aside0.mk A210
            clear A210
            by_cases c22 : t379 < 0
            · rw [if_pos c22] at H
              have c22b0 : decide (t379 < 0) = true := decide_eq_true c22
              clear c22
              exact absurd ((Option.some.inj H).trans hT.out) (by decide)
            · rw [if_neg c22] at H
              have c22b0 : decide (t379 < 0) = false := decide_eq_false c22
              clear c22
              replace H := Option.bind_eq_some_iff.mp H
              obtain ⟨t381, A230, H⟩ := H
              replace H : (if t381 = true then ((laws_eqKeeperHostS.f k t368 t356).bind fun t382 => (if t382 = true then ((laws_markKeeperHostS.f k t368 1).bind fun bt383 => ((laws_heldKeeperHostS.f k bt383.2 1).bind fun t385 => (if t385 < 0 then (some false) else (if t385 = bt383.1 then ((laws_toIntS.f k l4).bind fun t386 => ((impl_MakeVault.f k a0 a1 a2 a3 t386 a5 a6).bind fun bt389 => ((laws_eqVault.f bt389.1 bt389.2.1 bt389.2.2.1 bt389.2.2.2.1 t352 t353 t354 t355).bind fun t398 => (if t398 = true then ((laws_eqKeeperHostS.f k bt389.2.2.2.2.1 t356).bind fun t399 => (if t399 = true then (if (bt389.2.2.2.2.2 != t359) = true then (some false) else ((laws_heldKeeperHostS.f k bt383.2 1).bind fun t400 => (if t400 < 0 then (some false) else (if t400 = bt383.1 then (some true) else (some false))))) else (some false))) else (some false))))) else (some false))))) else (some false))) else (some false)) = some r := H
              have A23 := Aside0.mk A230
              clear A230
              by_cases c24 : t381 = true
              · subst c24
                have H1 : ((laws_eqKeeperHostS.f k t368 t356).bind fun t382 => (if t382 = true then ((laws_markKeeperHostS.f k t368 1).bind fun bt383 => ((laws_heldKeeperHostS.f k bt383.2 1).bind fun t385 => (if t385 < 0 then (some false) else (if t385 = bt383.1 then ((laws_toIntS.f k l4).bind fun t386 => ((impl_MakeVault.f k a0 a1 a2 a3 t386 a5 a6).bind fun bt389 => ((laws_eqVault.f bt389.1 bt389.2.1 bt389.2.2.1 bt389.2.2.2.1 t352 t353 t354 t355).bind fun t398 => (if t398 = true then ((laws_eqKeeperHostS.f k bt389.2.2.2.2.1 t356).bind fun t399 => (if t399 = true then (if (bt389.2.2.2.2.2 != t359) = true then (some false) else ((laws_heldKeeperHostS.f k bt383.2 1).bind fun t400 => (if t400 < 0 then (some false) else (if t400 = bt383.1 then (some true) else (some false))))) else (some false))) else (some false))))) else (some false))))) else (some false))) = some r := by rw [if_pos rfl] at H; exact H
                clear H
                have H := H1
                clear H1
                replace H := Option.bind_eq_some_iff.mp H
                obtain ⟨t382, A250, H⟩ := H
                replace H : (if t382 = true then ((laws_markKeeperHostS.f k t368 1).bind fun bt383 => ((laws_heldKeeperHostS.f k bt383.2 1).bind fun t385 => (if t385 < 0 then (some false) else (if t385 = bt383.1 then ((laws_toIntS.f k l4).bind fun t386 => ((impl_MakeVault.f k a0 a1 a2 a3 t386 a5 a6).bind fun bt389 => ((laws_eqVault.f bt389.1 bt389.2.1 bt389.2.2.1 bt389.2.2.2.1 t352 t353 t354 t355).bind fun t398 => (if t398 = true then ((laws_eqKeeperHostS.f k bt389.2.2.2.2.1 t356).bind fun t399 => (if t399 = true then (if (bt389.2.2.2.2.2 != t359) = true then (some false) else ((laws_heldKeeperHostS.f k bt383.2 1).bind fun t400 => (if t400 < 0 then (some false) else (if t400 = bt383.1 then (some true) else (some false))))) else (some false))) else (some false))))) else (some false))))) else (some false)) = some r := H
                have A25 := Aside0.mk A250
                clear A250
                by_cases c26 : t382 = true
                · subst c26
                  have H1 : ((laws_markKeeperHostS.f k t368 1).bind fun bt383 => ((laws_heldKeeperHostS.f k bt383.2 1).bind fun t385 => (if t385 < 0 then (some false) else (if t385 = bt383.1 then ((laws_toIntS.f k l4).bind fun t386 => ((impl_MakeVault.f k a0 a1 a2 a3 t386 a5 a6).bind fun bt389 => ((laws_eqVault.f bt389.1 bt389.2.1 bt389.2.2.1 bt389.2.2.2.1 t352 t353 t354 t355).bind fun t398 => (if t398 = true then ((laws_eqKeeperHostS.f k bt389.2.2.2.2.1 t356).bind fun t399 => (if t399 = true then (if (bt389.2.2.2.2.2 != t359) = true then (some false) else ((laws_heldKeeperHostS.f k bt383.2 1).bind fun t400 => (if t400 < 0 then (some false) else (if t400 = bt383.1 then (some true) else (some false))))) else (some false))) else (some false))))) else (some false))))) = some r := by rw [if_pos rfl] at H; exact H
                  clear H
                  have H := H1
                  clear H1
                  replace H := Option.bind_eq_some_iff.mp H
                  obtain ⟨⟨t383, t384⟩, A270, H⟩ := H
                  replace H : ((laws_heldKeeperHostS.f k t384 1).bind fun t385 => (if t385 < 0 then (some false) else (if t385 = t383 then ((laws_toIntS.f k l4).bind fun t386 => ((impl_MakeVault.f k a0 a1 a2 a3 t386 a5 a6).bind fun bt389 => ((laws_eqVault.f bt389.1 bt389.2.1 bt389.2.2.1 bt389.2.2.2.1 t352 t353 t354 t355).bind fun t398 => (if t398 = true then ((laws_eqKeeperHostS.f k bt389.2.2.2.2.1 t356).bind fun t399 => (if t399 = true then (if (bt389.2.2.2.2.2 != t359) = true then (some false) else ((laws_heldKeeperHostS.f k t384 1).bind fun t400 => (if t400 < 0 then (some false) else (if t400 = t383 then (some true) else (some false))))) else (some false))) else (some false))))) else (some false)))) = some r := H
                  have A27 := Aside0.mk A270
                  clear A270
                  replace H := Option.bind_eq_some_iff.mp H
                  obtain ⟨t385, A280, H⟩ := H
                  replace H : (if t385 < 0 then (some false) else (if t385 = t383 then ((laws_toIntS.f k l4).bind fun t386 => ((impl_MakeVault.f k a0 a1 a2 a3 t386 a5 a6).bind fun bt389 => ((laws_eqVault.f bt389.1 bt389.2.1 bt389.2.2.1 bt389.2.2.2.1 t352 t353 t354 t355).bind fun t398 => (if t398 = true then ((laws_eqKeeperHostS.f k bt389.2.2.2.2.1 t356).bind fun t399 => (if t399 = true then (if (bt389.2.2.2.2.2 != t359) = true then (some false) else ((laws_heldKeeperHostS.f k t384 1).bind fun t400 => (if t400 < 0 then (some false) else (if t400 = t383 then (some true) else (some false))))) else (some false))) else (some false))))) else (some false))) = some r := H
                  have A28 := Aside0.mk A280
                  clear A280
                  by_cases c29 : t385 < 0
                  · rw [if_pos c29] at H
                    have c29b0 : decide (t385 < 0) = true := decide_eq_true c29
                    clear c29
                    exact absurd ((Option.some.inj H).trans hT.out) (by decide)
                  · rw [if_neg c29] at H
                    have c29b0 : decide (t385 < 0) = false := decide_eq_false c29
                    clear c29
                    by_cases c30 : t385 = t383
                    · rw [if_pos c30] at H
                      have c30b0 : (t385 == t383) = true := beq_iff_eq.mpr c30
                      have c30b1 : (t385 != t383) = false := bne_eq_false_iff_eq.mpr c30
                      clear c30
                      replace H := Option.bind_eq_some_iff.mp H
                      obtain ⟨t386, A310, H⟩ := H
                      replace H : ((impl_MakeVault.f k a0 a1 a2 a3 t386 a5 a6).bind fun bt389 => ((laws_eqVault.f bt389.1 bt389.2.1 bt389.2.2.1 bt389.2.2.2.1 t352 t353 t354 t355).bind fun t398 => (if t398 = true then ((laws_eqKeeperHostS.f k bt389.2.2.2.2.1 t356).bind fun t399 => (if t399 = true then (if (bt389.2.2.2.2.2 != t359) = true then (some false) else ((laws_heldKeeperHostS.f k t384 1).bind fun t400 => (if t400 < 0 then (some false) else (if t400 = t383 then (some true) else (some false))))) else (some false))) else (some false)))) = some r := H
                      have A31 := Aside0.mk A310
                      clear A310
                      replace H := Option.bind_eq_some_iff.mp H
                      obtain ⟨⟨t389, t390, t391, t392, t393, t396⟩, A320, H⟩ := H
                      replace H : ((laws_eqVault.f t389 t390 t391 t392 t352 t353 t354 t355).bind fun t398 => (if t398 = true then ((laws_eqKeeperHostS.f k t393 t356).bind fun t399 => (if t399 = true then (if (t396 != t359) = true then (some false) else ((laws_heldKeeperHostS.f k t384 1).bind fun t400 => (if t400 < 0 then (some false) else (if t400 = t383 then (some true) else (some false))))) else (some false))) else (some false))) = some r := H
                      have A32 := Aside0.mk A320
                      clear A320
                      replace H := Option.bind_eq_some_iff.mp H
                      obtain ⟨t398, A330, H⟩ := H
                      replace H : (if t398 = true then ((laws_eqKeeperHostS.f k t393 t356).bind fun t399 => (if t399 = true then (if (t396 != t359) = true then (some false) else ((laws_heldKeeperHostS.f k t384 1).bind fun t400 => (if t400 < 0 then (some false) else (if t400 = t383 then (some true) else (some false))))) else (some false))) else (some false)) = some r := H
                      have A33 := Aside0.mk A330
                      clear A330
                      by_cases c34 : t398 = true
                      · subst c34
                        have H1 : ((laws_eqKeeperHostS.f k t393 t356).bind fun t399 => (if t399 = true then (if (t396 != t359) = true then (some false) else ((laws_heldKeeperHostS.f k t384 1).bind fun t400 => (if t400 < 0 then (some false) else (if t400 = t383 then (some true) else (some false))))) else (some false))) = some r := by rw [if_pos rfl] at H; exact H
                        clear H
                        have H := H1
                        clear H1
                        replace H := Option.bind_eq_some_iff.mp H
                        obtain ⟨t399, A350, H⟩ := H
                        replace H : (if t399 = true then (if (t396 != t359) = true then (some false) else ((laws_heldKeeperHostS.f k t384 1).bind fun t400 => (if t400 < 0 then (some false) else (if t400 = t383 then (some true) else (some false))))) else (some false)) = some r := H
                        have A35 := Aside0.mk A350
                        clear A350
                        by_cases c36 : t399 = true
                        · subst c36
                          have H1 : (if (t396 != t359) = true then (some false) else ((laws_heldKeeperHostS.f k t384 1).bind fun t400 => (if t400 < 0 then (some false) else (if t400 = t383 then (some true) else (some false))))) = some r := by rw [if_pos rfl] at H; exact H
                          clear H
                          have H := H1
                          clear H1
                          by_cases c37 : (t396 != t359) = true
                          · rw [if_pos c37] at H
                            have c37b0 : (t396 != t359) = true := c37
                            (try (have c37b1 : decide (t396 = t359) = false := by simpa using c37))
                            (try (have c37b2 : (t396 == t359) = false := by simpa using c37))
                            (try (have c37b3 : ¬ (t396 = t359) := by simpa using c37))
                            clear c37
                            exact absurd ((Option.some.inj H).trans hT.out) (by decide)
                          · rw [if_neg c37] at H
                            have c37b0 : (t396 != t359) = false := by simpa using c37
                            (try (have c37b1 : decide (t396 = t359) = true := by simpa using c37))
                            (try (have c37b2 : (t396 == t359) = true := by simpa using c37))
                            clear c37
                            replace H := Option.bind_eq_some_iff.mp H
                            obtain ⟨t400, A380, H⟩ := H
                            replace H : (if t400 < 0 then (some false) else (if t400 = t383 then (some true) else (some false))) = some r := H
                            have A38 := Aside0.mk A380
                            clear A380
                            by_cases c39 : t400 < 0
                            · rw [if_pos c39] at H
                              have c39b0 : decide (t400 < 0) = true := decide_eq_true c39
                              clear c39
                              exact absurd ((Option.some.inj H).trans hT.out) (by decide)
                            · rw [if_neg c39] at H
                              have c39b0 : decide (t400 < 0) = false := decide_eq_false c39
                              clear c39
                              by_cases c40 : t400 = t383
                              · rw [if_pos c40] at H
                                have c40b0 : (t400 == t383) = true := beq_iff_eq.mpr c40
                                have c40b1 : (t400 != t383) = false := bne_eq_false_iff_eq.mpr c40
                                clear c40
                                obtain rfl := Option.some.inj H
                                go_enter Try.func3, Try.ntmps3
                                go_wp2_with (first | ((with_reducible refine gate_callee (f := 5) rfl ?_); refine goesL_ (some 37) rfl rfl Try.func5 (by kernel_rfl) rfl #[.slice A4 l4.length c4] rfl (by (try simp only [List.map_toArray, List.map_cons, List.map_nil]); first | done | rfl | (simp only [List.length_drop, List.length_take]; rfl)) ?_; (with_reducible refine (laws_toIntS.calls k _ _ l4 t349 _ ?side1 ?side2 A9.out).mono ?_); (case side1 => exact Kd.C_below HR4.out (by repeat (first | (with_reducible first | exact HB.out | apply below_alloc | apply pw_below_drewN | apply below_drew1) | exact HB.out))); (case side2 => exact HC4.out); rintro e wv1 ⟨vq1_, rfl, ho0, hb⟩; refine ⟨_, rfl, ?_⟩; have hkW := (show Kept w w (fun k_ => False) from by repeat (first | (with_reducible first | exact Kept.refl _ _ | apply Kept.alloc | apply Kept.drewN | apply Kept.drew) | exact Kept.refl _ _)); have hk2 := Kept.below hkW hb; obtain ⟨Aq1_, cq1_, rfl⟩ := Kd.R_slice ho0; obtain ⟨okq1_, hoo0, hi0⟩ := lk_R ho0 (a := w.heap.size) (b := w.heap.size) hkW.1 (Nat.le_trans HB.out.size hkW.1); have n0_ := Aside0.mk (below_step (by repeat (first | (with_reducible first | exact HB.out | apply below_alloc | apply pw_below_drewN | apply below_drew1) | exact HB.out)) hb); have n1_ := Aside0.mk ((hk2.1 : w.heap.size ≤ wv1.heap.size)); have n2_ := Aside0.mk (hoo0); have n3_ := Aside0.mk (hi0); clear HB; have HB := n0_; have HLA := n1_; have HOq1_ := n2_; have HIq1_ := n3_; clear n0_ n1_ n2_ n3_; (try clear hb); (try clear hkW); (try clear hk2); (try clear hkp); (try clear hoo0); (try clear hi0); (try clear ho0)) | ((with_reducible refine gate_callee (f := 4) rfl ?_); refine goesL_ (some 40) rfl rfl Try.func4 (by kernel_rfl) rfl #[.int .i64 a0, .int .i64 a1, .int .i64 a2, .int .i64 a3, .slice Aq1_ t349.length cq1_, .int .i64 a5, .int .i64 a6] rfl (by (try simp only [List.map_toArray, List.map_cons, List.map_nil]); first | done | rfl | (simp only [List.length_drop, List.length_take]; rfl)) ?_; (with_reducible refine (spec_MakeVault.calls k a0 a1 a2 a3 _ _ t349 a5 a6 t352 t353 t354 t355 t356 t359 _ ?side1 ?side2 A10.out).mono ?_); (case side1 => exact (Kd.R_reads' HOq1_.out).2.2); (case side2 => have h1_ := (Kd.R_reads' HOq1_.out).1; have h2_ := (Kd.R_reads' HOq1_.out).2.1; omega); rintro e wv2 ⟨vq2_, rfl, ho0, hb⟩; refine ⟨_, rfl, ?_⟩; have hkW := (show Kept wv1 wv1 (fun k_ => False) from by repeat (first | (with_reducible first | exact Kept.refl _ _ | apply Kept.alloc | apply Kept.drewN | apply Kept.drew) | exact Kept.refl _ _)); have hk2 := Kept.below hkW hb; obtain ⟨Aq2_, cq2_, rfl⟩ := Kd.S_slice ho0; obtain ⟨okq2_, hoo0, hi0⟩ := lk_S ho0 (a := wv1.heap.size) (b := w.heap.size) hkW.1 (Nat.le_trans HB.out.size hkW.1); have n0_ := Aside0.mk (Kd.R_below HOq1_.out hb); have n1_ := Aside0.mk (below_step (by repeat (first | (with_reducible first | exact HB.out | apply below_alloc | apply pw_below_drewN | apply below_drew1) | exact HB.out)) hb); have n2_ := Aside0.mk (And.intro HLA.out (hk2.1 : wv1.heap.size ≤ wv2.heap.size)); have n3_ := Aside0.mk (hoo0); have n4_ := Aside0.mk (hi0); clear HOq1_; clear HB; clear HLA; have HOq1_ := n0_; have HB := n1_; have HLA := n2_; have HOq2_ := n3_; have HIq2_ := n4_; clear n0_ n1_ n2_ n3_ n4_; (try clear hb); (try clear hkW); (try clear hk2); (try clear hkp); (try clear hoo0); (try clear hi0); (try clear ho0)) | ((with_reducible refine gate_dst (N := 15) rfl ?_); refine box_event ?hg (N := 15) ?hd (cs := #[.int .i64 0, .int .i64 0, .int .i64 0, .int .i64 0]) (t := 24) ?hr ?_; (case hd => rfl); (case hg => rfl); (case hr => first | (go_simp; done) | (go_simp; rfl)); intro gb360 hg wv3 hbox hb; have n0_ := Aside0.mk (Kd.R_below HOq1_.out hb); have n1_ := Aside0.mk (Kd.S_below HOq2_.out hb); have n2_ := Aside0.mk (below_step HB.out hb); have n3_ := Aside0.mk (hbox); have n4_ := Aside0.mk ((by rw [hg]; exact Nat.le_trans HB.out.size ((show Kept wv2 wv2 (fun k_ => False) from by repeat (first | (with_reducible first | exact Kept.refl _ _ | apply Kept.alloc | apply Kept.drewN | apply Kept.drew) | exact Kept.refl _ _))).1 : w.heap.size ≤ gb360)); have n5_ := Aside0.mk ((⟨by rw [hg]; exact ((show Kept wv2 wv2 (fun k_ => False) from by repeat (first | (with_reducible first | exact Kept.refl _ _ | apply Kept.alloc | apply Kept.drewN | apply Kept.drew) | exact Kept.refl _ _))).1, blk_lt hbox⟩ : wv2.heap.size ≤ gb360 ∧ gb360 < wv3.heap.size)); have n6_ := Aside0.mk (And.intro HLA.out ((Kept.below (show Kept wv2 wv2 (fun k_ => False) from by repeat (first | (with_reducible first | exact Kept.refl _ _ | apply Kept.alloc | apply Kept.drewN | apply Kept.drew) | exact Kept.refl _ _)) hb).1 : wv2.heap.size ≤ wv3.heap.size)); clear HOq1_; clear HOq2_; clear HB; clear HLA; have HOq1_ := n0_; have HOq2_ := n1_; have HB := n2_; have BK360 := n3_; have GE360 := n4_; have HG360 := n5_; have HLA := n6_; clear n0_ n1_ n2_ n3_ n4_ n5_ n6_; clear hb hbox hg; obtain ⟨hcz3_0, hcz3_1, hcz3_2, hcz3_3, hcz3_f0, hcz3_f1, hcz3_f2, hcz3_f3⟩ := lk_c4 BK360.out) | ((with_reducible refine gate_callee (f := 5) rfl ?_); refine goesL_ (some 45) rfl rfl Try.func5 (by kernel_rfl) rfl #[.slice A4 l4.length c4] rfl (by (try simp only [List.map_toArray, List.map_cons, List.map_nil]); first | done | rfl | (simp only [List.length_drop, List.length_take]; rfl)) ?_; (with_reducible refine (laws_toIntS.calls k _ _ l4 t361 _ ?side1 ?side2 A11.out).mono ?_); (case side1 => exact Kd.C_below HR4.out (by repeat (first | (with_reducible first | exact HB.out | apply below_alloc | apply pw_below_drewN | apply below_drew1 | refine below_set ?_ GE360.out) | exact HB.out))); (case side2 => exact HC4.out); rintro e wv4 ⟨vq4_, rfl, ho0, hb⟩; refine ⟨_, rfl, ?_⟩; have hkW := (show Kept wv3 ((((wv3.setCell ⟨gb360, 0, none⟩ (.int .i64 t352)).setCell ⟨gb360, 1, none⟩ (.int .i64 t353)).setCell ⟨gb360, 2, none⟩ (.int .i64 t354)).setCell ⟨gb360, 3, none⟩ (.int .i64 t355)) (fun k_ => k_ = gb360) from by repeat (first | (with_reducible first | exact Kept.refl _ _ | apply Kept.alloc | apply Kept.drewN | apply Kept.drew) | refine Kept.setCell ?_ (.inl (by first | exact rfl | exact .inl rfl | exact .inr rfl | exact .inr (.inl rfl) | exact .inr (.inr rfl))) _ | exact Kept.refl _ _)); have hk2 := Kept.below hkW hb; obtain ⟨Aq4_, cq4_, rfl⟩ := Kd.R_slice ho0; obtain ⟨okq4_, hoo0, hi0⟩ := lk_R ho0 (a := wv3.heap.size) (b := w.heap.size) hkW.1 (Nat.le_trans HB.out.size hkW.1); have n0_ := Aside0.mk (Kd.R_kept HOq1_.out hk2 (fun k_ hk_ hs_ => by have i_ := HIq1_.out k_ hk_; have hs2_ : k_ = gb360 := hs_; have g0_ := HG360.out; have z_ := HLA.out; omega)); have n1_ := Aside0.mk (Kd.S_kept HOq2_.out hk2 (fun k_ hk_ hs_ => by have i_ := HIq2_.out k_ hk_; have hs2_ : k_ = gb360 := hs_; have g0_ := HG360.out; have z_ := HLA.out; omega)); have n2_ := Aside0.mk (blk_below (show _ = some (Obj.cells #[.int .i64 t352, .int .i64 t353, .int .i64 t354, .int .i64 t355] 24 (0, 0)) from by (with_reducible repeat (first | refine blk_drewN ?_ _ | refine blk_drew ?_ | refine blk_alloc ?_ _)); refine blk_put (cs := #[.int .i64 t352, .int .i64 t353, .int .i64 t354, .int .i64 0]) ?_ 3 _ rfl; (with_reducible repeat (first | refine blk_drewN ?_ _ | refine blk_drew ?_ | refine blk_alloc ?_ _)); refine blk_put (cs := #[.int .i64 t352, .int .i64 t353, .int .i64 0, .int .i64 0]) ?_ 2 _ rfl; (with_reducible repeat (first | refine blk_drewN ?_ _ | refine blk_drew ?_ | refine blk_alloc ?_ _)); refine blk_put (cs := #[.int .i64 t352, .int .i64 0, .int .i64 0, .int .i64 0]) ?_ 1 _ rfl; (with_reducible repeat (first | refine blk_drewN ?_ _ | refine blk_drew ?_ | refine blk_alloc ?_ _)); refine blk_put (cs := #[.int .i64 0, .int .i64 0, .int .i64 0, .int .i64 0]) ?_ 0 _ rfl; (with_reducible repeat (first | refine blk_drewN ?_ _ | refine blk_drew ?_ | refine blk_alloc ?_ _)); exact BK360.out) hb); have n3_ := Aside0.mk (below_step (by repeat (first | (with_reducible first | exact HB.out | apply below_alloc | apply pw_below_drewN | apply below_drew1 | refine below_set ?_ GE360.out) | exact HB.out)) hb); have n4_ := Aside0.mk (And.intro HLA.out (hk2.1 : wv3.heap.size ≤ wv4.heap.size)); have n5_ := Aside0.mk (hoo0); have n6_ := Aside0.mk (hi0); clear HOq1_; clear HOq2_; clear BK360; clear HB; clear HLA; have HOq1_ := n0_; have HOq2_ := n1_; have BK360 := n2_; have HB := n3_; have HLA := n4_; have HOq4_ := n5_; have HIq4_ := n6_; clear n0_ n1_ n2_ n3_ n4_ n5_ n6_; (try clear hb); (try clear hkW); (try clear hk2); (try clear hkp); (try clear hoo0); (try clear hi0); (try clear ho0)) | ((with_reducible refine gate_callee (f := 6) rfl ?_); refine goesL_ (some 54) rfl rfl Try.func6 (by kernel_rfl) rfl #[.int .i64 a0, .int .i64 a1, .int .i64 a2, .int .i64 a3, .slice Aq4_ t361.length cq4_, .int .i64 a5, .int .i64 a6] rfl (by (try simp only [List.map_toArray, List.map_cons, List.map_nil]); first | done | rfl | (simp only [List.length_drop, List.length_take]; rfl)) ?_; (with_reducible refine (impl_MakeVault.calls k a0 a1 a2 a3 _ _ t361 a5 a6 t364 t365 t366 t367 t368 t371 _ ?side1 ?side2 A12.out).mono ?_); (case side1 => exact (Kd.R_reads' HOq4_.out).2.2); (case side2 => have h1_ := (Kd.R_reads' HOq4_.out).1; have h2_ := (Kd.R_reads' HOq4_.out).2.1; omega); rintro e wv5 ⟨vq5_, rfl, ho0, hb⟩; refine ⟨_, rfl, ?_⟩; have hkW := (show Kept wv4 wv4 (fun k_ => False) from by repeat (first | (with_reducible first | exact Kept.refl _ _ | apply Kept.alloc | apply Kept.drewN | apply Kept.drew) | exact Kept.refl _ _)); have hk2 := Kept.below hkW hb; obtain ⟨Aq5_, cq5_, rfl⟩ := Kd.S_slice ho0; obtain ⟨okq5_, hoo0, hi0⟩ := lk_S ho0 (a := wv4.heap.size) (b := w.heap.size) hkW.1 (Nat.le_trans HB.out.size hkW.1); have n0_ := Aside0.mk (Kd.R_below HOq1_.out hb); have n1_ := Aside0.mk (Kd.S_below HOq2_.out hb); have n2_ := Aside0.mk (Kd.R_below HOq4_.out hb); have n3_ := Aside0.mk (blk_below BK360.out hb); have n4_ := Aside0.mk (below_step (by repeat (first | (with_reducible first | exact HB.out | apply below_alloc | apply pw_below_drewN | apply below_drew1) | exact HB.out)) hb); have n5_ := Aside0.mk (And.intro HLA.out (hk2.1 : wv4.heap.size ≤ wv5.heap.size)); have n6_ := Aside0.mk (hoo0); have n7_ := Aside0.mk (hi0); clear HOq1_; clear HOq2_; clear HOq4_; clear BK360; clear HB; clear HLA; have HOq1_ := n0_; have HOq2_ := n1_; have HOq4_ := n2_; have BK360 := n3_; have HB := n4_; have HLA := n5_; have HOq5_ := n6_; have HIq5_ := n7_; clear n0_ n1_ n2_ n3_ n4_ n5_ n6_ n7_; (try clear hb); (try clear hkW); (try clear hk2); (try clear hkp); (try clear hoo0); (try clear hi0); (try clear ho0)) | ((with_reducible refine gate_dst (N := 19) rfl ?_); refine box_event ?hg (N := 19) ?hd (cs := #[.int .i64 0, .int .i64 0, .int .i64 0, .int .i64 0]) (t := 24) ?hr ?_; (case hd => rfl); (case hg => rfl); (case hr => first | (go_simp; done) | (go_simp; rfl)); intro gb372 hg wv6 hbox hb; have n0_ := Aside0.mk (Kd.R_below HOq1_.out hb); have n1_ := Aside0.mk (Kd.S_below HOq2_.out hb); have n2_ := Aside0.mk (Kd.R_below HOq4_.out hb); have n3_ := Aside0.mk (Kd.S_below HOq5_.out hb); have n4_ := Aside0.mk (blk_below BK360.out hb); have n5_ := Aside0.mk (below_step HB.out hb); have n6_ := Aside0.mk (hbox); have n7_ := Aside0.mk ((by rw [hg]; exact Nat.le_trans HB.out.size ((show Kept wv5 wv5 (fun k_ => False) from by repeat (first | (with_reducible first | exact Kept.refl _ _ | apply Kept.alloc | apply Kept.drewN | apply Kept.drew) | exact Kept.refl _ _))).1 : w.heap.size ≤ gb372)); have n8_ := Aside0.mk ((⟨by rw [hg]; exact ((show Kept wv5 wv5 (fun k_ => False) from by repeat (first | (with_reducible first | exact Kept.refl _ _ | apply Kept.alloc | apply Kept.drewN | apply Kept.drew) | exact Kept.refl _ _))).1, blk_lt hbox⟩ : wv5.heap.size ≤ gb372 ∧ gb372 < wv6.heap.size)); have n9_ := Aside0.mk (And.intro HLA.out ((Kept.below (show Kept wv5 wv5 (fun k_ => False) from by repeat (first | (with_reducible first | exact Kept.refl _ _ | apply Kept.alloc | apply Kept.drewN | apply Kept.drew) | exact Kept.refl _ _)) hb).1 : wv5.heap.size ≤ wv6.heap.size)); clear HOq1_; clear HOq2_; clear HOq4_; clear HOq5_; clear BK360; clear HB; clear HLA; have HOq1_ := n0_; have HOq2_ := n1_; have HOq4_ := n2_; have HOq5_ := n3_; have BK360 := n4_; have HB := n5_; have BK372 := n6_; have GE372 := n7_; have HG372 := n8_; have HLA := n9_; clear n0_ n1_ n2_ n3_ n4_ n5_ n6_ n7_ n8_ n9_; clear hb hbox hg; obtain ⟨hcz6_0, hcz6_1, hcz6_2, hcz6_3, hcz6_f0, hcz6_f1, hcz6_f2, hcz6_f3⟩ := lk_c4 BK372.out; obtain ⟨hcz7_0, hcz7_1, hcz7_2, hcz7_3, hcz7_f0, hcz7_f1, hcz7_f2, hcz7_f3⟩ := lk_c4 BK360.out; have hnb8_ : gb372 ≠ gb360 := (by have g1_ := HG372.out; have g2_ := HG360.out; have z_ := HLA.out; omega); have hnb9_ : gb360 ≠ gb372 := (by have g1_ := HG360.out; have g2_ := HG372.out; have z_ := HLA.out; omega)) | ((with_reducible refine gate_callee (f := 7) rfl ?_); refine goesL_ (some 60) rfl rfl Try.func7 (by kernel_rfl) rfl #[.agg #[.int .i64 t364, .int .i64 t365, .int .i64 t366, .int .i64 t367], .agg #[.int .i64 t352, .int .i64 t353, .int .i64 t354, .int .i64 t355]] rfl (by (try simp only [List.map_toArray, List.map_cons, List.map_nil]); first | done | rfl | (simp only [List.length_drop, List.length_take]; rfl)) ?_; (with_reducible refine (laws_eqVault.calls t364 t365 t366 t367 t352 t353 t354 t355 true _  A13.out).mono ?_); rintro e wv7 ⟨rfl, hb⟩; refine ⟨_, rfl, ?_⟩; have hkW := (show Kept wv6 ((((wv6.setCell ⟨gb372, 0, none⟩ (.int .i64 t364)).setCell ⟨gb372, 1, none⟩ (.int .i64 t365)).setCell ⟨gb372, 2, none⟩ (.int .i64 t366)).setCell ⟨gb372, 3, none⟩ (.int .i64 t367)) (fun k_ => k_ = gb372) from by repeat (first | (with_reducible first | exact Kept.refl _ _ | apply Kept.alloc | apply Kept.drewN | apply Kept.drew) | refine Kept.setCell ?_ (.inl (by first | exact rfl | exact .inl rfl | exact .inr rfl | exact .inr (.inl rfl) | exact .inr (.inr rfl))) _ | exact Kept.refl _ _)); have hk2 := Kept.below hkW hb; have n0_ := Aside0.mk (Kd.R_kept HOq1_.out hk2 (fun k_ hk_ hs_ => by have i_ := HIq1_.out k_ hk_; have hs2_ : k_ = gb372 := hs_; have g0_ := HG372.out; have z_ := HLA.out; omega)); have n1_ := Aside0.mk (Kd.S_kept HOq2_.out hk2 (fun k_ hk_ hs_ => by have i_ := HIq2_.out k_ hk_; have hs2_ : k_ = gb372 := hs_; have g0_ := HG372.out; have z_ := HLA.out; omega)); have n2_ := Aside0.mk (Kd.R_kept HOq4_.out hk2 (fun k_ hk_ hs_ => by have i_ := HIq4_.out k_ hk_; have hs2_ : k_ = gb372 := hs_; have g0_ := HG372.out; have z_ := HLA.out; omega)); have n3_ := Aside0.mk (Kd.S_kept HOq5_.out hk2 (fun k_ hk_ hs_ => by have i_ := HIq5_.out k_ hk_; have hs2_ : k_ = gb372 := hs_; have g0_ := HG372.out; have z_ := HLA.out; omega)); have n4_ := Aside0.mk (blk_below (blk_kept BK360.out (show Kept wv6 ((((wv6.setCell ⟨gb372, 0, none⟩ (.int .i64 t364)).setCell ⟨gb372, 1, none⟩ (.int .i64 t365)).setCell ⟨gb372, 2, none⟩ (.int .i64 t366)).setCell ⟨gb372, 3, none⟩ (.int .i64 t367)) (fun k_ => k_ = gb372) from by repeat (first | (with_reducible first | exact Kept.refl _ _ | apply Kept.alloc | apply Kept.drewN | apply Kept.drew) | refine Kept.setCell ?_ (.inl (by first | exact rfl | exact .inl rfl | exact .inr rfl | exact .inr (.inl rfl) | exact .inr (.inr rfl))) _ | exact Kept.refl _ _)) (fun hs_ => by have hs2_ : gb360 = gb372 := hs_; have g_ := HG360.out; have g0_ := HG372.out; have z_ := HLA.out; omega)) hb); have n5_ := Aside0.mk (blk_below (show _ = some (Obj.cells #[.int .i64 t364, .int .i64 t365, .int .i64 t366, .int .i64 t367] 24 (0, 0)) from by (with_reducible repeat (first | refine blk_drewN ?_ _ | refine blk_drew ?_ | refine blk_alloc ?_ _)); refine blk_put (cs := #[.int .i64 t364, .int .i64 t365, .int .i64 t366, .int .i64 0]) ?_ 3 _ rfl; (with_reducible repeat (first | refine blk_drewN ?_ _ | refine blk_drew ?_ | refine blk_alloc ?_ _)); refine blk_put (cs := #[.int .i64 t364, .int .i64 t365, .int .i64 0, .int .i64 0]) ?_ 2 _ rfl; (with_reducible repeat (first | refine blk_drewN ?_ _ | refine blk_drew ?_ | refine blk_alloc ?_ _)); refine blk_put (cs := #[.int .i64 t364, .int .i64 0, .int .i64 0, .int .i64 0]) ?_ 1 _ rfl; (with_reducible repeat (first | refine blk_drewN ?_ _ | refine blk_drew ?_ | refine blk_alloc ?_ _)); refine blk_put (cs := #[.int .i64 0, .int .i64 0, .int .i64 0, .int .i64 0]) ?_ 0 _ rfl; (with_reducible repeat (first | refine blk_drewN ?_ _ | refine blk_drew ?_ | refine blk_alloc ?_ _)); exact BK372.out) hb); have n6_ := Aside0.mk (below_step (by repeat (first | (with_reducible first | exact HB.out | apply below_alloc | apply pw_below_drewN | apply below_drew1 | refine below_set ?_ GE372.out) | exact HB.out)) hb); have n7_ := Aside0.mk (And.intro HLA.out (hk2.1 : wv6.heap.size ≤ wv7.heap.size)); clear HOq1_; clear HOq2_; clear HOq4_; clear HOq5_; clear BK360; clear BK372; clear HB; clear HLA; have HOq1_ := n0_; have HOq2_ := n1_; have HOq4_ := n2_; have HOq5_ := n3_; have BK360 := n4_; have BK372 := n5_; have HB := n6_; have HLA := n7_; clear n0_ n1_ n2_ n3_ n4_ n5_ n6_ n7_; (try clear hb); (try clear hkW); (try clear hk2); (try clear hkp)) | (go_at_call 8; (with_reducible refine (laws_eqKeeperHostS.calls k _ _ t368 _ _ t356 true _ ?side1 ?side2 ?side3 ?side4 A15.out).mono ?_); (case side1 => exact (Kd.S_reads' HOq5_.out).2.2); (case side2 => have h1_ := (Kd.S_reads' HOq5_.out).1; have h2_ := (Kd.S_reads' HOq5_.out).2.1; omega); (case side3 => exact (Kd.S_reads' HOq2_.out).2.2); (case side4 => have h1_ := (Kd.S_reads' HOq2_.out).1; have h2_ := (Kd.S_reads' HOq2_.out).2.1; omega); rintro e wv8 ⟨rfl, hb⟩; have hkW := (show Kept wv7 wv7 (fun k_ => False) from by repeat (first | (with_reducible first | exact Kept.refl _ _ | apply Kept.alloc | apply Kept.drewN | apply Kept.drew) | exact Kept.refl _ _)); have hk2 := Kept.below hkW hb; have n0_ := Aside0.mk (Kd.R_below HOq1_.out hb); have n1_ := Aside0.mk (Kd.S_below HOq2_.out hb); have n2_ := Aside0.mk (Kd.R_below HOq4_.out hb); have n3_ := Aside0.mk (Kd.S_below HOq5_.out hb); have n4_ := Aside0.mk (blk_below BK360.out hb); have n5_ := Aside0.mk (blk_below BK372.out hb); have n6_ := Aside0.mk (below_step (by repeat (first | (with_reducible first | exact HB.out | apply below_alloc | apply pw_below_drewN | apply below_drew1) | exact HB.out)) hb); have n7_ := Aside0.mk (And.intro HLA.out (hk2.1 : wv7.heap.size ≤ wv8.heap.size)); clear HOq1_; clear HOq2_; clear HOq4_; clear HOq5_; clear BK360; clear BK372; clear HB; clear HLA; have HOq1_ := n0_; have HOq2_ := n1_; have HOq4_ := n2_; have HOq5_ := n3_; have BK360 := n4_; have BK372 := n5_; have HB := n6_; have HLA := n7_; clear n0_ n1_ n2_ n3_ n4_ n5_ n6_ n7_; (try clear hb); (try clear hkW); (try clear hk2); (try clear hkp)) | ((with_reducible refine gate_callee (f := 5) rfl ?_); refine goesL_ (some 75) rfl rfl Try.func5 (by kernel_rfl) rfl #[.slice A4 l4.length c4] rfl (by (try simp only [List.map_toArray, List.map_cons, List.map_nil]); first | done | rfl | (simp only [List.length_drop, List.length_take]; rfl)) ?_; (with_reducible refine (laws_toIntS.calls k _ _ l4 t375 _ ?side1 ?side2 A18.out).mono ?_); (case side1 => exact Kd.C_below HR4.out (by repeat (first | (with_reducible first | exact HB.out | apply below_alloc | apply pw_below_drewN | apply below_drew1) | exact HB.out))); (case side2 => exact HC4.out); rintro e wv9 ⟨vq10_, rfl, ho0, hb⟩; refine ⟨_, rfl, ?_⟩; have hkW := (show Kept wv8 wv8 (fun k_ => False) from by repeat (first | (with_reducible first | exact Kept.refl _ _ | apply Kept.alloc | apply Kept.drewN | apply Kept.drew) | exact Kept.refl _ _)); have hk2 := Kept.below hkW hb; obtain ⟨Aq10_, cq10_, rfl⟩ := Kd.R_slice ho0; obtain ⟨okq10_, hoo0, hi0⟩ := lk_R ho0 (a := wv8.heap.size) (b := w.heap.size) hkW.1 (Nat.le_trans HB.out.size hkW.1); have n0_ := Aside0.mk (Kd.R_below HOq1_.out hb); have n1_ := Aside0.mk (Kd.S_below HOq2_.out hb); have n2_ := Aside0.mk (Kd.R_below HOq4_.out hb); have n3_ := Aside0.mk (Kd.S_below HOq5_.out hb); have n4_ := Aside0.mk (blk_below BK360.out hb); have n5_ := Aside0.mk (blk_below BK372.out hb); have n6_ := Aside0.mk (below_step (by repeat (first | (with_reducible first | exact HB.out | apply below_alloc | apply pw_below_drewN | apply below_drew1) | exact HB.out)) hb); have n7_ := Aside0.mk (And.intro HLA.out (hk2.1 : wv8.heap.size ≤ wv9.heap.size)); have n8_ := Aside0.mk (hoo0); have n9_ := Aside0.mk (hi0); clear HOq1_; clear HOq2_; clear HOq4_; clear HOq5_; clear BK360; clear BK372; clear HB; clear HLA; have HOq1_ := n0_; have HOq2_ := n1_; have HOq4_ := n2_; have HOq5_ := n3_; have BK360 := n4_; have BK372 := n5_; have HB := n6_; have HLA := n7_; have HOq10_ := n8_; have HIq10_ := n9_; clear n0_ n1_ n2_ n3_ n4_ n5_ n6_ n7_ n8_ n9_; (try clear hb); (try clear hkW); (try clear hk2); (try clear hkp); (try clear hoo0); (try clear hi0); (try clear ho0)) | ((with_reducible refine gate_callee (f := 9) rfl ?_); refine goesL_ (some 76) rfl rfl Try.func9 (by kernel_rfl) rfl #[.slice Aq4_ t361.length cq4_, .slice Aq10_ t375.length cq10_] rfl (by (try simp only [List.map_toArray, List.map_cons, List.map_nil]); first | done | rfl | (simp only [List.length_drop, List.length_take]; rfl)) ?_; (with_reducible refine (laws_eqIntS.calls k _ _ t361 _ _ t375 true _ ?side1 ?side2 ?side3 ?side4 A19.out).mono ?_); (case side1 => exact (Kd.R_reads' HOq4_.out).2.2); (case side2 => have h1_ := (Kd.R_reads' HOq4_.out).1; have h2_ := (Kd.R_reads' HOq4_.out).2.1; omega); (case side3 => exact (Kd.R_reads' HOq10_.out).2.2); (case side4 => have h1_ := (Kd.R_reads' HOq10_.out).1; have h2_ := (Kd.R_reads' HOq10_.out).2.1; omega); rintro e wv10 ⟨rfl, hd⟩; have hb := hd.below; clear hd; refine ⟨_, rfl, ?_⟩; have hkW := (show Kept wv9 wv9 (fun k_ => False) from by repeat (first | (with_reducible first | exact Kept.refl _ _ | apply Kept.alloc | apply Kept.drewN | apply Kept.drew) | exact Kept.refl _ _)); have hk2 := Kept.below hkW hb; have n0_ := Aside0.mk (Kd.R_below HOq1_.out hb); have n1_ := Aside0.mk (Kd.S_below HOq2_.out hb); have n2_ := Aside0.mk (Kd.R_below HOq4_.out hb); have n3_ := Aside0.mk (Kd.S_below HOq5_.out hb); have n4_ := Aside0.mk (Kd.R_below HOq10_.out hb); have n5_ := Aside0.mk (blk_below BK360.out hb); have n6_ := Aside0.mk (blk_below BK372.out hb); have n7_ := Aside0.mk (below_step (by repeat (first | (with_reducible first | exact HB.out | apply below_alloc | apply pw_below_drewN | apply below_drew1) | exact HB.out)) hb); have n8_ := Aside0.mk (And.intro HLA.out (hk2.1 : wv9.heap.size ≤ wv10.heap.size)); clear HOq1_; clear HOq2_; clear HOq4_; clear HOq5_; clear HOq10_; clear BK360; clear BK372; clear HB; clear HLA; have HOq1_ := n0_; have HOq2_ := n1_; have HOq4_ := n2_; have HOq5_ := n3_; have HOq10_ := n4_; have BK360 := n5_; have BK372 := n6_; have HB := n7_; have HLA := n8_; clear n0_ n1_ n2_ n3_ n4_ n5_ n6_ n7_ n8_; (try clear hb); (try clear hkW); (try clear hk2); (try clear hkp)) | ((with_reducible refine gate_callee (f := 10) rfl ?_); refine goesL_ (some 80) rfl rfl Try.func10 (by kernel_rfl) rfl #[.slice Aq4_ t361.length cq4_, .int .i64 1] rfl (by (try simp only [List.map_toArray, List.map_cons, List.map_nil]); first | done | rfl | (simp only [List.length_drop, List.length_take]; rfl)) ?_; (with_reducible refine (laws_markIntS.calls k (fun k_ => some k_ = (.slice Aq4_ t361.length cq4_ : Value).ownBlock ∧ okq4_ k_) (.slice Aq4_ t361.length cq4_) t361 1 t379 t380 w _ ?side1 ?side2 A21.out).mono ?_); (case side1 => repeat (first | (with_reducible first | exact HB.out | apply below_alloc | apply pw_below_drewN | apply below_drew1) | exact HB.out)); (case side2 => exact Kd.R_tight2 rfl HOq4_.out); rintro e wv11 ⟨rfl, hy0, hb, hkp⟩; refine ⟨_, rfl, ?_⟩; have hkW := (show Kept wv10 wv10 (fun k_ => False) from by repeat (first | (with_reducible first | exact Kept.refl _ _ | apply Kept.alloc | apply Kept.drewN | apply Kept.drew) | exact Kept.refl _ _)); have n0_ := Aside0.mk (Kd.R_kept (Kd.R_kept HOq1_.out hkW (fun _ _ hs_ => hs_.elim)) hkp (fun k_ hk_ hs_ => (have i_ := HIq1_.out k_ hk_; (have j_ := HIq4_.out _ (hs_).2; by have z_ := HLA.out; omega)))); have n1_ := Aside0.mk (Kd.S_kept (Kd.S_kept HOq2_.out hkW (fun _ _ hs_ => hs_.elim)) hkp (fun k_ hk_ hs_ => (have i_ := HIq2_.out k_ hk_; (have j_ := HIq4_.out _ (hs_).2; by have z_ := HLA.out; omega)))); have n2_ := Aside0.mk (Kd.R_reok rfl hy0 (fun k_ e_ => HOq4_.out.1 k_ e_)); have n3_ := Aside0.mk (Kd.S_kept (Kd.S_kept HOq5_.out hkW (fun _ _ hs_ => hs_.elim)) hkp (fun k_ hk_ hs_ => (have i_ := HIq5_.out k_ hk_; (have j_ := HIq4_.out _ (hs_).2; by have z_ := HLA.out; omega)))); have n4_ := Aside0.mk (Kd.R_kept (Kd.R_kept HOq10_.out hkW (fun _ _ hs_ => hs_.elim)) hkp (fun k_ hk_ hs_ => (have i_ := HIq10_.out k_ hk_; (have j_ := HIq4_.out _ (hs_).2; by have z_ := HLA.out; omega)))); have n5_ := Aside0.mk (blk_kept BK360.out hkp (fun hs_ => (have i_ := HG360.out; (have j_ := HIq4_.out _ (hs_).2; by have z_ := HLA.out; omega)))); have n6_ := Aside0.mk (blk_kept BK372.out hkp (fun hs_ => (have i_ := HG372.out; (have j_ := HIq4_.out _ (hs_).2; by have z_ := HLA.out; omega)))); have n7_ := Aside0.mk (hb); have n8_ := Aside0.mk (And.intro HLA.out (Nat.le_trans hkW.1 hkp.1 : wv10.heap.size ≤ wv11.heap.size)); clear HOq1_; clear HOq2_; clear HOq4_; clear HOq5_; clear HOq10_; clear BK360; clear BK372; clear HB; clear HLA; have HOq1_ := n0_; have HOq2_ := n1_; have HOq4_ := n2_; have HOq5_ := n3_; have HOq10_ := n4_; have BK360 := n5_; have BK372 := n6_; have HB := n7_; have HLA := n8_; clear n0_ n1_ n2_ n3_ n4_ n5_ n6_ n7_ n8_; (try clear hb); (try clear hkW); (try clear hk2); (try clear hkp); (try clear hy0); obtain ⟨hcz11_0, hcz11_1, hcz11_2, hcz11_3, hcz11_f0, hcz11_f1, hcz11_f2, hcz11_f3⟩ := lk_c4 BK372.out; obtain ⟨hcz12_0, hcz12_1, hcz12_2, hcz12_3, hcz12_f0, hcz12_f1, hcz12_f2, hcz12_f3⟩ := lk_c4 BK360.out; have hnb13_ : gb372 ≠ gb360 := (by have g1_ := HG372.out; have g2_ := HG360.out; have z_ := HLA.out; omega); have hnb14_ : gb360 ≠ gb372 := (by have g1_ := HG360.out; have g2_ := HG372.out; have z_ := HLA.out; omega)) | (go_at_call 7; (with_reducible refine (laws_eqVault.calls t364 t365 t366 t367 t352 t353 t354 t355 true _  A23.out).mono ?_); rintro e wv12 ⟨rfl, hb⟩; have hkW := (show Kept wv11 wv11 (fun k_ => False) from by repeat (first | (with_reducible first | exact Kept.refl _ _ | apply Kept.alloc | apply Kept.drewN | apply Kept.drew) | exact Kept.refl _ _)); have hk2 := Kept.below hkW hb; have n0_ := Aside0.mk (Kd.R_below HOq1_.out hb); have n1_ := Aside0.mk (Kd.S_below HOq2_.out hb); have n2_ := Aside0.mk (Kd.R_below HOq4_.out hb); have n3_ := Aside0.mk (Kd.S_below HOq5_.out hb); have n4_ := Aside0.mk (Kd.R_below HOq10_.out hb); have n5_ := Aside0.mk (blk_below BK360.out hb); have n6_ := Aside0.mk (blk_below BK372.out hb); have n7_ := Aside0.mk (below_step (by repeat (first | (with_reducible first | exact HB.out | apply below_alloc | apply pw_below_drewN | apply below_drew1) | exact HB.out)) hb); have n8_ := Aside0.mk (And.intro HLA.out (hk2.1 : wv11.heap.size ≤ wv12.heap.size)); clear HOq1_; clear HOq2_; clear HOq4_; clear HOq5_; clear HOq10_; clear BK360; clear BK372; clear HB; clear HLA; have HOq1_ := n0_; have HOq2_ := n1_; have HOq4_ := n2_; have HOq5_ := n3_; have HOq10_ := n4_; have BK360 := n5_; have BK372 := n6_; have HB := n7_; have HLA := n8_; clear n0_ n1_ n2_ n3_ n4_ n5_ n6_ n7_ n8_; (try clear hb); (try clear hkW); (try clear hk2); (try clear hkp)) | (go_at_call 8; (with_reducible refine (laws_eqKeeperHostS.calls k _ _ t368 _ _ t356 true _ ?side1 ?side2 ?side3 ?side4 A25.out).mono ?_); (case side1 => exact (Kd.S_reads' HOq5_.out).2.2); (case side2 => have h1_ := (Kd.S_reads' HOq5_.out).1; have h2_ := (Kd.S_reads' HOq5_.out).2.1; omega); (case side3 => exact (Kd.S_reads' HOq2_.out).2.2); (case side4 => have h1_ := (Kd.S_reads' HOq2_.out).1; have h2_ := (Kd.S_reads' HOq2_.out).2.1; omega); rintro e wv13 ⟨rfl, hb⟩; have hkW := (show Kept wv12 wv12 (fun k_ => False) from by repeat (first | (with_reducible first | exact Kept.refl _ _ | apply Kept.alloc | apply Kept.drewN | apply Kept.drew) | exact Kept.refl _ _)); have hk2 := Kept.below hkW hb; have n0_ := Aside0.mk (Kd.R_below HOq1_.out hb); have n1_ := Aside0.mk (Kd.S_below HOq2_.out hb); have n2_ := Aside0.mk (Kd.R_below HOq4_.out hb); have n3_ := Aside0.mk (Kd.S_below HOq5_.out hb); have n4_ := Aside0.mk (Kd.R_below HOq10_.out hb); have n5_ := Aside0.mk (blk_below BK360.out hb); have n6_ := Aside0.mk (blk_below BK372.out hb); have n7_ := Aside0.mk (below_step (by repeat (first | (with_reducible first | exact HB.out | apply below_alloc | apply pw_below_drewN | apply below_drew1) | exact HB.out)) hb); have n8_ := Aside0.mk (And.intro HLA.out (hk2.1 : wv12.heap.size ≤ wv13.heap.size)); clear HOq1_; clear HOq2_; clear HOq4_; clear HOq5_; clear HOq10_; clear BK360; clear BK372; clear HB; clear HLA; have HOq1_ := n0_; have HOq2_ := n1_; have HOq4_ := n2_; have HOq5_ := n3_; have HOq10_ := n4_; have BK360 := n5_; have BK372 := n6_; have HB := n7_; have HLA := n8_; clear n0_ n1_ n2_ n3_ n4_ n5_ n6_ n7_ n8_; (try clear hb); (try clear hkW); (try clear hk2); (try clear hkp)) | ((with_reducible refine gate_callee (f := 11) rfl ?_); refine goesL_ (some 102) rfl rfl Try.func11 (by kernel_rfl) rfl #[.slice Aq5_ t368.length cq5_, .int .i64 1] rfl (by (try simp only [List.map_toArray, List.map_cons, List.map_nil]); first | done | rfl | (simp only [List.length_drop, List.length_take]; rfl)) ?_; (with_reducible refine (laws_markKeeperHostS.calls k (fun k_ => okq5_ k_) (.slice Aq5_ t368.length cq5_) t368 1 t383 t384 w _ ?side1 ?side2 A27.out).mono ?_); (case side1 => repeat (first | (with_reducible first | exact HB.out | apply below_alloc | apply pw_below_drewN | apply below_drew1) | exact HB.out)); (case side2 => exact HOq5_.out); rintro e wv14 ⟨rfl, hy0, hb, hkp⟩; refine ⟨_, rfl, ?_⟩; have hkW := (show Kept wv13 wv13 (fun k_ => False) from by repeat (first | (with_reducible first | exact Kept.refl _ _ | apply Kept.alloc | apply Kept.drewN | apply Kept.drew) | exact Kept.refl _ _)); have n0_ := Aside0.mk (Kd.R_kept (Kd.R_kept HOq1_.out hkW (fun _ _ hs_ => hs_.elim)) hkp (fun k_ hk_ hs_ => (have i_ := HIq1_.out k_ hk_; (have j_ := HIq5_.out _ hs_; by have z_ := HLA.out; omega)))); have n1_ := Aside0.mk (Kd.S_kept (Kd.S_kept HOq2_.out hkW (fun _ _ hs_ => hs_.elim)) hkp (fun k_ hk_ hs_ => (have i_ := HIq2_.out k_ hk_; (have j_ := HIq5_.out _ hs_; by have z_ := HLA.out; omega)))); have n2_ := Aside0.mk (Kd.R_kept (Kd.R_kept HOq4_.out hkW (fun _ _ hs_ => hs_.elim)) hkp (fun k_ hk_ hs_ => (have i_ := HIq4_.out k_ hk_; (have j_ := HIq5_.out _ hs_; by have z_ := HLA.out; omega)))); have n3_ := Aside0.mk (hy0); have n4_ := Aside0.mk (Kd.R_kept (Kd.R_kept HOq10_.out hkW (fun _ _ hs_ => hs_.elim)) hkp (fun k_ hk_ hs_ => (have i_ := HIq10_.out k_ hk_; (have j_ := HIq5_.out _ hs_; by have z_ := HLA.out; omega)))); have n5_ := Aside0.mk (blk_kept BK360.out hkp (fun hs_ => (have i_ := HG360.out; (have j_ := HIq5_.out _ hs_; by have z_ := HLA.out; omega)))); have n6_ := Aside0.mk (blk_kept BK372.out hkp (fun hs_ => (have i_ := HG372.out; (have j_ := HIq5_.out _ hs_; by have z_ := HLA.out; omega)))); have n7_ := Aside0.mk (hb); have n8_ := Aside0.mk (And.intro HLA.out (Nat.le_trans hkW.1 hkp.1 : wv13.heap.size ≤ wv14.heap.size)); clear HOq1_; clear HOq2_; clear HOq4_; clear HOq5_; clear HOq10_; clear BK360; clear BK372; clear HB; clear HLA; have HOq1_ := n0_; have HOq2_ := n1_; have HOq4_ := n2_; have HOq5_ := n3_; have HOq10_ := n4_; have BK360 := n5_; have BK372 := n6_; have HB := n7_; have HLA := n8_; clear n0_ n1_ n2_ n3_ n4_ n5_ n6_ n7_ n8_; (try clear hb); (try clear hkW); (try clear hk2); (try clear hkp); (try clear hy0)) | ((with_reducible refine gate_callee (f := 12) rfl ?_); refine goesL_ (some 105) rfl rfl Try.func12 (by kernel_rfl) rfl #[.slice Aq5_ t384.length cq5_, .int .i64 1] rfl (by (try simp only [List.map_toArray, List.map_cons, List.map_nil]); first | done | (rw [show t384.length = t368.length from (Kd.S_reads' HOq5_.out).1.symm] <;> rfl) | rfl | (simp only [List.length_drop, List.length_take]; rfl)) ?_; (with_reducible refine (laws_heldKeeperHostS.calls k _ _ t384 1 t385 _ ?side1 ?side2 A28.out).mono ?_); (case side1 => exact (Kd.S_reads' HOq5_.out).2.2); (case side2 => have h1_ := (Kd.S_reads' HOq5_.out).1; have h2_ := (Kd.S_reads' HOq5_.out).2.1; omega); rintro e wv15 ⟨rfl, hd⟩; have hb := hd.below; clear hd; refine ⟨_, rfl, ?_⟩; have hkW := (show Kept wv14 wv14 (fun k_ => False) from by repeat (first | (with_reducible first | exact Kept.refl _ _ | apply Kept.alloc | apply Kept.drewN | apply Kept.drew) | exact Kept.refl _ _)); have hk2 := Kept.below hkW hb; have n0_ := Aside0.mk (Kd.R_below HOq1_.out hb); have n1_ := Aside0.mk (Kd.S_below HOq2_.out hb); have n2_ := Aside0.mk (Kd.R_below HOq4_.out hb); have n3_ := Aside0.mk (Kd.S_below HOq5_.out hb); have n4_ := Aside0.mk (Kd.R_below HOq10_.out hb); have n5_ := Aside0.mk (blk_below BK360.out hb); have n6_ := Aside0.mk (blk_below BK372.out hb); have n7_ := Aside0.mk (below_step (by repeat (first | (with_reducible first | exact HB.out | apply below_alloc | apply pw_below_drewN | apply below_drew1) | exact HB.out)) hb); have n8_ := Aside0.mk (And.intro HLA.out (hk2.1 : wv14.heap.size ≤ wv15.heap.size)); clear HOq1_; clear HOq2_; clear HOq4_; clear HOq5_; clear HOq10_; clear BK360; clear BK372; clear HB; clear HLA; have HOq1_ := n0_; have HOq2_ := n1_; have HOq4_ := n2_; have HOq5_ := n3_; have HOq10_ := n4_; have BK360 := n5_; have BK372 := n6_; have HB := n7_; have HLA := n8_; clear n0_ n1_ n2_ n3_ n4_ n5_ n6_ n7_ n8_; (try clear hb); (try clear hkW); (try clear hk2); (try clear hkp)) | ((with_reducible refine gate_callee (f := 5) rfl ?_); refine goesL_ (some 117) rfl rfl Try.func5 (by kernel_rfl) rfl #[.slice A4 l4.length c4] rfl (by (try simp only [List.map_toArray, List.map_cons, List.map_nil]); first | done | rfl | (simp only [List.length_drop, List.length_take]; rfl)) ?_; (with_reducible refine (laws_toIntS.calls k _ _ l4 t386 _ ?side1 ?side2 A31.out).mono ?_); (case side1 => exact Kd.C_below HR4.out (by repeat (first | (with_reducible first | exact HB.out | apply below_alloc | apply pw_below_drewN | apply below_drew1) | exact HB.out))); (case side2 => exact HC4.out); rintro e wv16 ⟨vq15_, rfl, ho0, hb⟩; refine ⟨_, rfl, ?_⟩; have hkW := (show Kept wv15 wv15 (fun k_ => False) from by repeat (first | (with_reducible first | exact Kept.refl _ _ | apply Kept.alloc | apply Kept.drewN | apply Kept.drew) | exact Kept.refl _ _)); have hk2 := Kept.below hkW hb; obtain ⟨Aq15_, cq15_, rfl⟩ := Kd.R_slice ho0; obtain ⟨okq15_, hoo0, hi0⟩ := lk_R ho0 (a := wv15.heap.size) (b := w.heap.size) hkW.1 (Nat.le_trans HB.out.size hkW.1); have n0_ := Aside0.mk (Kd.R_below HOq1_.out hb); have n1_ := Aside0.mk (Kd.S_below HOq2_.out hb); have n2_ := Aside0.mk (Kd.R_below HOq4_.out hb); have n3_ := Aside0.mk (Kd.S_below HOq5_.out hb); have n4_ := Aside0.mk (Kd.R_below HOq10_.out hb); have n5_ := Aside0.mk (blk_below BK360.out hb); have n6_ := Aside0.mk (blk_below BK372.out hb); have n7_ := Aside0.mk (below_step (by repeat (first | (with_reducible first | exact HB.out | apply below_alloc | apply pw_below_drewN | apply below_drew1) | exact HB.out)) hb); have n8_ := Aside0.mk (And.intro HLA.out (hk2.1 : wv15.heap.size ≤ wv16.heap.size)); have n9_ := Aside0.mk (hoo0); have n10_ := Aside0.mk (hi0); clear HOq1_; clear HOq2_; clear HOq4_; clear HOq5_; clear HOq10_; clear BK360; clear BK372; clear HB; clear HLA; have HOq1_ := n0_; have HOq2_ := n1_; have HOq4_ := n2_; have HOq5_ := n3_; have HOq10_ := n4_; have BK360 := n5_; have BK372 := n6_; have HB := n7_; have HLA := n8_; have HOq15_ := n9_; have HIq15_ := n10_; clear n0_ n1_ n2_ n3_ n4_ n5_ n6_ n7_ n8_ n9_ n10_; (try clear hb); (try clear hkW); (try clear hk2); (try clear hkp); (try clear hoo0); (try clear hi0); (try clear ho0)) | ((with_reducible refine gate_callee (f := 6) rfl ?_); refine goesL_ (some 120) rfl rfl Try.func6 (by kernel_rfl) rfl #[.int .i64 a0, .int .i64 a1, .int .i64 a2, .int .i64 a3, .slice Aq15_ t386.length cq15_, .int .i64 a5, .int .i64 a6] rfl (by (try simp only [List.map_toArray, List.map_cons, List.map_nil]); first | done | rfl | (simp only [List.length_drop, List.length_take]; rfl)) ?_; (with_reducible refine (impl_MakeVault.calls k a0 a1 a2 a3 _ _ t386 a5 a6 t389 t390 t391 t392 t393 t396 _ ?side1 ?side2 A32.out).mono ?_); (case side1 => exact (Kd.R_reads' HOq15_.out).2.2); (case side2 => have h1_ := (Kd.R_reads' HOq15_.out).1; have h2_ := (Kd.R_reads' HOq15_.out).2.1; omega); rintro e wv17 ⟨vq16_, rfl, ho0, hb⟩; refine ⟨_, rfl, ?_⟩; have hkW := (show Kept wv16 wv16 (fun k_ => False) from by repeat (first | (with_reducible first | exact Kept.refl _ _ | apply Kept.alloc | apply Kept.drewN | apply Kept.drew) | exact Kept.refl _ _)); have hk2 := Kept.below hkW hb; obtain ⟨Aq16_, cq16_, rfl⟩ := Kd.S_slice ho0; obtain ⟨okq16_, hoo0, hi0⟩ := lk_S ho0 (a := wv16.heap.size) (b := w.heap.size) hkW.1 (Nat.le_trans HB.out.size hkW.1); have n0_ := Aside0.mk (Kd.R_below HOq1_.out hb); have n1_ := Aside0.mk (Kd.S_below HOq2_.out hb); have n2_ := Aside0.mk (Kd.R_below HOq4_.out hb); have n3_ := Aside0.mk (Kd.S_below HOq5_.out hb); have n4_ := Aside0.mk (Kd.R_below HOq10_.out hb); have n5_ := Aside0.mk (Kd.R_below HOq15_.out hb); have n6_ := Aside0.mk (blk_below BK360.out hb); have n7_ := Aside0.mk (blk_below BK372.out hb); have n8_ := Aside0.mk (below_step (by repeat (first | (with_reducible first | exact HB.out | apply below_alloc | apply pw_below_drewN | apply below_drew1) | exact HB.out)) hb); have n9_ := Aside0.mk (And.intro HLA.out (hk2.1 : wv16.heap.size ≤ wv17.heap.size)); have n10_ := Aside0.mk (hoo0); have n11_ := Aside0.mk (hi0); clear HOq1_; clear HOq2_; clear HOq4_; clear HOq5_; clear HOq10_; clear HOq15_; clear BK360; clear BK372; clear HB; clear HLA; have HOq1_ := n0_; have HOq2_ := n1_; have HOq4_ := n2_; have HOq5_ := n3_; have HOq10_ := n4_; have HOq15_ := n5_; have BK360 := n6_; have BK372 := n7_; have HB := n8_; have HLA := n9_; have HOq16_ := n10_; have HIq16_ := n11_; clear n0_ n1_ n2_ n3_ n4_ n5_ n6_ n7_ n8_ n9_ n10_ n11_; (try clear hb); (try clear hkW); (try clear hk2); (try clear hkp); (try clear hoo0); (try clear hi0); (try clear ho0)) | ((with_reducible refine gate_dst (N := 25) rfl ?_); refine box_event ?hg (N := 25) ?hd (cs := #[.int .i64 0, .int .i64 0, .int .i64 0, .int .i64 0]) (t := 24) ?hr ?_; (case hd => rfl); (case hg => rfl); (case hr => first | (go_simp; done) | (go_simp; rfl)); intro gb397 hg wv18 hbox hb; have n0_ := Aside0.mk (Kd.R_below HOq1_.out hb); have n1_ := Aside0.mk (Kd.S_below HOq2_.out hb); have n2_ := Aside0.mk (Kd.R_below HOq4_.out hb); have n3_ := Aside0.mk (Kd.S_below HOq5_.out hb); have n4_ := Aside0.mk (Kd.R_below HOq10_.out hb); have n5_ := Aside0.mk (Kd.R_below HOq15_.out hb); have n6_ := Aside0.mk (Kd.S_below HOq16_.out hb); have n7_ := Aside0.mk (blk_below BK360.out hb); have n8_ := Aside0.mk (blk_below BK372.out hb); have n9_ := Aside0.mk (below_step HB.out hb); have n10_ := Aside0.mk (hbox); have n11_ := Aside0.mk ((by rw [hg]; exact Nat.le_trans HB.out.size ((show Kept wv17 wv17 (fun k_ => False) from by repeat (first | (with_reducible first | exact Kept.refl _ _ | apply Kept.alloc | apply Kept.drewN | apply Kept.drew) | exact Kept.refl _ _))).1 : w.heap.size ≤ gb397)); have n12_ := Aside0.mk ((⟨by rw [hg]; exact ((show Kept wv17 wv17 (fun k_ => False) from by repeat (first | (with_reducible first | exact Kept.refl _ _ | apply Kept.alloc | apply Kept.drewN | apply Kept.drew) | exact Kept.refl _ _))).1, blk_lt hbox⟩ : wv17.heap.size ≤ gb397 ∧ gb397 < wv18.heap.size)); have n13_ := Aside0.mk (And.intro HLA.out ((Kept.below (show Kept wv17 wv17 (fun k_ => False) from by repeat (first | (with_reducible first | exact Kept.refl _ _ | apply Kept.alloc | apply Kept.drewN | apply Kept.drew) | exact Kept.refl _ _)) hb).1 : wv17.heap.size ≤ wv18.heap.size)); clear HOq1_; clear HOq2_; clear HOq4_; clear HOq5_; clear HOq10_; clear HOq15_; clear HOq16_; clear BK360; clear BK372; clear HB; clear HLA; have HOq1_ := n0_; have HOq2_ := n1_; have HOq4_ := n2_; have HOq5_ := n3_; have HOq10_ := n4_; have HOq15_ := n5_; have HOq16_ := n6_; have BK360 := n7_; have BK372 := n8_; have HB := n9_; have BK397 := n10_; have GE397 := n11_; have HG397 := n12_; have HLA := n13_; clear n0_ n1_ n2_ n3_ n4_ n5_ n6_ n7_ n8_ n9_ n10_ n11_ n12_ n13_; clear hb hbox hg; obtain ⟨hcz17_0, hcz17_1, hcz17_2, hcz17_3, hcz17_f0, hcz17_f1, hcz17_f2, hcz17_f3⟩ := lk_c4 BK397.out; obtain ⟨hcz18_0, hcz18_1, hcz18_2, hcz18_3, hcz18_f0, hcz18_f1, hcz18_f2, hcz18_f3⟩ := lk_c4 BK360.out; have hnb19_ : gb397 ≠ gb360 := (by have g1_ := HG397.out; have g2_ := HG360.out; have z_ := HLA.out; omega); have hnb20_ : gb360 ≠ gb397 := (by have g1_ := HG360.out; have g2_ := HG397.out; have z_ := HLA.out; omega)) | ((with_reducible refine gate_callee (f := 7) rfl ?_); refine goesL_ (some 126) rfl rfl Try.func7 (by kernel_rfl) rfl #[.agg #[.int .i64 t389, .int .i64 t390, .int .i64 t391, .int .i64 t392], .agg #[.int .i64 t352, .int .i64 t353, .int .i64 t354, .int .i64 t355]] rfl (by (try simp only [List.map_toArray, List.map_cons, List.map_nil]); first | done | rfl | (simp only [List.length_drop, List.length_take]; rfl)) ?_; (with_reducible refine (laws_eqVault.calls t389 t390 t391 t392 t352 t353 t354 t355 true _  A33.out).mono ?_); rintro e wv19 ⟨rfl, hb⟩; refine ⟨_, rfl, ?_⟩; have hkW := (show Kept wv18 ((((wv18.setCell ⟨gb397, 0, none⟩ (.int .i64 t389)).setCell ⟨gb397, 1, none⟩ (.int .i64 t390)).setCell ⟨gb397, 2, none⟩ (.int .i64 t391)).setCell ⟨gb397, 3, none⟩ (.int .i64 t392)) (fun k_ => k_ = gb397) from by repeat (first | (with_reducible first | exact Kept.refl _ _ | apply Kept.alloc | apply Kept.drewN | apply Kept.drew) | refine Kept.setCell ?_ (.inl (by first | exact rfl | exact .inl rfl | exact .inr rfl | exact .inr (.inl rfl) | exact .inr (.inr rfl))) _ | exact Kept.refl _ _)); have hk2 := Kept.below hkW hb; have n0_ := Aside0.mk (Kd.R_kept HOq1_.out hk2 (fun k_ hk_ hs_ => by have i_ := HIq1_.out k_ hk_; have hs2_ : k_ = gb397 := hs_; have g0_ := HG397.out; have z_ := HLA.out; omega)); have n1_ := Aside0.mk (Kd.S_kept HOq2_.out hk2 (fun k_ hk_ hs_ => by have i_ := HIq2_.out k_ hk_; have hs2_ : k_ = gb397 := hs_; have g0_ := HG397.out; have z_ := HLA.out; omega)); have n2_ := Aside0.mk (Kd.R_kept HOq4_.out hk2 (fun k_ hk_ hs_ => by have i_ := HIq4_.out k_ hk_; have hs2_ : k_ = gb397 := hs_; have g0_ := HG397.out; have z_ := HLA.out; omega)); have n3_ := Aside0.mk (Kd.S_kept HOq5_.out hk2 (fun k_ hk_ hs_ => by have i_ := HIq5_.out k_ hk_; have hs2_ : k_ = gb397 := hs_; have g0_ := HG397.out; have z_ := HLA.out; omega)); have n4_ := Aside0.mk (Kd.R_kept HOq10_.out hk2 (fun k_ hk_ hs_ => by have i_ := HIq10_.out k_ hk_; have hs2_ : k_ = gb397 := hs_; have g0_ := HG397.out; have z_ := HLA.out; omega)); have n5_ := Aside0.mk (Kd.R_kept HOq15_.out hk2 (fun k_ hk_ hs_ => by have i_ := HIq15_.out k_ hk_; have hs2_ : k_ = gb397 := hs_; have g0_ := HG397.out; have z_ := HLA.out; omega)); have n6_ := Aside0.mk (Kd.S_kept HOq16_.out hk2 (fun k_ hk_ hs_ => by have i_ := HIq16_.out k_ hk_; have hs2_ : k_ = gb397 := hs_; have g0_ := HG397.out; have z_ := HLA.out; omega)); have n7_ := Aside0.mk (blk_below (blk_kept BK360.out (show Kept wv18 ((((wv18.setCell ⟨gb397, 0, none⟩ (.int .i64 t389)).setCell ⟨gb397, 1, none⟩ (.int .i64 t390)).setCell ⟨gb397, 2, none⟩ (.int .i64 t391)).setCell ⟨gb397, 3, none⟩ (.int .i64 t392)) (fun k_ => k_ = gb397) from by repeat (first | (with_reducible first | exact Kept.refl _ _ | apply Kept.alloc | apply Kept.drewN | apply Kept.drew) | refine Kept.setCell ?_ (.inl (by first | exact rfl | exact .inl rfl | exact .inr rfl | exact .inr (.inl rfl) | exact .inr (.inr rfl))) _ | exact Kept.refl _ _)) (fun hs_ => by have hs2_ : gb360 = gb397 := hs_; have g_ := HG360.out; have g0_ := HG397.out; have z_ := HLA.out; omega)) hb); have n8_ := Aside0.mk (blk_below (blk_kept BK372.out (show Kept wv18 ((((wv18.setCell ⟨gb397, 0, none⟩ (.int .i64 t389)).setCell ⟨gb397, 1, none⟩ (.int .i64 t390)).setCell ⟨gb397, 2, none⟩ (.int .i64 t391)).setCell ⟨gb397, 3, none⟩ (.int .i64 t392)) (fun k_ => k_ = gb397) from by repeat (first | (with_reducible first | exact Kept.refl _ _ | apply Kept.alloc | apply Kept.drewN | apply Kept.drew) | refine Kept.setCell ?_ (.inl (by first | exact rfl | exact .inl rfl | exact .inr rfl | exact .inr (.inl rfl) | exact .inr (.inr rfl))) _ | exact Kept.refl _ _)) (fun hs_ => by have hs2_ : gb372 = gb397 := hs_; have g_ := HG372.out; have g0_ := HG397.out; have z_ := HLA.out; omega)) hb); have n9_ := Aside0.mk (blk_below (show _ = some (Obj.cells #[.int .i64 t389, .int .i64 t390, .int .i64 t391, .int .i64 t392] 24 (0, 0)) from by (with_reducible repeat (first | refine blk_drewN ?_ _ | refine blk_drew ?_ | refine blk_alloc ?_ _)); refine blk_put (cs := #[.int .i64 t389, .int .i64 t390, .int .i64 t391, .int .i64 0]) ?_ 3 _ rfl; (with_reducible repeat (first | refine blk_drewN ?_ _ | refine blk_drew ?_ | refine blk_alloc ?_ _)); refine blk_put (cs := #[.int .i64 t389, .int .i64 t390, .int .i64 0, .int .i64 0]) ?_ 2 _ rfl; (with_reducible repeat (first | refine blk_drewN ?_ _ | refine blk_drew ?_ | refine blk_alloc ?_ _)); refine blk_put (cs := #[.int .i64 t389, .int .i64 0, .int .i64 0, .int .i64 0]) ?_ 1 _ rfl; (with_reducible repeat (first | refine blk_drewN ?_ _ | refine blk_drew ?_ | refine blk_alloc ?_ _)); refine blk_put (cs := #[.int .i64 0, .int .i64 0, .int .i64 0, .int .i64 0]) ?_ 0 _ rfl; (with_reducible repeat (first | refine blk_drewN ?_ _ | refine blk_drew ?_ | refine blk_alloc ?_ _)); exact BK397.out) hb); have n10_ := Aside0.mk (below_step (by repeat (first | (with_reducible first | exact HB.out | apply below_alloc | apply pw_below_drewN | apply below_drew1 | refine below_set ?_ GE397.out) | exact HB.out)) hb); have n11_ := Aside0.mk (And.intro HLA.out (hk2.1 : wv18.heap.size ≤ wv19.heap.size)); clear HOq1_; clear HOq2_; clear HOq4_; clear HOq5_; clear HOq10_; clear HOq15_; clear HOq16_; clear BK360; clear BK372; clear BK397; clear HB; clear HLA; have HOq1_ := n0_; have HOq2_ := n1_; have HOq4_ := n2_; have HOq5_ := n3_; have HOq10_ := n4_; have HOq15_ := n5_; have HOq16_ := n6_; have BK360 := n7_; have BK372 := n8_; have BK397 := n9_; have HB := n10_; have HLA := n11_; clear n0_ n1_ n2_ n3_ n4_ n5_ n6_ n7_ n8_ n9_ n10_ n11_; (try clear hb); (try clear hkW); (try clear hk2); (try clear hkp)) | (go_at_call 8; (with_reducible refine (laws_eqKeeperHostS.calls k _ _ t393 _ _ t356 true _ ?side1 ?side2 ?side3 ?side4 A35.out).mono ?_); (case side1 => exact (Kd.S_reads' HOq16_.out).2.2); (case side2 => have h1_ := (Kd.S_reads' HOq16_.out).1; have h2_ := (Kd.S_reads' HOq16_.out).2.1; omega); (case side3 => exact (Kd.S_reads' HOq2_.out).2.2); (case side4 => have h1_ := (Kd.S_reads' HOq2_.out).1; have h2_ := (Kd.S_reads' HOq2_.out).2.1; omega); rintro e wv20 ⟨rfl, hb⟩; have hkW := (show Kept wv19 wv19 (fun k_ => False) from by repeat (first | (with_reducible first | exact Kept.refl _ _ | apply Kept.alloc | apply Kept.drewN | apply Kept.drew) | exact Kept.refl _ _)); have hk2 := Kept.below hkW hb; have n0_ := Aside0.mk (Kd.R_below HOq1_.out hb); have n1_ := Aside0.mk (Kd.S_below HOq2_.out hb); have n2_ := Aside0.mk (Kd.R_below HOq4_.out hb); have n3_ := Aside0.mk (Kd.S_below HOq5_.out hb); have n4_ := Aside0.mk (Kd.R_below HOq10_.out hb); have n5_ := Aside0.mk (Kd.R_below HOq15_.out hb); have n6_ := Aside0.mk (Kd.S_below HOq16_.out hb); have n7_ := Aside0.mk (blk_below BK360.out hb); have n8_ := Aside0.mk (blk_below BK372.out hb); have n9_ := Aside0.mk (blk_below BK397.out hb); have n10_ := Aside0.mk (below_step (by repeat (first | (with_reducible first | exact HB.out | apply below_alloc | apply pw_below_drewN | apply below_drew1) | exact HB.out)) hb); have n11_ := Aside0.mk (And.intro HLA.out (hk2.1 : wv19.heap.size ≤ wv20.heap.size)); clear HOq1_; clear HOq2_; clear HOq4_; clear HOq5_; clear HOq10_; clear HOq15_; clear HOq16_; clear BK360; clear BK372; clear BK397; clear HB; clear HLA; have HOq1_ := n0_; have HOq2_ := n1_; have HOq4_ := n2_; have HOq5_ := n3_; have HOq10_ := n4_; have HOq15_ := n5_; have HOq16_ := n6_; have BK360 := n7_; have BK372 := n8_; have BK397 := n9_; have HB := n10_; have HLA := n11_; clear n0_ n1_ n2_ n3_ n4_ n5_ n6_ n7_ n8_ n9_ n10_ n11_; (try clear hb); (try clear hkW); (try clear hk2); (try clear hkp)) | ((with_reducible refine gate_callee (f := 12) rfl ?_); refine goesL_ (some 141) rfl rfl Try.func12 (by kernel_rfl) rfl #[.slice Aq5_ t384.length cq5_, .int .i64 1] rfl (by (try simp only [List.map_toArray, List.map_cons, List.map_nil]); first | done | (rw [show t384.length = t368.length from (Kd.S_reads' HOq5_.out).1.symm] <;> rfl) | rfl | (simp only [List.length_drop, List.length_take]; rfl)) ?_; (with_reducible refine (laws_heldKeeperHostS.calls k _ _ t384 1 t400 _ ?side1 ?side2 A38.out).mono ?_); (case side1 => exact (Kd.S_reads' HOq5_.out).2.2); (case side2 => have h1_ := (Kd.S_reads' HOq5_.out).1; have h2_ := (Kd.S_reads' HOq5_.out).2.1; omega); rintro e wv21 ⟨rfl, hd⟩; have hb := hd.below; clear hd; refine ⟨_, rfl, ?_⟩; have hkW := (show Kept wv20 wv20 (fun k_ => False) from by repeat (first | (with_reducible first | exact Kept.refl _ _ | apply Kept.alloc | apply Kept.drewN | apply Kept.drew) | exact Kept.refl _ _)); have hk2 := Kept.below hkW hb; have n0_ := Aside0.mk (Kd.R_below HOq1_.out hb); have n1_ := Aside0.mk (Kd.S_below HOq2_.out hb); have n2_ := Aside0.mk (Kd.R_below HOq4_.out hb); have n3_ := Aside0.mk (Kd.S_below HOq5_.out hb); have n4_ := Aside0.mk (Kd.R_below HOq10_.out hb); have n5_ := Aside0.mk (Kd.R_below HOq15_.out hb); have n6_ := Aside0.mk (Kd.S_below HOq16_.out hb); have n7_ := Aside0.mk (blk_below BK360.out hb); have n8_ := Aside0.mk (blk_below BK372.out hb); have n9_ := Aside0.mk (blk_below BK397.out hb); have n10_ := Aside0.mk (below_step (by repeat (first | (with_reducible first | exact HB.out | apply below_alloc | apply pw_below_drewN | apply below_drew1) | exact HB.out)) hb); have n11_ := Aside0.mk (And.intro HLA.out (hk2.1 : wv20.heap.size ≤ wv21.heap.size)); clear HOq1_; clear HOq2_; clear HOq4_; clear HOq5_; clear HOq10_; clear HOq15_; clear HOq16_; clear BK360; clear BK372; clear BK397; clear HB; clear HLA; have HOq1_ := n0_; have HOq2_ := n1_; have HOq4_ := n2_; have HOq5_ := n3_; have HOq10_ := n4_; have HOq15_ := n5_; have HOq16_ := n6_; have BK360 := n7_; have BK372 := n8_; have BK397 := n9_; have HB := n10_; have HLA := n11_; clear n0_ n1_ n2_ n3_ n4_ n5_ n6_ n7_ n8_ n9_ n10_ n11_; (try clear hb); (try clear hkW); (try clear hk2); (try clear hkp)))
                                go_ret
                                exact ⟨by first | rfl | (simp [*] <;> rfl), by repeat (first | (with_reducible first | exact HB.out | apply below_alloc | apply pw_below_drewN | apply below_drew1) | exact HB.out)⟩
                              · rw [if_neg c40] at H
                                have c40b0 : (t400 == t383) = false := beq_eq_false_iff_ne.mpr c40
                                have c40b1 : (t400 != t383) = true := bne_iff_ne.mpr c40
                                exact absurd ((Option.some.inj H).trans hT.out) (by decide)
                        · replace c36 := Bool.eq_false_iff.mpr c36
                          subst c36
                          have H1 : (some false) = some r := by rw [if_neg (show ¬ (false = true) by decide)] at H; exact H
                          clear H
                          have H := H1
                          clear H1
                          exact absurd ((Option.some.inj H).trans hT.out) (by decide)
                      · replace c34 := Bool.eq_false_iff.mpr c34
                        subst c34
                        have H1 : (some false) = some r := by rw [if_neg (show ¬ (false = true) by decide)] at H; exact H
                        clear H
                        have H := H1
                        clear H1
                        exact absurd ((Option.some.inj H).trans hT.out) (by decide)
                    · rw [if_neg c30] at H
                      have c30b0 : (t385 == t383) = false := beq_eq_false_iff_ne.mpr c30
                      have c30b1 : (t385 != t383) = true := bne_iff_ne.mpr c30
                      exact absurd ((Option.some.inj H).trans hT.out) (by decide)
                · replace c26 := Bool.eq_false_iff.mpr c26
                  subst c26
                  have H1 : (some false) = some r := by rw [if_neg (show ¬ (false = true) by decide)] at H; exact H
                  clear H
                  have H := H1
                  clear H1
                  exact absurd ((Option.some.inj H).trans hT.out) (by decide)
              · replace c24 := Bool.eq_false_iff.mpr c24
                subst c24
                have H1 : (some false) = some r := by rw [if_neg (show ¬ (false = true) by decide)] at H; exact H
                clear H
                have H := H1
                clear H1
                exact absurd ((Option.some.inj H).trans hT.out) (by decide)
          · replace c20 := Bool.eq_false_iff.mpr c20
            subst c20
            have H1 : (some false) = some r := by rw [if_neg (show ¬ (false = true) by decide)] at H; exact H
            clear H
            have H := H1
            clear H1
            exact absurd ((Option.some.inj H).trans hT.out) (by decide)
      · replace c16 := Bool.eq_false_iff.mpr c16
        subst c16
        have H1 : (some false) = some r := by rw [if_neg (show ¬ (false = true) by decide)] at H; exact H
        clear H
        have H := H1
        clear H1
        exact absurd ((Option.some.inj H).trans hT.out) (by decide)
    · replace c14 := Bool.eq_false_iff.mpr c14
      subst c14
      have H1 : (some false) = some r := by rw [if_neg (show ¬ (false = true) by decide)] at H; exact H
      clear H
      have H := H1
      clear H1
      exact absurd ((Option.some.inj H).trans hT.out) (by decide)

/-- THE ONE PURE STATEMENT of laws_FnExactMakeVault: yours. -/
def laws_FnExactMakeVault.Pure : Prop := ∀ (a0 : Int) (a1 : Int) (a2 : Int) (a3 : Int) (l4 : List Int) (a5 : Int) (a6 : Int), (Lit.int .i64 a0).wf = true → (Lit.int .i64 a1).wf = true → (Lit.int .i64 a2).wf = true → (Lit.int .i64 a3).wf = true → l4.length ≤ maxLen → l4.length * 8 ≤ 140737488351232 → (∀ x ∈ l4, (Lit.int .i64 x).wf = true) → (Lit.int .i64 a5).wf = true → (Lit.int .i64 a6).wf = true → ∃ k, laws_FnExactMakeVault.f k a0 a1 a2 a3 l4 a5 a6 = some true
theorem laws_FnExactMakeVault.walk (P : laws_FnExactMakeVault.Pure) (a0 : Int) (a1 : Int) (a2 : Int) (a3 : Int) (a4 : Option Addr) (len4 cap4 : Nat) (z4 : List Int) (a5 : Int) (a6 : Int) (w : World) (w0 : (Lit.int .i64 a0).wf = true) (w1 : (Lit.int .i64 a1).wf = true) (w2 : (Lit.int .i64 a2).wf = true) (w3 : (Lit.int .i64 a3).wf = true) (w4 : (a4 = none ∧ len4 = 0 ∧ cap4 = 0 ∧ z4 = []) ∨ ∃ x, a4 = some x ∧ len4 ≤ cap4 ∧ cap4 ≤ maxLen ∧ z4.length = cap4 ∧ (∀ i, i < z4.length → w.cell? (x.add i) = some (.int .i64 (z4.getD i 0))) ∧ ∀ n ∈ z4, (Lit.int .i64 n).wf = true) (y4 : len4 * 8 ≤ 140737488351232) (w5 : (Lit.int .i64 a5).wf = true) (w6 : (Lit.int .i64 a6).wf = true) :
    Calls Try.prog 3 #[.int .i64 a0, .int .i64 a1, .int .i64 a2, .int .i64 a3, .slice a4 len4 cap4, .int .i64 a5, .int .i64 a6] w fun e w' => e = .returned (.bool true) ∧ Below w.heap.size w w' := by
  obtain ⟨l4, rfl, hr4, hm4, hw4, hc4⟩ := ReadsInt.ofRowC w4
  obtain ⟨k, h⟩ := P a0 a1 a2 a3 l4 a5 a6 w0 w1 w2 w3 hm4 y4 hw4 w5 w6
  refine (laws_FnExactMakeVault.calls k a0 a1 a2 a3 _ _ l4 a5 a6 true w (Kd.C_of_reads (d := (0 : Int)) (h1 := fun _ => rfl) hr4) hc4 ⟨rfl⟩ h).mono ?_
  rintro e w' ⟨rfl, hd⟩
  exact ⟨rfl, hd⟩

end Go.Proofs.Ytpgmghghpliapaa.PFnExactMakeVault
