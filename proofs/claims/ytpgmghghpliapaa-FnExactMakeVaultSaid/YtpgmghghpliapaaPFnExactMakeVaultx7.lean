-- Made by a program of this session, after the kit's print of the translation. Lean checks it.
import Derived.Test.YtpgmghghpliapaaPFnExactMakeVaultx0
namespace Go.Proofs.Ytpgmghghpliapaa.PFnExactMakeVault
open Go.RowKit Go.Proofs.YtpgmghghpliapaaW.PrintWords Go.Proofs.YtpgmghghpliapaaW.PrintLast Go.Proofs.YtpgmghghpliapaaW.PrintMore
attribute [local go_sem] max2_int min2_int max_two min_two max_three min_three max_four min_four   -- for this text's walks alone
set_option linter.unusedVariables false
set_option linter.unusedSimpArgs false

/-! ### laws_eqIntS: function 9 -/
def laws_eqIntS.l0 : Nat → List Int → List Int → Int → Option (Bool)
  | 0, _, _, _ => none
  | k + 1, x0, x1, x5 => if x5 < (x0.length : Int) then (if 0 ≤ x5 then (if x5 < (x1.length : Int) then (if (rd x0 x5) = (rd x1 x5) then (laws_eqIntS.l0 k x0 x1 (wrap64 (x5 + 1))) else (some false)) else (none)) else (none)) else (some true)
def laws_eqIntS.f (k : Nat) (l0 : List Int) (l1 : List Int) : Option (Bool) := if (l0.length : Int) = (l1.length : Int) then (laws_eqIntS.l0 k l0 l1 0) else (some false)
theorem laws_eqIntS.mono_l : ∀ k, (∀ y0 y1 y2, LeO (laws_eqIntS.l0 k y0 y1 y2) (laws_eqIntS.l0 (k + 1) y0 y1 y2))
  | 0 => fun _ _ _ r h => by simp [laws_eqIntS.l0] at h
  | k + 1 => by
    have ih0 := laws_eqIntS.mono_l k
    · intro y0 y1 y2
      unfold laws_eqIntS.l0
      repeat' first
      | (with_reducible exact ih0 _ _ _)
      | (with_reducible exact LeO.refl _)
      | (with_reducible exact LeO.none _)
      | (with_reducible refine LeO.ite ?_ ?_)
      | (with_reducible refine LeO.bind ?_ (fun _ => ?_))
      | exact ih0 _ _ _
      | exact LeO.none _
      | refine LeO.ite ?_ ?_
      | refine LeO.bind ?_ (fun _ => ?_)
theorem laws_eqIntS.mono : ∀ a0 a1 k, LeO (laws_eqIntS.f k a0 a1) (laws_eqIntS.f (k + 1) a0 a1) := by
  intro a0 a1 k
  have ih0 := laws_eqIntS.mono_l k
  unfold laws_eqIntS.f
  repeat' first
      | (with_reducible exact ih0 _ _ _)
      | (with_reducible exact LeO.refl _)
      | (with_reducible exact LeO.none _)
      | (with_reducible refine LeO.ite ?_ ?_)
      | (with_reducible refine LeO.bind ?_ (fun _ => ?_))
      | exact ih0 _ _ _
      | exact LeO.none _
      | refine LeO.ite ?_ ?_
      | refine LeO.bind ?_ (fun _ => ?_)
set_option maxHeartbeats 8000000 in
set_option maxRecDepth 100000 in
theorem laws_eqIntS.calls (k : Nat) (A0 : Option Addr) (c0 : Nat) (l0 : List Int) (A1 : Option Addr) (c1 : Nat) (l1 : List Int) (r : Bool) (w : World) (hr0 : Kd.C (Kd.int .i64) w A0 l0.length l0) (hc0 : l0.length ≤ c0) (hr1 : Kd.C (Kd.int .i64) w A1 l1.length l1) (hc1 : l1.length ≤ c1) (h : laws_eqIntS.f k l0 l1 = some r) :
    Calls Try.prog 9 #[.slice A0 l0.length c0, .slice A1 l1.length c1] w fun e w' => e = .returned (.bool r) ∧ Drawn0 w w' := by
  have HR0 := Aside0.mk hr0
  have HC0 := Aside0.mk hc0
  clear hr0 hc0
  have HR1 := Aside0.mk hr1
  have HC1 := Aside0.mk hc1
  clear hr1 hc1
  have H : (if (l0.length : Int) = (l1.length : Int) then (laws_eqIntS.l0 k l0 l1 0) else (some false)) = some r := h
  clear h
  by_cases c3 : (l0.length : Int) = (l1.length : Int)
  · rw [if_pos c3] at H
    have c3b0 : ((l0.length : Int) == (l1.length : Int)) = true := beq_iff_eq.mpr c3
    have c3b1 : ((l0.length : Int) != (l1.length : Int)) = false := bne_eq_false_iff_eq.mpr c3
    have c3b2 : (l0.length == l1.length) = true := by first | simpa using c3 | (simp at c3 ⊢; omega)
    clear c3
    have H' := Aside0.mk H
    clear H
    go_enter Try.func9, Try.ntmps9
    go_wp2
    repeat (go_quiet (fail); try go_wp2)
    go_loopg [5] k (fun kq v5 w' => ∃ (x5_1 : Int), v5 = .int .i64 x5_1 ∧ Aside0 (laws_eqIntS.l0 kq l0 l1 x5_1 = some r) ∧ Aside0 (kq ≤ k) ∧ Drawn0 w w')
    case atStart => exact ⟨(0), (by first | rfl | (simp; done) | (simp [*]; done)), H', ⟨Nat.le_refl _⟩, by repeat (first | exact Drawn0.refl _ | apply Drawn0.step)⟩
    case round =>
      clear H'
      try clear c1
      try clear p2
      try clear c3
      try clear c3b0
      try clear c3b1
      try clear c3b2
      obtain ⟨x5_1, rfl, HA, HK1, ⟨m1, rfl⟩⟩ := hrel
      cases gk with
      | zero => exact absurd HA.out (by simp [laws_eqIntS.l0])
      | succ k1 =>
        have H := HA.out
        clear HA
        simp only [laws_eqIntS.l0] at H
        by_cases c4 : x5_1 < (l0.length : Int)
        · rw [if_pos c4] at H
          have c4b0 : decide (x5_1 < (l0.length : Int)) = true := decide_eq_true c4
          clear c4
          by_cases c5 : 0 ≤ x5_1
          · rw [if_pos c5] at H
            have c5b0 : decide (0 ≤ x5_1) = true := decide_eq_true c5
            clear c5
            by_cases c6 : x5_1 < (l1.length : Int)
            · rw [if_pos c6] at H
              have c6b0 : decide (x5_1 < (l1.length : Int)) = true := decide_eq_true c6
              clear c6
              by_cases c7 : (rd l0 x5_1) = (rd l1 x5_1)
              · rw [if_pos c7] at H
                have c7b0 : ((rd l0 x5_1) == (rd l1 x5_1)) = true := beq_iff_eq.mpr c7
                have c7b1 : ((rd l0 x5_1) != (rd l1 x5_1)) = false := bne_eq_false_iff_eq.mpr c7
                clear c7
                have H' := Aside0.mk H
                clear H
                have p328 : 0 ≤ (x5_1 : Int) := of_decide_eq_true (by first | (with_reducible assumption) | assumption)
                have q328 : x5_1 < (l0.length : Int) := of_decide_eq_true (by first | (with_reducible assumption) | assumption)
                obtain ⟨ad328, e328, hx328_0⟩ := Kd.at_int HR0.out x5_1 p328 q328
                cases e328
                replace p328 := eq_true p328
                replace q328 := eq_true q328
                have p329 : 0 ≤ (x5_1 : Int) := of_decide_eq_true (by first | (with_reducible assumption) | assumption)
                have q329 : x5_1 < (l1.length : Int) := of_decide_eq_true (by first | (with_reducible assumption) | assumption)
                obtain ⟨ad329, e329, hx329_0⟩ := Kd.at_int HR1.out x5_1 p329 q329
                cases e329
                replace p329 := eq_true p329
                replace q329 := eq_true q329
                go_wp2
                repeat (go_quiet (fail); try go_wp2)
                go_roundg k1
                case measure => have := HK1.out; omega
                case rel => exact ⟨(wrap64 (x5_1 + 1)), (by first | rfl | (simp; done) | (simp [*]; done)), H', ⟨by have := HK1.out; omega⟩, by repeat (first | exact Drawn0.refl _ | apply Drawn0.step)⟩
              · rw [if_neg c7] at H
                have c7b0 : ((rd l0 x5_1) == (rd l1 x5_1)) = false := beq_eq_false_iff_ne.mpr c7
                have c7b1 : ((rd l0 x5_1) != (rd l1 x5_1)) = true := bne_iff_ne.mpr c7
                obtain rfl := Option.some.inj H
                have p328 : 0 ≤ (x5_1 : Int) := of_decide_eq_true (by first | (with_reducible assumption) | assumption)
                have q328 : x5_1 < (l0.length : Int) := of_decide_eq_true (by first | (with_reducible assumption) | assumption)
                obtain ⟨ad328, e328, hx328_0⟩ := Kd.at_int HR0.out x5_1 p328 q328
                cases e328
                replace p328 := eq_true p328
                replace q328 := eq_true q328
                have p329 : 0 ≤ (x5_1 : Int) := of_decide_eq_true (by first | (with_reducible assumption) | assumption)
                have q329 : x5_1 < (l1.length : Int) := of_decide_eq_true (by first | (with_reducible assumption) | assumption)
                obtain ⟨ad329, e329, hx329_0⟩ := Kd.at_int HR1.out x5_1 p329 q329
                cases e329
                replace p329 := eq_true p329
                replace q329 := eq_true q329
                go_wp2
                repeat (go_quiet (fail); try go_wp2)
                go_ret
                exact ⟨by first | rfl | (simp; done) | (simp [*]; done), by repeat (first | exact Drawn0.refl _ | apply Drawn0.step)⟩
            · rw [if_neg c6] at H
              exact absurd H (by simp)
          · rw [if_neg c5] at H
            exact absurd H (by simp)
        · rw [if_neg c4] at H
          have c4b0 : decide (x5_1 < (l0.length : Int)) = false := decide_eq_false c4
          clear c4
          obtain rfl := Option.some.inj H
          go_wp2
          repeat (go_quiet (fail); try go_wp2)
          go_ret
          exact ⟨by first | rfl | (simp; done) | (simp [*]; done), by repeat (first | exact Drawn0.refl _ | apply Drawn0.step)⟩
  · rw [if_neg c3] at H
    have c3b0 : ((l0.length : Int) == (l1.length : Int)) = false := beq_eq_false_iff_ne.mpr c3
    have c3b1 : ((l0.length : Int) != (l1.length : Int)) = true := bne_iff_ne.mpr c3
    have c3b2 : (l0.length == l1.length) = false := by first | simpa using c3 | (simp at c3 ⊢; omega)
    obtain rfl := Option.some.inj H
    go_enter Try.func9, Try.ntmps9
    go_wp2
    repeat (go_quiet (fail); try go_wp2)
    go_ret
    exact ⟨by first | rfl | (simp; done) | (simp [*]; done), by repeat (first | exact Drawn0.refl _ | apply Drawn0.step)⟩

/-! ### laws_markIntS: function 10 -/
def laws_markIntS.l0 : Nat → List Int → Int → Int → Option (Int × List Int)
  | 0, _, _, _ => none
  | k + 1, x0, x1, x5 => if x5 < (x0.length : Int) then (if 0 ≤ x5 then (laws_markIntS.l0 k (x0.set (x5 : Int).toNat x1) (wrap64 (x1 + 1)) (wrap64 (x5 + 1))) else (none)) else (some (x1, x0))
def laws_markIntS.f (k : Nat) (l0 : List Int) (a1 : Int) : Option (Int × List Int) := laws_markIntS.l0 k l0 a1 0
theorem laws_markIntS.mono_l : ∀ k, (∀ y0 y1 y2, LeO (laws_markIntS.l0 k y0 y1 y2) (laws_markIntS.l0 (k + 1) y0 y1 y2))
  | 0 => fun _ _ _ r h => by simp [laws_markIntS.l0] at h
  | k + 1 => by
    have ih0 := laws_markIntS.mono_l k
    · intro y0 y1 y2
      unfold laws_markIntS.l0
      repeat' first
      | (with_reducible exact ih0 _ _ _)
      | (with_reducible exact LeO.refl _)
      | (with_reducible exact LeO.none _)
      | (with_reducible refine LeO.ite ?_ ?_)
      | (with_reducible refine LeO.bind ?_ (fun _ => ?_))
      | exact ih0 _ _ _
      | exact LeO.none _
      | refine LeO.ite ?_ ?_
      | refine LeO.bind ?_ (fun _ => ?_)
theorem laws_markIntS.mono : ∀ a0 a1 k, LeO (laws_markIntS.f k a0 a1) (laws_markIntS.f (k + 1) a0 a1) := by
  intro a0 a1 k
  have ih0 := laws_markIntS.mono_l k
  unfold laws_markIntS.f
  repeat' first
      | (with_reducible exact ih0 _ _ _)
      | (with_reducible exact LeO.refl _)
      | (with_reducible exact LeO.none _)
      | (with_reducible refine LeO.ite ?_ ?_)
      | (with_reducible refine LeO.bind ?_ (fun _ => ?_))
      | exact ih0 _ _ _
      | exact LeO.none _
      | refine LeO.ite ?_ ?_
      | refine LeO.bind ?_ (fun _ => ?_)
set_option maxHeartbeats 8000000 in
set_option maxRecDepth 100000 in
theorem laws_markIntS.calls (k : Nat) (P0_ : Nat → Prop) (u9000_ : Value) (l0 : List Int) (a1 : Int) (r1 : Int) (r2 : List Int) (w0 w : World) (hB : Below w0.heap.size w0 w) (ho0 : Kd.R (Kd.int .i64) 3 w w0.heap.size P0_ u9000_ l0) (h : laws_markIntS.f k l0 a1 = some (r1, r2)) :
    Calls Try.prog 10 #[u9000_, .int .i64 a1] w fun e w' => e = .returned (.int .i64 r1) ∧ Kd.R (Kd.int .i64) 3 w' w0.heap.size (fun k_ => (P0_ k_ ∨ w.heap.size ≤ k_)) u9000_ r2 ∧ Below w0.heap.size w0 w' ∧ Kept w w' (fun k_ => P0_ k_) := by
  have HO0 := Aside0.mk (show Kd.R (Kd.int .i64) 3 w w0.heap.size (fun k_ => (P0_ k_ ∨ w.heap.size ≤ k_)) u9000_ l0 from Kd.R_mono ho0 (fun k_ hk => (.inl hk)))
  have HK := Aside0.mk (Kept.refl w (fun k_ => P0_ k_))
  have HW0 := Aside0.mk hB.size
  have HB := Aside0.mk hB
  clear hB
  have H : (laws_markIntS.l0 k l0 a1 0) = some (r1, r2) := h
  clear h
  have H' := Aside0.mk H
  clear H
  go_enter Try.func10, Try.ntmps10
  go_wp2
  go_loopg [1, 5] k (fun kq v1 v5 w' => ∃ (x0_1 : List Int) (x1_1 : Int) (x5_1 : Int), v1 = .int .i64 x1_1 ∧ v5 = .int .i64 x5_1 ∧ Aside0 (laws_markIntS.l0 kq x0_1 x1_1 x5_1 = some (r1, r2)) ∧ Aside0 (kq ≤ k) ∧ Aside0 (Kd.R (Kd.int .i64) 3 w' w0.heap.size (fun k_ => (P0_ k_ ∨ w.heap.size ≤ k_)) u9000_ x0_1) ∧ Aside0 (Kept w w' (fun k_ => P0_ k_)) ∧ Aside0 (Below w0.heap.size w0 w'))
  case atStart => exact ⟨(l0), (a1), (0), (by first | rfl | (simp; done) | (simp [*]; done)), (by first | rfl | (simp; done) | (simp [*]; done)), H', ⟨Nat.le_refl _⟩, ⟨by (with_reducible repeat (first | apply Kd.R_alloc | apply Kd.R_drewN | apply Kd.R_drew)); exact HO0.out⟩, ⟨by repeat (first | (with_reducible first | exact HK.out | apply Kept.alloc | apply Kept.drewN | apply Kept.drew) | exact HK.out)⟩, ⟨by repeat (first | (with_reducible first | exact HB.out | apply below_alloc | apply pw_below_drewN | apply below_drew1) | exact HB.out)⟩⟩
  case round =>
    clear H'
    try clear c1
    try clear p2
    obtain ⟨x0_1, x1_1, x5_1, rfl, rfl, HA, HK1, HO_0, HK, HB⟩ := hrel
    cases gk with
    | zero => exact absurd HA.out (by simp [laws_markIntS.l0])
    | succ k1 =>
      have H := HA.out
      clear HA
      simp only [laws_markIntS.l0] at H
      by_cases c3 : x5_1 < (x0_1.length : Int)
      · rw [if_pos c3] at H
        have c3b0 : decide (x5_1 < (x0_1.length : Int)) = true := decide_eq_true c3
        clear c3
        by_cases c4 : 0 ≤ x5_1
        · rw [if_pos c4] at H
          have c4b0 : decide (0 ≤ x5_1) = true := decide_eq_true c4
          clear c4
          obtain ⟨y330, hy330⟩ : ∃ y_ : List Int, y_ = (x0_1.set (x5_1 : Int).toNat x1_1) := ⟨_, rfl⟩
          replace H : (laws_markIntS.l0 k1 y330 (wrap64 (x1_1 + 1)) (wrap64 (x5_1 + 1))) = some (r1, r2) := by first | (rw [hy330]; with_reducible exact H) | (have H2_ := (Option.bind_some _ _).symm.trans H; rw [hy330]; with_reducible exact H2_) | (have H2_ := (Option.bind_some _ _).symm.trans H; with_reducible exact H2_) | with_reducible exact H | (rw [hy330]; exact H) | exact H
          have Ny330 := Aside0.mk hy330
          clear hy330
          have H' := Aside0.mk H
          clear H
          obtain ⟨Ao6, co6, eo6⟩ := Kd.R_slice HO_0.out
          subst eo6
          have p5 : 0 ≤ (x5_1 : Int) := of_decide_eq_true (by first | (with_reducible assumption) | assumption)
          have q5 : (x5_1 : Int) < ((x0_1.length : Int) : Int) := of_decide_eq_true (by first | (with_reducible assumption) | assumption)
          obtain ⟨go5, co5, eo5, gb5, gl5, cl5, HG5⟩ := Kd.R_form HO_0.out (by omega)
          (first | cases eo5 | (injection eo5 with ea_ en_ ec_; (first | subst ea_ | (injection ea_ with ea_; subst ea_)); subst ec_; clear en_))
          have GB5 := Aside0.mk gb5
          have GG5 := Aside0.mk HG5
          clear gb5 gl5 HG5
          have HMgo5 := Aside0.mk (show (P0_ go5 ∨ w.heap.size ≤ go5) from (HO_0.out.1 _ rfl))
          obtain ⟨hx5_0, hf5_0⟩ := Kd.R_celln 0 HO_0.out (x5_1 : Int) p5 q5
          replace p5 := eq_true p5
          replace q5 := eq_true q5
          have HP7 := Kd.R_putg HO_0.out (x5_1 : Int) x1_1
          go_wp2_with (first | ((with_reducible refine gate_store (t := 3) (p := 15) rfl ?_); refine store_event (t := 3) (p := 15) (v := ?vo_w8) (w1 := (wr.setCell ⟨go5, (x5_1 : Int).toNat, none⟩ (.int .i64 x1_1))) ?hg ?ho ?hn ?hr ?_; (case ho => rfl); (case hg => rfl); (case hn => rfl); (case hr => first | (go_simp; done) | (go_simp; rfl)); intro w8 hw; have hg : wr.grownBy w8 (some go5) := (by rw [hw]; exact HP7.2); have hp_ : Kd.R (Kd.int .i64) 3 w8 w0.heap.size (fun k_ => (P0_ k_ ∨ w.heap.size ≤ k_)) (.slice (some ⟨go5, 0, none⟩) x0_1.length co6) y330 := (by rw [hw, Ny330.out]; exact HP7.1); clear HP7; have n0_ := Aside0.mk (hp_); have n1_ := Aside0.mk ((by rw [hw]; exact below_set (HB.out) GB5.out : Below w0.heap.size w0 w8)); have n2_ := Aside0.mk (Kept.of_grown (S := (fun k_ => P0_ k_)) hg (by repeat (first | (with_reducible first | exact HK.out | apply Kept.alloc | apply Kept.drewN | apply Kept.drew) | exact HK.out)) (fun k_ e_ => (HO_0.out.1 k_ e_))); clear HO_0; clear HB; clear HK; have HO_0 := n0_; have HB := n1_; have HK := n2_; clear n0_ n1_ n2_; clear hg hw hp_))
          go_roundg k1
          case measure => have := HK1.out; omega
          case rel => exact ⟨(y330), (wrap64 (x1_1 + 1)), (wrap64 (x5_1 + 1)), (by first | rfl | (simp; done) | (simp [*]; done)), (by first | rfl | (simp; done) | (simp [*]; done)), H', ⟨by have := HK1.out; omega⟩, ⟨by (with_reducible repeat (first | apply Kd.R_alloc | apply Kd.R_drewN | apply Kd.R_drew)); exact HO_0.out⟩, ⟨by repeat (first | (with_reducible first | exact HK.out | apply Kept.alloc | apply Kept.drewN | apply Kept.drew) | exact HK.out)⟩, ⟨by repeat (first | (with_reducible first | exact HB.out | apply below_alloc | apply pw_below_drewN | apply below_drew1) | exact HB.out)⟩⟩
        · rw [if_neg c4] at H
          exact absurd H (by simp)
      · rw [if_neg c3] at H
        have c3b0 : decide (x5_1 < (x0_1.length : Int)) = false := decide_eq_false c3
        clear c3
        simp only [Option.some.injEq, Prod.mk.injEq] at H
        obtain ⟨rfl, rfl⟩ := H
        obtain ⟨Ao9, co9, eo9⟩ := Kd.R_slice HO_0.out
        subst eo9
        go_wp2
        go_ret
        exact ⟨by first | rfl | (simp [errW_none, errW_some] <;> rfl) | (simp [*, errW_none, errW_some] <;> rfl), by (with_reducible repeat (first | apply Kd.R_alloc | apply Kd.R_drewN | apply Kd.R_drew)); exact HO_0.out, by repeat (first | (with_reducible first | exact HB.out | apply below_alloc | apply pw_below_drewN | apply below_drew1) | exact HB.out), by repeat (first | (with_reducible first | exact HK.out | apply Kept.alloc | apply Kept.drewN | apply Kept.drew) | exact HK.out)⟩

/-! ### laws_markKeeperS: function 32 -/
def laws_markKeeperS.l0 : Nat → List (S44) → Int → Int → Option (Int × (List (S44)))
  | 0, _, _, _ => none
  | k + 1, x0, x1, x5 => if x5 < (x0.length : Int) then (if 0 ≤ x5 then ((some (x0.set (x5 : Int).toNat (⟨(⟨x1, (rd_T44 x0 x5).f0.f1⟩ : S42), (rd_T44 x0 x5).f1, (rd_T44 x0 x5).f2, (rd_T44 x0 x5).f3⟩ : S44) : List (S44))).bind fun y331 => ((some (y331.set (x5 : Int).toNat (⟨(⟨(rd_T44 y331 x5).f0.f0, wrap64 (x1 + 1)⟩ : S42), (rd_T44 y331 x5).f1, (rd_T44 y331 x5).f2, (rd_T44 y331 x5).f3⟩ : S44) : List (S44))).bind fun y332 => ((some (y332.set (x5 : Int).toNat (⟨(⟨(rd_T44 y332 x5).f0.f0, (rd_T44 y332 x5).f0.f1⟩ : S42), wrap64 ((wrap64 (x1 + 1)) + 1), (rd_T44 y332 x5).f2, (rd_T44 y332 x5).f3⟩ : S44) : List (S44))).bind fun y333 => ((some (y333.set (x5 : Int).toNat (⟨(⟨(rd_T44 y333 x5).f0.f0, (rd_T44 y333 x5).f0.f1⟩ : S42), (rd_T44 y333 x5).f1, wrap64 ((wrap64 ((wrap64 (x1 + 1)) + 1)) + 1), (rd_T44 y333 x5).f3⟩ : S44) : List (S44))).bind fun y334 => (laws_markKeeperS.l0 k (y334.set (x5 : Int).toNat (⟨(⟨(rd_T44 y334 x5).f0.f0, (rd_T44 y334 x5).f0.f1⟩ : S42), (rd_T44 y334 x5).f1, (rd_T44 y334 x5).f2, wrap64 ((wrap64 ((wrap64 ((wrap64 (x1 + 1)) + 1)) + 1)) + 1)⟩ : S44)) (wrap64 ((wrap64 ((wrap64 ((wrap64 ((wrap64 (x1 + 1)) + 1)) + 1)) + 1)) + 1)) (wrap64 (x5 + 1))))))) else (none)) else (some (x1, x0))
def laws_markKeeperS.f (k : Nat) (l0 : List (S44)) (a1 : Int) : Option (Int × (List (S44))) := laws_markKeeperS.l0 k l0 a1 0
theorem laws_markKeeperS.mono_l : ∀ k, (∀ y0 y1 y2, LeO (laws_markKeeperS.l0 k y0 y1 y2) (laws_markKeeperS.l0 (k + 1) y0 y1 y2))
  | 0 => fun _ _ _ r h => by simp [laws_markKeeperS.l0] at h
  | k + 1 => by
    have ih0 := laws_markKeeperS.mono_l k
    · intro y0 y1 y2
      unfold laws_markKeeperS.l0
      repeat' first
      | (with_reducible exact ih0 _ _ _)
      | (with_reducible exact LeO.refl _)
      | (with_reducible exact LeO.none _)
      | (with_reducible refine LeO.ite ?_ ?_)
      | (with_reducible refine LeO.bind ?_ (fun _ => ?_))
      | exact ih0 _ _ _
      | exact LeO.none _
      | refine LeO.ite ?_ ?_
      | refine LeO.bind ?_ (fun _ => ?_)
theorem laws_markKeeperS.mono : ∀ a0 a1 k, LeO (laws_markKeeperS.f k a0 a1) (laws_markKeeperS.f (k + 1) a0 a1) := by
  intro a0 a1 k
  have ih0 := laws_markKeeperS.mono_l k
  unfold laws_markKeeperS.f
  repeat' first
      | (with_reducible exact ih0 _ _ _)
      | (with_reducible exact LeO.refl _)
      | (with_reducible exact LeO.none _)
      | (with_reducible refine LeO.ite ?_ ?_)
      | (with_reducible refine LeO.bind ?_ (fun _ => ?_))
      | exact ih0 _ _ _
      | exact LeO.none _
      | refine LeO.ite ?_ ?_
      | refine LeO.bind ?_ (fun _ => ?_)
set_option maxHeartbeats 8000000 in
set_option maxRecDepth 100000 in
theorem laws_markKeeperS.calls (k : Nat) (P0_ : Nat → Prop) (u9000_ : Value) (l0 : List (S44)) (a1 : Int) (r1 : Int) (r2 : List (S44)) (w0 w : World) (hB : Below w0.heap.size w0 w) (ho0 : Kd.R k44 44 w w0.heap.size P0_ u9000_ l0) (h : laws_markKeeperS.f k l0 a1 = some (r1, r2)) :
    Calls Try.prog 32 #[u9000_, .int .i64 a1] w fun e w' => e = .returned (.int .i64 r1) ∧ Kd.R k44 44 w' w0.heap.size (fun k_ => (P0_ k_ ∨ w.heap.size ≤ k_)) u9000_ r2 ∧ Below w0.heap.size w0 w' ∧ Kept w w' (fun k_ => P0_ k_) := by
  have HO0 := Aside0.mk (show Kd.R k44 44 w w0.heap.size (fun k_ => (P0_ k_ ∨ w.heap.size ≤ k_)) u9000_ l0 from Kd.R_mono ho0 (fun k_ hk => (.inl hk)))
  have HK := Aside0.mk (Kept.refl w (fun k_ => P0_ k_))
  have HW0 := Aside0.mk hB.size
  have HB := Aside0.mk hB
  clear hB
  have H : (laws_markKeeperS.l0 k l0 a1 0) = some (r1, r2) := h
  clear h
  have H' := Aside0.mk H
  clear H
  go_enter Try.func32, Try.ntmps32
  go_wp2
  go_loopg [1, 5] k (fun kq v1 v5 w' => ∃ (x0_1 : List (S44)) (x1_1 : Int) (x5_1 : Int), v1 = .int .i64 x1_1 ∧ v5 = .int .i64 x5_1 ∧ Aside0 (laws_markKeeperS.l0 kq x0_1 x1_1 x5_1 = some (r1, r2)) ∧ Aside0 (kq ≤ k) ∧ Aside0 (Kd.R k44 44 w' w0.heap.size (fun k_ => (P0_ k_ ∨ w.heap.size ≤ k_)) u9000_ x0_1) ∧ Aside0 (Kept w w' (fun k_ => P0_ k_)) ∧ Aside0 (Below w0.heap.size w0 w'))
  case atStart => exact ⟨(l0), (a1), (0), (by first | rfl | (simp; done) | (simp [*]; done)), (by first | rfl | (simp; done) | (simp [*]; done)), H', ⟨Nat.le_refl _⟩, ⟨by (with_reducible repeat (first | apply Kd.R_alloc | apply Kd.R_drewN | apply Kd.R_drew)); exact HO0.out⟩, ⟨by repeat (first | (with_reducible first | exact HK.out | apply Kept.alloc | apply Kept.drewN | apply Kept.drew) | exact HK.out)⟩, ⟨by repeat (first | (with_reducible first | exact HB.out | apply below_alloc | apply pw_below_drewN | apply below_drew1) | exact HB.out)⟩⟩
  case round =>
    clear H'
    try clear p2
    obtain ⟨x0_1, x1_1, x5_1, rfl, rfl, HA, HK1, HO_0, HK, HB⟩ := hrel
    cases gk with
    | zero => exact absurd HA.out (by simp [laws_markKeeperS.l0])
    | succ k1 =>
      have H := HA.out
      clear HA
      simp only [laws_markKeeperS.l0] at H
      by_cases c3 : x5_1 < (x0_1.length : Int)
      · rw [if_pos c3] at H
        have c3b0 : decide (x5_1 < (x0_1.length : Int)) = true := decide_eq_true c3
        clear c3
        by_cases c4 : 0 ≤ x5_1
        · rw [if_pos c4] at H
          have c4b0 : decide (0 ≤ x5_1) = true := decide_eq_true c4
          clear c4
          obtain ⟨y331, hy331⟩ : ∃ y_ : List (S44), y_ = (x0_1.set (x5_1 : Int).toNat (⟨(⟨x1_1, (rd_T44 x0_1 x5_1).f0.f1⟩ : S42), (rd_T44 x0_1 x5_1).f1, (rd_T44 x0_1 x5_1).f2, (rd_T44 x0_1 x5_1).f3⟩ : S44)) := ⟨_, rfl⟩
          replace H : ((some (y331.set (x5_1 : Int).toNat (⟨(⟨(rd_T44 y331 x5_1).f0.f0, wrap64 (x1_1 + 1)⟩ : S42), (rd_T44 y331 x5_1).f1, (rd_T44 y331 x5_1).f2, (rd_T44 y331 x5_1).f3⟩ : S44) : List (S44))).bind fun y332 => ((some (y332.set (x5_1 : Int).toNat (⟨(⟨(rd_T44 y332 x5_1).f0.f0, (rd_T44 y332 x5_1).f0.f1⟩ : S42), wrap64 ((wrap64 (x1_1 + 1)) + 1), (rd_T44 y332 x5_1).f2, (rd_T44 y332 x5_1).f3⟩ : S44) : List (S44))).bind fun y333 => ((some (y333.set (x5_1 : Int).toNat (⟨(⟨(rd_T44 y333 x5_1).f0.f0, (rd_T44 y333 x5_1).f0.f1⟩ : S42), (rd_T44 y333 x5_1).f1, wrap64 ((wrap64 ((wrap64 (x1_1 + 1)) + 1)) + 1), (rd_T44 y333 x5_1).f3⟩ : S44) : List (S44))).bind fun y334 => (laws_markKeeperS.l0 k1 (y334.set (x5_1 : Int).toNat (⟨(⟨(rd_T44 y334 x5_1).f0.f0, (rd_T44 y334 x5_1).f0.f1⟩ : S42), (rd_T44 y334 x5_1).f1, (rd_T44 y334 x5_1).f2, wrap64 ((wrap64 ((wrap64 ((wrap64 (x1_1 + 1)) + 1)) + 1)) + 1)⟩ : S44)) (wrap64 ((wrap64 ((wrap64 ((wrap64 ((wrap64 (x1_1 + 1)) + 1)) + 1)) + 1)) + 1)) (wrap64 (x5_1 + 1)))))) = some (r1, r2) := by first | (rw [hy331]; with_reducible exact H) | (have H2_ := (Option.bind_some _ _).symm.trans H; rw [hy331]; with_reducible exact H2_) | (have H2_ := (Option.bind_some _ _).symm.trans H; with_reducible exact H2_) | with_reducible exact H | (rw [hy331]; exact H) | exact H
          have Ny331 := Aside0.mk hy331
          clear hy331
          obtain ⟨y332, hy332⟩ : ∃ y_ : List (S44), y_ = (y331.set (x5_1 : Int).toNat (⟨(⟨(rd_T44 y331 x5_1).f0.f0, wrap64 (x1_1 + 1)⟩ : S42), (rd_T44 y331 x5_1).f1, (rd_T44 y331 x5_1).f2, (rd_T44 y331 x5_1).f3⟩ : S44)) := ⟨_, rfl⟩
          replace H : ((some (y332.set (x5_1 : Int).toNat (⟨(⟨(rd_T44 y332 x5_1).f0.f0, (rd_T44 y332 x5_1).f0.f1⟩ : S42), wrap64 ((wrap64 (x1_1 + 1)) + 1), (rd_T44 y332 x5_1).f2, (rd_T44 y332 x5_1).f3⟩ : S44) : List (S44))).bind fun y333 => ((some (y333.set (x5_1 : Int).toNat (⟨(⟨(rd_T44 y333 x5_1).f0.f0, (rd_T44 y333 x5_1).f0.f1⟩ : S42), (rd_T44 y333 x5_1).f1, wrap64 ((wrap64 ((wrap64 (x1_1 + 1)) + 1)) + 1), (rd_T44 y333 x5_1).f3⟩ : S44) : List (S44))).bind fun y334 => (laws_markKeeperS.l0 k1 (y334.set (x5_1 : Int).toNat (⟨(⟨(rd_T44 y334 x5_1).f0.f0, (rd_T44 y334 x5_1).f0.f1⟩ : S42), (rd_T44 y334 x5_1).f1, (rd_T44 y334 x5_1).f2, wrap64 ((wrap64 ((wrap64 ((wrap64 (x1_1 + 1)) + 1)) + 1)) + 1)⟩ : S44)) (wrap64 ((wrap64 ((wrap64 ((wrap64 ((wrap64 (x1_1 + 1)) + 1)) + 1)) + 1)) + 1)) (wrap64 (x5_1 + 1))))) = some (r1, r2) := by first | (rw [hy332]; with_reducible exact H) | (have H2_ := (Option.bind_some _ _).symm.trans H; rw [hy332]; with_reducible exact H2_) | (have H2_ := (Option.bind_some _ _).symm.trans H; with_reducible exact H2_) | with_reducible exact H | (rw [hy332]; exact H) | exact H
          have Ny332 := Aside0.mk hy332
          clear hy332
          obtain ⟨y333, hy333⟩ : ∃ y_ : List (S44), y_ = (y332.set (x5_1 : Int).toNat (⟨(⟨(rd_T44 y332 x5_1).f0.f0, (rd_T44 y332 x5_1).f0.f1⟩ : S42), wrap64 ((wrap64 (x1_1 + 1)) + 1), (rd_T44 y332 x5_1).f2, (rd_T44 y332 x5_1).f3⟩ : S44)) := ⟨_, rfl⟩
          replace H : ((some (y333.set (x5_1 : Int).toNat (⟨(⟨(rd_T44 y333 x5_1).f0.f0, (rd_T44 y333 x5_1).f0.f1⟩ : S42), (rd_T44 y333 x5_1).f1, wrap64 ((wrap64 ((wrap64 (x1_1 + 1)) + 1)) + 1), (rd_T44 y333 x5_1).f3⟩ : S44) : List (S44))).bind fun y334 => (laws_markKeeperS.l0 k1 (y334.set (x5_1 : Int).toNat (⟨(⟨(rd_T44 y334 x5_1).f0.f0, (rd_T44 y334 x5_1).f0.f1⟩ : S42), (rd_T44 y334 x5_1).f1, (rd_T44 y334 x5_1).f2, wrap64 ((wrap64 ((wrap64 ((wrap64 (x1_1 + 1)) + 1)) + 1)) + 1)⟩ : S44)) (wrap64 ((wrap64 ((wrap64 ((wrap64 ((wrap64 (x1_1 + 1)) + 1)) + 1)) + 1)) + 1)) (wrap64 (x5_1 + 1)))) = some (r1, r2) := by first | (rw [hy333]; with_reducible exact H) | (have H2_ := (Option.bind_some _ _).symm.trans H; rw [hy333]; with_reducible exact H2_) | (have H2_ := (Option.bind_some _ _).symm.trans H; with_reducible exact H2_) | with_reducible exact H | (rw [hy333]; exact H) | exact H
          have Ny333 := Aside0.mk hy333
          clear hy333
          obtain ⟨y334, hy334⟩ : ∃ y_ : List (S44), y_ = (y333.set (x5_1 : Int).toNat (⟨(⟨(rd_T44 y333 x5_1).f0.f0, (rd_T44 y333 x5_1).f0.f1⟩ : S42), (rd_T44 y333 x5_1).f1, wrap64 ((wrap64 ((wrap64 (x1_1 + 1)) + 1)) + 1), (rd_T44 y333 x5_1).f3⟩ : S44)) := ⟨_, rfl⟩
          replace H : (laws_markKeeperS.l0 k1 (y334.set (x5_1 : Int).toNat (⟨(⟨(rd_T44 y334 x5_1).f0.f0, (rd_T44 y334 x5_1).f0.f1⟩ : S42), (rd_T44 y334 x5_1).f1, (rd_T44 y334 x5_1).f2, wrap64 ((wrap64 ((wrap64 ((wrap64 (x1_1 + 1)) + 1)) + 1)) + 1)⟩ : S44)) (wrap64 ((wrap64 ((wrap64 ((wrap64 ((wrap64 (x1_1 + 1)) + 1)) + 1)) + 1)) + 1)) (wrap64 (x5_1 + 1))) = some (r1, r2) := by first | (rw [hy334]; with_reducible exact H) | (have H2_ := (Option.bind_some _ _).symm.trans H; rw [hy334]; with_reducible exact H2_) | (have H2_ := (Option.bind_some _ _).symm.trans H; with_reducible exact H2_) | with_reducible exact H | (rw [hy334]; exact H) | exact H
          have Ny334 := Aside0.mk hy334
          clear hy334
          obtain ⟨y335, hy335⟩ : ∃ y_ : List (S44), y_ = (y334.set (x5_1 : Int).toNat (⟨(⟨(rd_T44 y334 x5_1).f0.f0, (rd_T44 y334 x5_1).f0.f1⟩ : S42), (rd_T44 y334 x5_1).f1, (rd_T44 y334 x5_1).f2, wrap64 ((wrap64 ((wrap64 ((wrap64 (x1_1 + 1)) + 1)) + 1)) + 1)⟩ : S44)) := ⟨_, rfl⟩
          replace H : (laws_markKeeperS.l0 k1 y335 (wrap64 ((wrap64 ((wrap64 ((wrap64 ((wrap64 (x1_1 + 1)) + 1)) + 1)) + 1)) + 1)) (wrap64 (x5_1 + 1))) = some (r1, r2) := by first | (rw [hy335]; with_reducible exact H) | (have H2_ := (Option.bind_some _ _).symm.trans H; rw [hy335]; with_reducible exact H2_) | (have H2_ := (Option.bind_some _ _).symm.trans H; with_reducible exact H2_) | with_reducible exact H | (rw [hy335]; exact H) | exact H
          have Ny335 := Aside0.mk hy335
          clear hy335
          have H' := Aside0.mk H
          clear H
          obtain ⟨Ao10, co10, eo10⟩ := Kd.R_slice HO_0.out
          subst eo10
          have p5 : 0 ≤ (x5_1 : Int) := of_decide_eq_true (by first | (with_reducible assumption) | assumption)
          have q5 : (x5_1 : Int) < ((x0_1.length : Int) : Int) := of_decide_eq_true (by first | (with_reducible assumption) | assumption)
          obtain ⟨go5, co5, eo5, gb5, gl5, cl5, HG5⟩ := Kd.R_form HO_0.out (by omega)
          (first | cases eo5 | (injection eo5 with ea_ en_ ec_; (first | subst ea_ | (injection ea_ with ea_; subst ea_)); subst ec_; clear en_))
          have GB5 := Aside0.mk gb5
          have GG5 := Aside0.mk HG5
          clear gb5 gl5 HG5
          have HMgo5 := Aside0.mk (show (P0_ go5 ∨ w.heap.size ≤ go5) from (HO_0.out.1 _ rfl))
          obtain ⟨ce5, hcl5, hM5, hcc5, hfr5⟩ := Kd.R_elem HO_0.out z44 (x5_1 : Int) p5 q5
          obtain rfl := k44_openM hM5
          have hx5_0 : wr.cell? ⟨go5, (x5_1 : Int).toNat * 5, none⟩ = some (.int .i64 ((rd_T44 x0_1 x5_1).f0.f0)) := hcc5 0 _ rfl
          have hx5_1 : wr.cell? ⟨go5, (x5_1 : Int).toNat * 5 + 1, none⟩ = some (.int .i64 ((rd_T44 x0_1 x5_1).f0.f1)) := hcc5 1 _ rfl
          have hx5_2 : wr.cell? ⟨go5, (x5_1 : Int).toNat * 5 + 2, none⟩ = some (.int .i64 ((rd_T44 x0_1 x5_1).f1)) := hcc5 2 _ rfl
          have hx5_3 : wr.cell? ⟨go5, (x5_1 : Int).toNat * 5 + 3, none⟩ = some (.int .i64 ((rd_T44 x0_1 x5_1).f2)) := hcc5 3 _ rfl
          have hx5_4 : wr.cell? ⟨go5, (x5_1 : Int).toNat * 5 + 4, none⟩ = some (.int .i64 ((rd_T44 x0_1 x5_1).f3)) := hcc5 4 _ rfl
          have hf5_0 : wr.frozen? ⟨go5, (x5_1 : Int).toNat * 5, none⟩ = false := hfr5 0
          have hf5_1 : wr.frozen? ⟨go5, (x5_1 : Int).toNat * 5 + 1, none⟩ = false := hfr5 1
          have hf5_2 : wr.frozen? ⟨go5, (x5_1 : Int).toNat * 5 + 2, none⟩ = false := hfr5 2
          have hf5_3 : wr.frozen? ⟨go5, (x5_1 : Int).toNat * 5 + 3, none⟩ = false := hfr5 3
          have hf5_4 : wr.frozen? ⟨go5, (x5_1 : Int).toNat * 5 + 4, none⟩ = false := hfr5 4
          clear hcl5 hcc5 hfr5 hM5
          replace p5 := eq_true p5
          replace q5 := eq_true q5
          have HX11 := Aside0.mk (show Kd.R k44 44 wr w0.heap.size (fun k_ => (P0_ k_ ∨ w.heap.size ≤ k_)) (.slice (some ⟨go5, 0, none⟩) x0_1.length co10) x0_1 from (by (with_reducible repeat (first | apply Kd.R_alloc | apply Kd.R_drewN | apply Kd.R_drew)); exact HO_0.out))
          obtain ⟨ce11, hcl11, hM11, hcc11, hfr11⟩ := Kd.R_elem HX11.out z44 (x5_1 : Int) (of_decide_eq_true (by first | (with_reducible assumption) | assumption)) (by have h_ : (x5_1 : Int) < ((x0_1.length : Int) : Int) := of_decide_eq_true (by first | (with_reducible assumption) | assumption); first | exact h_ | (have e_ := (Kd.R_reads' HO_0.out).1; omega) | simpa using h_)
          obtain rfl := k44_openM hM11
          have HP11 := Kd.R_seg HX11.out (x5_1 : Int) (of_decide_eq_true (by first | (with_reducible assumption) | assumption)) (by have h_ : (x5_1 : Int) < ((x0_1.length : Int) : Int) := of_decide_eq_true (by first | (with_reducible assumption) | assumption); first | exact h_ | (have e_ := (Kd.R_reads' HO_0.out).1; omega) | simpa using h_) (seg := [.int .i64 x1_1]) (j := 0) hcl11 hcc11 (show 1 ≤ 5 from by decide) (x' := (⟨(⟨x1_1, (rd_T44 x0_1 x5_1).f0.f1⟩ : S42), (rd_T44 x0_1 x5_1).f1, (rd_T44 x0_1 x5_1).f2, (rd_T44 x0_1 x5_1).f3⟩ : S44)) (k44_mkM _ _ _ (⟨(⟨x1_1, (rd_T44 x0_1 x5_1).f0.f1⟩ : S42), (rd_T44 x0_1 x5_1).f1, (rd_T44 x0_1 x5_1).f2, (rd_T44 x0_1 x5_1).f3⟩ : S44) ) (fun _ hk => hk)
          have hx11_0 := hcc11 0 _ rfl
          (try simp only [show (k44).sz = 5 from rfl, Nat.mul_one, Nat.add_zero] at hx11_0)
          have hf11_0 := hfr11 0
          (try simp only [show (k44).sz = 5 from rfl, Nat.mul_one, Nat.add_zero] at hf11_0)
          clear hcl11 hcc11 hfr11 hM11
          go_wp2_with (first | ((with_reducible refine gate_store (t := 3) (p := 17) rfl ?_); refine store_event (t := 3) (p := 17) (v := ?vo_w12) (w1 := (wr.setCell ⟨go5, (x5_1 : Int).toNat * 5, none⟩ (.int .i64 x1_1))) ?hg ?ho ?hn ?hr ?_; (case ho => rfl); (case hg => rfl); (case hn => rfl); (case hr => first | (go_simp; done) | (go_simp; rfl)); intro w12 hw; have hg : wr.grownBy w12 (some go5) := (by rw [hw]; exact HP11.2); have hp_ : Kd.R k44 44 w12 w0.heap.size (fun k_ => (P0_ k_ ∨ w.heap.size ≤ k_)) (.slice (some ⟨go5, 0, none⟩) x0_1.length co10) y331 := (by rw [hw, Ny331.out]; exact HP11.1); clear HP11; have n0_ := Aside0.mk (hp_); have n1_ := Aside0.mk ((by rw [hw]; exact below_set (HB.out) GB5.out : Below w0.heap.size w0 w12)); have n2_ := Aside0.mk (Kept.of_grown (S := (fun k_ => P0_ k_)) hg (by repeat (first | (with_reducible first | exact HK.out | apply Kept.alloc | apply Kept.drewN | apply Kept.drew) | exact HK.out)) (fun k_ e_ => (HO_0.out.1 k_ e_))); clear HO_0; clear HB; clear HK; have HO_0 := n0_; have HB := n1_; have HK := n2_; clear n0_ n1_ n2_; clear hg hw hp_; have p6 : 0 ≤ (x5_1 : Int) := of_decide_eq_true (by first | (with_reducible assumption) | assumption); have q6 : (x5_1 : Int) < ((x0_1.length : Int) : Int) := of_decide_eq_true (by first | (with_reducible assumption) | assumption); obtain ⟨ce6, hcl6, hM6, hcc6, hfr6⟩ := Kd.R_elem HO_0.out z44 (x5_1 : Int) p6 q6; obtain rfl := k44_openM hM6; have hx6_0 : w12.cell? ⟨go5, (x5_1 : Int).toNat * 5, none⟩ = some (.int .i64 ((rd_T44 y331 x5_1).f0.f0)) := hcc6 0 _ rfl; have hx6_1 : w12.cell? ⟨go5, (x5_1 : Int).toNat * 5 + 1, none⟩ = some (.int .i64 ((rd_T44 y331 x5_1).f0.f1)) := hcc6 1 _ rfl; have hx6_2 : w12.cell? ⟨go5, (x5_1 : Int).toNat * 5 + 2, none⟩ = some (.int .i64 ((rd_T44 y331 x5_1).f1)) := hcc6 2 _ rfl; have hx6_3 : w12.cell? ⟨go5, (x5_1 : Int).toNat * 5 + 3, none⟩ = some (.int .i64 ((rd_T44 y331 x5_1).f2)) := hcc6 3 _ rfl; have hx6_4 : w12.cell? ⟨go5, (x5_1 : Int).toNat * 5 + 4, none⟩ = some (.int .i64 ((rd_T44 y331 x5_1).f3)) := hcc6 4 _ rfl; have hf6_0 : w12.frozen? ⟨go5, (x5_1 : Int).toNat * 5, none⟩ = false := hfr6 0; have hf6_1 : w12.frozen? ⟨go5, (x5_1 : Int).toNat * 5 + 1, none⟩ = false := hfr6 1; have hf6_2 : w12.frozen? ⟨go5, (x5_1 : Int).toNat * 5 + 2, none⟩ = false := hfr6 2; have hf6_3 : w12.frozen? ⟨go5, (x5_1 : Int).toNat * 5 + 3, none⟩ = false := hfr6 3; have hf6_4 : w12.frozen? ⟨go5, (x5_1 : Int).toNat * 5 + 4, none⟩ = false := hfr6 4; clear hcl6 hcc6 hfr6 hM6; replace p6 := eq_true p6; replace q6 := eq_true q6; have HX13 := Aside0.mk (show Kd.R k44 44 w12 w0.heap.size (fun k_ => (P0_ k_ ∨ w.heap.size ≤ k_)) (.slice (some ⟨go5, 0, none⟩) x0_1.length co10) y331 from (by (with_reducible repeat (first | apply Kd.R_alloc | apply Kd.R_drewN | apply Kd.R_drew)); exact HO_0.out)); obtain ⟨ce13, hcl13, hM13, hcc13, hfr13⟩ := Kd.R_elem HX13.out z44 (x5_1 : Int) (of_decide_eq_true (by first | (with_reducible assumption) | assumption)) (by have h_ : (x5_1 : Int) < ((x0_1.length : Int) : Int) := of_decide_eq_true (by first | (with_reducible assumption) | assumption); first | exact h_ | (have e_ := (Kd.R_reads' HO_0.out).1; omega) | simpa using h_); obtain rfl := k44_openM hM13; have HP13 := Kd.R_seg HX13.out (x5_1 : Int) (of_decide_eq_true (by first | (with_reducible assumption) | assumption)) (by have h_ : (x5_1 : Int) < ((x0_1.length : Int) : Int) := of_decide_eq_true (by first | (with_reducible assumption) | assumption); first | exact h_ | (have e_ := (Kd.R_reads' HO_0.out).1; omega) | simpa using h_) (seg := [.int .i64 (wrap64 (x1_1 + 1))]) (j := 1) hcl13 hcc13 (show 2 ≤ 5 from by decide) (x' := (⟨(⟨(rd_T44 y331 x5_1).f0.f0, wrap64 (x1_1 + 1)⟩ : S42), (rd_T44 y331 x5_1).f1, (rd_T44 y331 x5_1).f2, (rd_T44 y331 x5_1).f3⟩ : S44)) (k44_mkM _ _ _ (⟨(⟨(rd_T44 y331 x5_1).f0.f0, wrap64 (x1_1 + 1)⟩ : S42), (rd_T44 y331 x5_1).f1, (rd_T44 y331 x5_1).f2, (rd_T44 y331 x5_1).f3⟩ : S44) ) (fun _ hk => hk); have hx13_1 := hcc13 1 _ rfl; (try simp only [show (k44).sz = 5 from rfl, Nat.mul_one, Nat.add_zero] at hx13_1); have hf13_1 := hfr13 1; (try simp only [show (k44).sz = 5 from rfl, Nat.mul_one, Nat.add_zero] at hf13_1); clear hcl13 hcc13 hfr13 hM13) | ((with_reducible refine gate_store (t := 3) (p := 25) rfl ?_); refine store_event (t := 3) (p := 25) (v := ?vo_w14) (w1 := (w12.setCell ⟨go5, (x5_1 : Int).toNat * 5 + 1, none⟩ (.int .i64 (wrap64 (x1_1 + 1))))) ?hg ?ho ?hn ?hr ?_; (case ho => rfl); (case hg => rfl); (case hn => rfl); (case hr => first | (go_simp; done) | (go_simp; rfl)); intro w14 hw; have hg : w12.grownBy w14 (some go5) := (by rw [hw]; exact HP13.2); have hp_ : Kd.R k44 44 w14 w0.heap.size (fun k_ => (P0_ k_ ∨ w.heap.size ≤ k_)) (.slice (some ⟨go5, 0, none⟩) x0_1.length co10) y332 := (by rw [hw, Ny332.out]; exact HP13.1); clear HP13; have n0_ := Aside0.mk (hp_); have n1_ := Aside0.mk ((by rw [hw]; exact below_set (HB.out) GB5.out : Below w0.heap.size w0 w14)); have n2_ := Aside0.mk (Kept.of_grown (S := (fun k_ => P0_ k_)) hg (by repeat (first | (with_reducible first | exact HK.out | apply Kept.alloc | apply Kept.drewN | apply Kept.drew) | exact HK.out)) (fun k_ e_ => (HO_0.out.1 k_ e_))); clear HO_0; clear HB; clear HK; have HO_0 := n0_; have HB := n1_; have HK := n2_; clear n0_ n1_ n2_; clear hg hw hp_; have p7 : 0 ≤ (x5_1 : Int) := of_decide_eq_true (by first | (with_reducible assumption) | assumption); have q7 : (x5_1 : Int) < ((x0_1.length : Int) : Int) := of_decide_eq_true (by first | (with_reducible assumption) | assumption); obtain ⟨ce7, hcl7, hM7, hcc7, hfr7⟩ := Kd.R_elem HO_0.out z44 (x5_1 : Int) p7 q7; obtain rfl := k44_openM hM7; have hx7_0 : w14.cell? ⟨go5, (x5_1 : Int).toNat * 5, none⟩ = some (.int .i64 ((rd_T44 y332 x5_1).f0.f0)) := hcc7 0 _ rfl; have hx7_1 : w14.cell? ⟨go5, (x5_1 : Int).toNat * 5 + 1, none⟩ = some (.int .i64 ((rd_T44 y332 x5_1).f0.f1)) := hcc7 1 _ rfl; have hx7_2 : w14.cell? ⟨go5, (x5_1 : Int).toNat * 5 + 2, none⟩ = some (.int .i64 ((rd_T44 y332 x5_1).f1)) := hcc7 2 _ rfl; have hx7_3 : w14.cell? ⟨go5, (x5_1 : Int).toNat * 5 + 3, none⟩ = some (.int .i64 ((rd_T44 y332 x5_1).f2)) := hcc7 3 _ rfl; have hx7_4 : w14.cell? ⟨go5, (x5_1 : Int).toNat * 5 + 4, none⟩ = some (.int .i64 ((rd_T44 y332 x5_1).f3)) := hcc7 4 _ rfl; have hf7_0 : w14.frozen? ⟨go5, (x5_1 : Int).toNat * 5, none⟩ = false := hfr7 0; have hf7_1 : w14.frozen? ⟨go5, (x5_1 : Int).toNat * 5 + 1, none⟩ = false := hfr7 1; have hf7_2 : w14.frozen? ⟨go5, (x5_1 : Int).toNat * 5 + 2, none⟩ = false := hfr7 2; have hf7_3 : w14.frozen? ⟨go5, (x5_1 : Int).toNat * 5 + 3, none⟩ = false := hfr7 3; have hf7_4 : w14.frozen? ⟨go5, (x5_1 : Int).toNat * 5 + 4, none⟩ = false := hfr7 4; clear hcl7 hcc7 hfr7 hM7; replace p7 := eq_true p7; replace q7 := eq_true q7; have HX15 := Aside0.mk (show Kd.R k44 44 w14 w0.heap.size (fun k_ => (P0_ k_ ∨ w.heap.size ≤ k_)) (.slice (some ⟨go5, 0, none⟩) x0_1.length co10) y332 from (by (with_reducible repeat (first | apply Kd.R_alloc | apply Kd.R_drewN | apply Kd.R_drew)); exact HO_0.out)); obtain ⟨ce15, hcl15, hM15, hcc15, hfr15⟩ := Kd.R_elem HX15.out z44 (x5_1 : Int) (of_decide_eq_true (by first | (with_reducible assumption) | assumption)) (by have h_ : (x5_1 : Int) < ((x0_1.length : Int) : Int) := of_decide_eq_true (by first | (with_reducible assumption) | assumption); first | exact h_ | (have e_ := (Kd.R_reads' HO_0.out).1; omega) | simpa using h_); obtain rfl := k44_openM hM15; have HP15 := Kd.R_seg HX15.out (x5_1 : Int) (of_decide_eq_true (by first | (with_reducible assumption) | assumption)) (by have h_ : (x5_1 : Int) < ((x0_1.length : Int) : Int) := of_decide_eq_true (by first | (with_reducible assumption) | assumption); first | exact h_ | (have e_ := (Kd.R_reads' HO_0.out).1; omega) | simpa using h_) (seg := [.int .i64 (wrap64 ((wrap64 (x1_1 + 1)) + 1))]) (j := 2) hcl15 hcc15 (show 3 ≤ 5 from by decide) (x' := (⟨(⟨(rd_T44 y332 x5_1).f0.f0, (rd_T44 y332 x5_1).f0.f1⟩ : S42), wrap64 ((wrap64 (x1_1 + 1)) + 1), (rd_T44 y332 x5_1).f2, (rd_T44 y332 x5_1).f3⟩ : S44)) (k44_mkM _ _ _ (⟨(⟨(rd_T44 y332 x5_1).f0.f0, (rd_T44 y332 x5_1).f0.f1⟩ : S42), wrap64 ((wrap64 (x1_1 + 1)) + 1), (rd_T44 y332 x5_1).f2, (rd_T44 y332 x5_1).f3⟩ : S44) ) (fun _ hk => hk); have hx15_2 := hcc15 2 _ rfl; (try simp only [show (k44).sz = 5 from rfl, Nat.mul_one, Nat.add_zero] at hx15_2); have hf15_2 := hfr15 2; (try simp only [show (k44).sz = 5 from rfl, Nat.mul_one, Nat.add_zero] at hf15_2); clear hcl15 hcc15 hfr15 hM15) | ((with_reducible refine gate_store (t := 3) (p := 32) rfl ?_); refine store_event (t := 3) (p := 32) (v := ?vo_w16) (w1 := (w14.setCell ⟨go5, (x5_1 : Int).toNat * 5 + 2, none⟩ (.int .i64 (wrap64 ((wrap64 (x1_1 + 1)) + 1))))) ?hg ?ho ?hn ?hr ?_; (case ho => rfl); (case hg => rfl); (case hn => rfl); (case hr => first | (go_simp; done) | (go_simp; rfl)); intro w16 hw; have hg : w14.grownBy w16 (some go5) := (by rw [hw]; exact HP15.2); have hp_ : Kd.R k44 44 w16 w0.heap.size (fun k_ => (P0_ k_ ∨ w.heap.size ≤ k_)) (.slice (some ⟨go5, 0, none⟩) x0_1.length co10) y333 := (by rw [hw, Ny333.out]; exact HP15.1); clear HP15; have n0_ := Aside0.mk (hp_); have n1_ := Aside0.mk ((by rw [hw]; exact below_set (HB.out) GB5.out : Below w0.heap.size w0 w16)); have n2_ := Aside0.mk (Kept.of_grown (S := (fun k_ => P0_ k_)) hg (by repeat (first | (with_reducible first | exact HK.out | apply Kept.alloc | apply Kept.drewN | apply Kept.drew) | exact HK.out)) (fun k_ e_ => (HO_0.out.1 k_ e_))); clear HO_0; clear HB; clear HK; have HO_0 := n0_; have HB := n1_; have HK := n2_; clear n0_ n1_ n2_; clear hg hw hp_; have p8 : 0 ≤ (x5_1 : Int) := of_decide_eq_true (by first | (with_reducible assumption) | assumption); have q8 : (x5_1 : Int) < ((x0_1.length : Int) : Int) := of_decide_eq_true (by first | (with_reducible assumption) | assumption); obtain ⟨ce8, hcl8, hM8, hcc8, hfr8⟩ := Kd.R_elem HO_0.out z44 (x5_1 : Int) p8 q8; obtain rfl := k44_openM hM8; have hx8_0 : w16.cell? ⟨go5, (x5_1 : Int).toNat * 5, none⟩ = some (.int .i64 ((rd_T44 y333 x5_1).f0.f0)) := hcc8 0 _ rfl; have hx8_1 : w16.cell? ⟨go5, (x5_1 : Int).toNat * 5 + 1, none⟩ = some (.int .i64 ((rd_T44 y333 x5_1).f0.f1)) := hcc8 1 _ rfl; have hx8_2 : w16.cell? ⟨go5, (x5_1 : Int).toNat * 5 + 2, none⟩ = some (.int .i64 ((rd_T44 y333 x5_1).f1)) := hcc8 2 _ rfl; have hx8_3 : w16.cell? ⟨go5, (x5_1 : Int).toNat * 5 + 3, none⟩ = some (.int .i64 ((rd_T44 y333 x5_1).f2)) := hcc8 3 _ rfl; have hx8_4 : w16.cell? ⟨go5, (x5_1 : Int).toNat * 5 + 4, none⟩ = some (.int .i64 ((rd_T44 y333 x5_1).f3)) := hcc8 4 _ rfl; have hf8_0 : w16.frozen? ⟨go5, (x5_1 : Int).toNat * 5, none⟩ = false := hfr8 0; have hf8_1 : w16.frozen? ⟨go5, (x5_1 : Int).toNat * 5 + 1, none⟩ = false := hfr8 1; have hf8_2 : w16.frozen? ⟨go5, (x5_1 : Int).toNat * 5 + 2, none⟩ = false := hfr8 2; have hf8_3 : w16.frozen? ⟨go5, (x5_1 : Int).toNat * 5 + 3, none⟩ = false := hfr8 3; have hf8_4 : w16.frozen? ⟨go5, (x5_1 : Int).toNat * 5 + 4, none⟩ = false := hfr8 4; clear hcl8 hcc8 hfr8 hM8; replace p8 := eq_true p8; replace q8 := eq_true q8; have HX17 := Aside0.mk (show Kd.R k44 44 w16 w0.heap.size (fun k_ => (P0_ k_ ∨ w.heap.size ≤ k_)) (.slice (some ⟨go5, 0, none⟩) x0_1.length co10) y333 from (by (with_reducible repeat (first | apply Kd.R_alloc | apply Kd.R_drewN | apply Kd.R_drew)); exact HO_0.out)); obtain ⟨ce17, hcl17, hM17, hcc17, hfr17⟩ := Kd.R_elem HX17.out z44 (x5_1 : Int) (of_decide_eq_true (by first | (with_reducible assumption) | assumption)) (by have h_ : (x5_1 : Int) < ((x0_1.length : Int) : Int) := of_decide_eq_true (by first | (with_reducible assumption) | assumption); first | exact h_ | (have e_ := (Kd.R_reads' HO_0.out).1; omega) | simpa using h_); obtain rfl := k44_openM hM17; have HP17 := Kd.R_seg HX17.out (x5_1 : Int) (of_decide_eq_true (by first | (with_reducible assumption) | assumption)) (by have h_ : (x5_1 : Int) < ((x0_1.length : Int) : Int) := of_decide_eq_true (by first | (with_reducible assumption) | assumption); first | exact h_ | (have e_ := (Kd.R_reads' HO_0.out).1; omega) | simpa using h_) (seg := [.int .i64 (wrap64 ((wrap64 ((wrap64 (x1_1 + 1)) + 1)) + 1))]) (j := 3) hcl17 hcc17 (show 4 ≤ 5 from by decide) (x' := (⟨(⟨(rd_T44 y333 x5_1).f0.f0, (rd_T44 y333 x5_1).f0.f1⟩ : S42), (rd_T44 y333 x5_1).f1, wrap64 ((wrap64 ((wrap64 (x1_1 + 1)) + 1)) + 1), (rd_T44 y333 x5_1).f3⟩ : S44)) (k44_mkM _ _ _ (⟨(⟨(rd_T44 y333 x5_1).f0.f0, (rd_T44 y333 x5_1).f0.f1⟩ : S42), (rd_T44 y333 x5_1).f1, wrap64 ((wrap64 ((wrap64 (x1_1 + 1)) + 1)) + 1), (rd_T44 y333 x5_1).f3⟩ : S44) ) (fun _ hk => hk); have hx17_3 := hcc17 3 _ rfl; (try simp only [show (k44).sz = 5 from rfl, Nat.mul_one, Nat.add_zero] at hx17_3); have hf17_3 := hfr17 3; (try simp only [show (k44).sz = 5 from rfl, Nat.mul_one, Nat.add_zero] at hf17_3); clear hcl17 hcc17 hfr17 hM17) | ((with_reducible refine gate_store (t := 3) (p := 39) rfl ?_); refine store_event (t := 3) (p := 39) (v := ?vo_w18) (w1 := (w16.setCell ⟨go5, (x5_1 : Int).toNat * 5 + 3, none⟩ (.int .i64 (wrap64 ((wrap64 ((wrap64 (x1_1 + 1)) + 1)) + 1))))) ?hg ?ho ?hn ?hr ?_; (case ho => rfl); (case hg => rfl); (case hn => rfl); (case hr => first | (go_simp; done) | (go_simp; rfl)); intro w18 hw; have hg : w16.grownBy w18 (some go5) := (by rw [hw]; exact HP17.2); have hp_ : Kd.R k44 44 w18 w0.heap.size (fun k_ => (P0_ k_ ∨ w.heap.size ≤ k_)) (.slice (some ⟨go5, 0, none⟩) x0_1.length co10) y334 := (by rw [hw, Ny334.out]; exact HP17.1); clear HP17; have n0_ := Aside0.mk (hp_); have n1_ := Aside0.mk ((by rw [hw]; exact below_set (HB.out) GB5.out : Below w0.heap.size w0 w18)); have n2_ := Aside0.mk (Kept.of_grown (S := (fun k_ => P0_ k_)) hg (by repeat (first | (with_reducible first | exact HK.out | apply Kept.alloc | apply Kept.drewN | apply Kept.drew) | exact HK.out)) (fun k_ e_ => (HO_0.out.1 k_ e_))); clear HO_0; clear HB; clear HK; have HO_0 := n0_; have HB := n1_; have HK := n2_; clear n0_ n1_ n2_; clear hg hw hp_; have p9 : 0 ≤ (x5_1 : Int) := of_decide_eq_true (by first | (with_reducible assumption) | assumption); have q9 : (x5_1 : Int) < ((x0_1.length : Int) : Int) := of_decide_eq_true (by first | (with_reducible assumption) | assumption); obtain ⟨ce9, hcl9, hM9, hcc9, hfr9⟩ := Kd.R_elem HO_0.out z44 (x5_1 : Int) p9 q9; obtain rfl := k44_openM hM9; have hx9_0 : w18.cell? ⟨go5, (x5_1 : Int).toNat * 5, none⟩ = some (.int .i64 ((rd_T44 y334 x5_1).f0.f0)) := hcc9 0 _ rfl; have hx9_1 : w18.cell? ⟨go5, (x5_1 : Int).toNat * 5 + 1, none⟩ = some (.int .i64 ((rd_T44 y334 x5_1).f0.f1)) := hcc9 1 _ rfl; have hx9_2 : w18.cell? ⟨go5, (x5_1 : Int).toNat * 5 + 2, none⟩ = some (.int .i64 ((rd_T44 y334 x5_1).f1)) := hcc9 2 _ rfl; have hx9_3 : w18.cell? ⟨go5, (x5_1 : Int).toNat * 5 + 3, none⟩ = some (.int .i64 ((rd_T44 y334 x5_1).f2)) := hcc9 3 _ rfl; have hx9_4 : w18.cell? ⟨go5, (x5_1 : Int).toNat * 5 + 4, none⟩ = some (.int .i64 ((rd_T44 y334 x5_1).f3)) := hcc9 4 _ rfl; have hf9_0 : w18.frozen? ⟨go5, (x5_1 : Int).toNat * 5, none⟩ = false := hfr9 0; have hf9_1 : w18.frozen? ⟨go5, (x5_1 : Int).toNat * 5 + 1, none⟩ = false := hfr9 1; have hf9_2 : w18.frozen? ⟨go5, (x5_1 : Int).toNat * 5 + 2, none⟩ = false := hfr9 2; have hf9_3 : w18.frozen? ⟨go5, (x5_1 : Int).toNat * 5 + 3, none⟩ = false := hfr9 3; have hf9_4 : w18.frozen? ⟨go5, (x5_1 : Int).toNat * 5 + 4, none⟩ = false := hfr9 4; clear hcl9 hcc9 hfr9 hM9; replace p9 := eq_true p9; replace q9 := eq_true q9; have HX19 := Aside0.mk (show Kd.R k44 44 w18 w0.heap.size (fun k_ => (P0_ k_ ∨ w.heap.size ≤ k_)) (.slice (some ⟨go5, 0, none⟩) x0_1.length co10) y334 from (by (with_reducible repeat (first | apply Kd.R_alloc | apply Kd.R_drewN | apply Kd.R_drew)); exact HO_0.out)); obtain ⟨ce19, hcl19, hM19, hcc19, hfr19⟩ := Kd.R_elem HX19.out z44 (x5_1 : Int) (of_decide_eq_true (by first | (with_reducible assumption) | assumption)) (by have h_ : (x5_1 : Int) < ((x0_1.length : Int) : Int) := of_decide_eq_true (by first | (with_reducible assumption) | assumption); first | exact h_ | (have e_ := (Kd.R_reads' HO_0.out).1; omega) | simpa using h_); obtain rfl := k44_openM hM19; have HP19 := Kd.R_seg HX19.out (x5_1 : Int) (of_decide_eq_true (by first | (with_reducible assumption) | assumption)) (by have h_ : (x5_1 : Int) < ((x0_1.length : Int) : Int) := of_decide_eq_true (by first | (with_reducible assumption) | assumption); first | exact h_ | (have e_ := (Kd.R_reads' HO_0.out).1; omega) | simpa using h_) (seg := [.int .i64 (wrap64 ((wrap64 ((wrap64 ((wrap64 (x1_1 + 1)) + 1)) + 1)) + 1))]) (j := 4) hcl19 hcc19 (show 5 ≤ 5 from by decide) (x' := (⟨(⟨(rd_T44 y334 x5_1).f0.f0, (rd_T44 y334 x5_1).f0.f1⟩ : S42), (rd_T44 y334 x5_1).f1, (rd_T44 y334 x5_1).f2, wrap64 ((wrap64 ((wrap64 ((wrap64 (x1_1 + 1)) + 1)) + 1)) + 1)⟩ : S44)) (k44_mkM _ _ _ (⟨(⟨(rd_T44 y334 x5_1).f0.f0, (rd_T44 y334 x5_1).f0.f1⟩ : S42), (rd_T44 y334 x5_1).f1, (rd_T44 y334 x5_1).f2, wrap64 ((wrap64 ((wrap64 ((wrap64 (x1_1 + 1)) + 1)) + 1)) + 1)⟩ : S44) ) (fun _ hk => hk); have hx19_4 := hcc19 4 _ rfl; (try simp only [show (k44).sz = 5 from rfl, Nat.mul_one, Nat.add_zero] at hx19_4); have hf19_4 := hfr19 4; (try simp only [show (k44).sz = 5 from rfl, Nat.mul_one, Nat.add_zero] at hf19_4); clear hcl19 hcc19 hfr19 hM19) | ((with_reducible refine gate_store (t := 3) (p := 46) rfl ?_); refine store_event (t := 3) (p := 46) (v := ?vo_w20) (w1 := (w18.setCell ⟨go5, (x5_1 : Int).toNat * 5 + 4, none⟩ (.int .i64 (wrap64 ((wrap64 ((wrap64 ((wrap64 (x1_1 + 1)) + 1)) + 1)) + 1))))) ?hg ?ho ?hn ?hr ?_; (case ho => rfl); (case hg => rfl); (case hn => rfl); (case hr => first | (go_simp; done) | (go_simp; rfl)); intro w20 hw; have hg : w18.grownBy w20 (some go5) := (by rw [hw]; exact HP19.2); have hp_ : Kd.R k44 44 w20 w0.heap.size (fun k_ => (P0_ k_ ∨ w.heap.size ≤ k_)) (.slice (some ⟨go5, 0, none⟩) x0_1.length co10) y335 := (by rw [hw, Ny335.out]; exact HP19.1); clear HP19; have n0_ := Aside0.mk (hp_); have n1_ := Aside0.mk ((by rw [hw]; exact below_set (HB.out) GB5.out : Below w0.heap.size w0 w20)); have n2_ := Aside0.mk (Kept.of_grown (S := (fun k_ => P0_ k_)) hg (by repeat (first | (with_reducible first | exact HK.out | apply Kept.alloc | apply Kept.drewN | apply Kept.drew) | exact HK.out)) (fun k_ e_ => (HO_0.out.1 k_ e_))); clear HO_0; clear HB; clear HK; have HO_0 := n0_; have HB := n1_; have HK := n2_; clear n0_ n1_ n2_; clear hg hw hp_))
          go_roundg k1
          case measure => have := HK1.out; omega
          case rel => exact ⟨(y335), (wrap64 ((wrap64 ((wrap64 ((wrap64 ((wrap64 (x1_1 + 1)) + 1)) + 1)) + 1)) + 1)), (wrap64 (x5_1 + 1)), (by first | rfl | (simp; done) | (simp [*]; done)), (by first | rfl | (simp; done) | (simp [*]; done)), H', ⟨by have := HK1.out; omega⟩, ⟨by (with_reducible repeat (first | apply Kd.R_alloc | apply Kd.R_drewN | apply Kd.R_drew)); exact HO_0.out⟩, ⟨by repeat (first | (with_reducible first | exact HK.out | apply Kept.alloc | apply Kept.drewN | apply Kept.drew) | exact HK.out)⟩, ⟨by repeat (first | (with_reducible first | exact HB.out | apply below_alloc | apply pw_below_drewN | apply below_drew1) | exact HB.out)⟩⟩
        · rw [if_neg c4] at H
          exact absurd H (by simp)
      · rw [if_neg c3] at H
        have c3b0 : decide (x5_1 < (x0_1.length : Int)) = false := decide_eq_false c3
        clear c3
        simp only [Option.some.injEq, Prod.mk.injEq] at H
        obtain ⟨rfl, rfl⟩ := H
        obtain ⟨Ao21, co21, eo21⟩ := Kd.R_slice HO_0.out
        subst eo21
        go_wp2
        go_ret
        exact ⟨by first | rfl | (simp [errW_none, errW_some] <;> rfl) | (simp [*, errW_none, errW_some] <;> rfl), by (with_reducible repeat (first | apply Kd.R_alloc | apply Kd.R_drewN | apply Kd.R_drew)); exact HO_0.out, by repeat (first | (with_reducible first | exact HB.out | apply below_alloc | apply pw_below_drewN | apply below_drew1) | exact HB.out), by repeat (first | (with_reducible first | exact HK.out | apply Kept.alloc | apply Kept.drewN | apply Kept.drew) | exact HK.out)⟩


/-! ### one element of a row of one's own, lent and written -/
theorem nk_elem {α : Type} {d : Kd α} {e : Nat} {W : World} {base : Nat} {ok : Nat → Prop} {A : Option Addr} {n cap : Nat} {pre rest : List α} {x : α} {i : Int} (h : Kd.S d e W base ok (.slice A n cap) (pre ++ x :: rest)) (hi : pre.length = i.toNat) (h0 : 0 ≤ i) (z : α) :
    ∃ g, A = some ⟨g, 0, none⟩ ∧ base ≤ g ∧ ok g ∧ i < n ∧ ∃ (oki : Nat → Prop) (c : List Value), d.M W base oki x c ∧ (∀ k, oki k → ok k ∧ k ≠ g) ∧ Kd.H d e W base ok (.slice (some ⟨g, 0, none⟩) n cap) (pre ++ x :: rest) i oki c := by
  obtain ⟨g, cap', hv, hb, _, _⟩ := Kd.S_form h (by simp only [List.length_append, List.length_cons]; omega)
  injection hv with hA hn hc
  subst hA hn hc
  have hok : ok g := by
    obtain ⟨f, h1, _⟩ := h
    exact h1 g (by simp [Value.ownBlock])
  have hlt : i < ((pre ++ x :: rest).length : Int) := by simp only [List.length_append, List.length_cons]; omega
  obtain ⟨oki, c, _, hM, _, hoki, hH⟩ := Kd.S_lend h z i h0 hlt
  refine ⟨g, rfl, hb, hok, hlt, oki, c, ?_, hoki, hH⟩
  rw [show (pre ++ x :: rest).getD i.toNat z = x by rw [← hi]; simp [List.getD]] at hM
  exact hM
theorem nk_set {α : Type} {d : Kd α} {e : Nat} {W : World} {base : Nat} {ok oki : Nat → Prop} {g n cap : Nat} {xs : List α} {i : Int} {c c' : List Value} (h : Kd.H d e W base ok (.slice (some ⟨g, 0, none⟩) n cap) xs i oki c) (h0 : 0 ≤ i) (h1 : i < n) (j : Nat) (u : Value) (hu : u.oneCell' = true) (hj : j + 1 ≤ d.sz) (hc : c.take j ++ [u] ++ c.drop (j + 1) = c') (p : Nat) (hp : p = i.toNat * d.sz + j) :
    Kd.H d e (W.setCell ⟨g, p, none⟩ u) base ok (.slice (some ⟨g, 0, none⟩) n cap) xs i oki c' := by
  subst hp hc
  exact (Kd.H_seg h h0 h1 (seg := [u]) hj (fun q hq => by rw [List.mem_singleton.1 hq]; exact hu)).1
theorem nk_back {α : Type} {d : Kd α} {e : Nat} {W : World} {base : Nat} {ok oki : Nat → Prop} {v : Value} {pre rest : List α} {x x' : α} {i : Int} {c : List Value} (h : Kd.H d e W base ok v (pre ++ x :: rest) i oki c) (hi : pre.length = i.toNat) (hM : d.M W base oki x' c) :
    Kd.S d e W base ok v ((pre ++ [x']) ++ rest) := by
  have h2 := Kd.H_back h hM (fun _ hk => hk)
  rw [show (pre ++ x :: rest).set i.toNat x' = (pre ++ [x']) ++ rest by rw [← hi]; simp] at h2
  exact h2
/-! ### laws_markKeeperHostS: function 11 (by a program of this session: rows inside elements) -/
def laws_markKeeperHostS.go (k : Nat) : List S47 → Int → Option (Int × List S47)
  | [], v => some (v, [])
  | x :: l, v => (laws_markKeeperS.f k x.f1 (wrap64 ((wrap64 ((wrap64 ((wrap64 ((wrap64 (v + 1)) + 1)) + 1)) + 1)) + 1))).bind fun p => (laws_markKeeperHostS.go k l (wrap64 (p.1 + 1))).bind fun q => some (q.1, (⟨(⟨(⟨v, wrap64 (v + 1)⟩ : S42), wrap64 ((wrap64 (v + 1)) + 1), wrap64 ((wrap64 ((wrap64 (v + 1)) + 1)) + 1), wrap64 ((wrap64 ((wrap64 ((wrap64 (v + 1)) + 1)) + 1)) + 1)⟩ : S44), p.2, p.1⟩ : S47) :: q.2)
def laws_markKeeperHostS.f (k : Nat) (l0 : List S47) (a1 : Int) : Option (Int × List S47) := if l0.length ≤ 9223372036854775806 then laws_markKeeperHostS.go k l0 a1 else none
theorem laws_markKeeperHostS.go_mono (k : Nat) : ∀ (l : List S47) (v : Int), LeO (laws_markKeeperHostS.go k l v) (laws_markKeeperHostS.go (k + 1) l v)
  | [], _ => LeO.refl _
  | x :: l, v => by
    unfold laws_markKeeperHostS.go
    exact LeO.bind (laws_markKeeperS.mono _ _ _) (fun p => LeO.bind (laws_markKeeperHostS.go_mono k l _) (fun _ => LeO.refl _))
theorem laws_markKeeperHostS.mono : ∀ a0 a1 k, LeO (laws_markKeeperHostS.f k a0 a1) (laws_markKeeperHostS.f (k + 1) a0 a1) := by
  intro a0 a1 k
  unfold laws_markKeeperHostS.f
  exact LeO.ite (laws_markKeeperHostS.go_mono k _ _) (LeO.refl _)
set_option maxHeartbeats 8000000 in
set_option maxRecDepth 100000 in
theorem laws_markKeeperHostS.calls (k : Nat) (P0_ : Nat → Prop) (u9000_ : Value) (l0 : List (S47)) (a1 : Int) (r1 : Int) (r2 : List (S47)) (w0 w : World) (hB : Below w0.heap.size w0 w) (ho0 : Kd.S k47 47 w w0.heap.size P0_ u9000_ l0) (h : laws_markKeeperHostS.f k l0 a1 = some (r1, r2)) :
    Calls Try.prog 11 #[u9000_, .int .i64 a1] w fun e w' => e = .returned (.int .i64 r1) ∧ Kd.S k47 47 w' w0.heap.size (fun k_ => P0_ k_) u9000_ r2 ∧ Below w0.heap.size w0 w' ∧ Kept w w' (fun k_ => P0_ k_) := by
  have HO0 := Aside0.mk ho0
  have HK := Aside0.mk (Kept.refl w (fun k_ => P0_ k_))
  have HB := Aside0.mk hB
  clear hB ho0
  obtain ⟨hl, H⟩ : l0.length ≤ 9223372036854775806 ∧ laws_markKeeperHostS.go k l0 a1 = some (r1, r2) := by
    unfold laws_markKeeperHostS.f at h
    split at h
    · exact ⟨by assumption, h⟩
    · cases h
  clear h
  have HL := Aside0.mk hl
  have HA := Aside0.mk (show ∃ post, laws_markKeeperHostS.go k (l0.drop (0 : Int).toNat) a1 = some (r1, post) ∧ r2 = [] ++ post from ⟨r2, H, rfl⟩)
  clear hl H
  obtain ⟨A0, c0, eu⟩ := Kd.S_slice HO0.out
  subst eu
  go_enter Try.func11, Try.ntmps11
  go_wp2
  go_loopg [1, 5] (l0.length + 1) (fun kq v1 v5 w' => ∃ (pre : List S47) (xv xi : Int), v1 = .int .i64 xv ∧ v5 = .int .i64 xi ∧ Aside0 ((kq : Int) + xi = (l0.length : Int) + 1 ∧ xi ≤ (l0.length : Int) ∧ 0 ≤ xi ∧ pre.length = xi.toNat) ∧ Aside0 (∃ post, laws_markKeeperHostS.go k (l0.drop xi.toNat) xv = some (r1, post) ∧ r2 = pre ++ post) ∧ Aside0 (Kd.S k47 47 w' w0.heap.size P0_ (.slice A0 l0.length c0) (pre ++ l0.drop xi.toNat)) ∧ Aside0 (Kept w w' (fun k_ => P0_ k_)) ∧ Aside0 (Below w0.heap.size w0 w'))
  case atStart => exact ⟨[], a1, 0, rfl, rfl, ⟨by omega, by omega, by omega, rfl⟩, HA, ⟨by (with_reducible repeat (first | apply Kd.S_alloc | apply Kd.S_drewN | apply Kd.S_drew)); exact HO0.out⟩, ⟨by repeat (first | (with_reducible first | exact HK.out | apply Kept.alloc | apply Kept.drewN | apply Kept.drew) | exact HK.out)⟩, ⟨by repeat (first | (with_reducible first | exact HB.out | apply below_alloc | apply pw_below_drewN | apply below_drew1) | exact HB.out)⟩⟩
  case round =>
    clear HA HO0 HK HB
    obtain ⟨pre, xv, xi, rfl, rfl, HN, HA, HO, HK, HB⟩ := hrel
    have hi0 := HN.out.2.2.1
    by_cases hi : xi < (l0.length : Int)
    · cases gk with
      | zero => exact absurd HN.out.1 (by simp; omega)
      | succ k1 =>
        have hdec : decide (xi < (l0.length : Int)) = true := decide_eq_true hi
        have hil : xi.toNat < l0.length := by omega
        obtain ⟨x, hx⟩ : ∃ x, l0.drop xi.toNat = x :: l0.drop (xi.toNat + 1) := ⟨_, List.drop_eq_getElem_cons hil⟩
        have HO1 := HO.out
        rw [hx] at HO1
        obtain ⟨post, H, hr⟩ := HA.out
        rw [hx] at H
        unfold laws_markKeeperHostS.go at H
        obtain ⟨⟨m_, rl_⟩, C1, H⟩ := Option.bind_eq_some_iff.mp H
        obtain ⟨⟨rq_, post2⟩, C2, H⟩ := Option.bind_eq_some_iff.mp H
        obtain ⟨rfl, rfl⟩ := Prod.mk.inj (Option.some.inj H)
        have HC := Aside0.mk C1
        have HD := Aside0.mk C2
        have HE := Aside0.mk hr
        clear C1 C2 H HA HO hr
        obtain ⟨go_, eA, hgb, hgo, hin, oki, ce_, hM, hoki, hH⟩ := nk_elem HO1 HN.out.2.2.2 hi0 z47
        subst eA
        obtain ⟨vr_, rfl, hr_⟩ := k47_openM hM
        obtain ⟨Ar, cr, rfl⟩ := Kd.R_slice hr_
        have HH := Aside0.mk hH
        have HR := Aside0.mk hr_
        have HKI := Aside0.mk hoki
        have HGB := Aside0.mk hgb
        have HGO := Aside0.mk hgo
        have HP := Aside0.mk (show 0 ≤ xi ∧ xi < ((l0.length : Nat) : Int) from ⟨hi0, hi⟩)
        have HXD := Aside0.mk hx
        clear HO1 hM hH hr_ hoki hgb hgo hin hx
        have hz_ := Kd.H_at HH.out HP.out.1 HP.out.2
        have hx0 : wr.cell? ⟨go_, xi.toNat * 7, none⟩ = some (.int .i64 x.f0.f0.f0) := hz_.1 0 _ rfl
        have hf0 : wr.frozen? ⟨go_, xi.toNat * 7, none⟩ = false := hz_.2 0
        have hx1 : wr.cell? ⟨go_, xi.toNat * 7 + 1, none⟩ = some (.int .i64 x.f0.f0.f1) := hz_.1 1 _ rfl
        have hf1 : wr.frozen? ⟨go_, xi.toNat * 7 + 1, none⟩ = false := hz_.2 1
        have hx2 : wr.cell? ⟨go_, xi.toNat * 7 + 2, none⟩ = some (.int .i64 x.f0.f1) := hz_.1 2 _ rfl
        have hf2 : wr.frozen? ⟨go_, xi.toNat * 7 + 2, none⟩ = false := hz_.2 2
        have hx3 : wr.cell? ⟨go_, xi.toNat * 7 + 3, none⟩ = some (.int .i64 x.f0.f2) := hz_.1 3 _ rfl
        have hf3 : wr.frozen? ⟨go_, xi.toNat * 7 + 3, none⟩ = false := hz_.2 3
        have hx4 : wr.cell? ⟨go_, xi.toNat * 7 + 4, none⟩ = some (.int .i64 x.f0.f3) := hz_.1 4 _ rfl
        have hf4 : wr.frozen? ⟨go_, xi.toNat * 7 + 4, none⟩ = false := hz_.2 4
        have hx5 : wr.cell? ⟨go_, xi.toNat * 7 + 5, none⟩ = some (.slice Ar x.f1.length cr) := hz_.1 5 _ rfl
        have hf5 : wr.frozen? ⟨go_, xi.toNat * 7 + 5, none⟩ = false := hz_.2 5
        have hx6 : wr.cell? ⟨go_, xi.toNat * 7 + 6, none⟩ = some (.int .i64 x.f2) := hz_.1 6 _ rfl
        have hf6 : wr.frozen? ⟨go_, xi.toNat * 7 + 6, none⟩ = false := hz_.2 6
        clear hz_
        have hp1 : (0 ≤ xi) = True := eq_true hi0
        have hp2 : (xi < (l0.length : Int)) = True := eq_true hi
        clear hi hi0 hil
        go_wp2_with (first | ((with_reducible refine gate_store (t := 3) (p := 18) rfl ?_); refine store_event (t := 3) (p := 18) (v := ?vo_wv1) (w1 := (wr.setCell ⟨go_, xi.toNat * 7, none⟩ (.int .i64 (xv)))) ?hg ?ho ?hn ?hr ?_; (case ho => rfl); (case hg => rfl); (case hn => rfl); (case hr => first | (go_simp; done) | (go_simp; rfl)); intro wv1 hw; have n0_ := Aside0.mk (by rw [hw]; exact nk_set HH.out HP.out.1 HP.out.2 0 _ rfl (by decide) rfl _ rfl : Kd.H k47 47 wv1 w0.heap.size P0_ (.slice (some ⟨go_, 0, none⟩) l0.length c0) (pre ++ x :: l0.drop (xi.toNat + 1)) xi oki [.int .i64 (xv), .int .i64 x.f0.f0.f1, .int .i64 x.f0.f1, .int .i64 x.f0.f2, .int .i64 x.f0.f3, .slice Ar x.f1.length cr, .int .i64 x.f2]); have n1_ := Aside0.mk (by rw [hw]; exact below_set HB.out HGB.out : Below w0.heap.size w0 wv1); have n2_ := Aside0.mk (by rw [hw]; exact Kept.setCell HK.out (.inl HGO.out) _ : Kept w wv1 (fun k_ => P0_ k_)); have n3_ := Aside0.mk (by rw [hw]; exact Kd.R_far (p := ⟨go_, xi.toNat * 7, none⟩) HR.out (fun k_ hk_ => (HKI.out k_ hk_).2) _ : Kd.R k44 44 wv1 w0.heap.size oki (.slice Ar x.f1.length cr) x.f1); clear hw HH HB HK HR hx0 hf0 hx1 hf1 hx2 hf2 hx3 hf3 hx4 hf4 hx5 hf5 hx6 hf6; have HH := n0_; have HB := n1_; have HK := n2_; have HR := n3_; clear n0_ n1_ n2_ n3_; have hz_ := Kd.H_at HH.out HP.out.1 HP.out.2; have hx0 : wv1.cell? ⟨go_, xi.toNat * 7, none⟩ = some (.int .i64 (xv)) := hz_.1 0 _ rfl; have hf0 : wv1.frozen? ⟨go_, xi.toNat * 7, none⟩ = false := hz_.2 0; have hx1 : wv1.cell? ⟨go_, xi.toNat * 7 + 1, none⟩ = some (.int .i64 x.f0.f0.f1) := hz_.1 1 _ rfl; have hf1 : wv1.frozen? ⟨go_, xi.toNat * 7 + 1, none⟩ = false := hz_.2 1; have hx2 : wv1.cell? ⟨go_, xi.toNat * 7 + 2, none⟩ = some (.int .i64 x.f0.f1) := hz_.1 2 _ rfl; have hf2 : wv1.frozen? ⟨go_, xi.toNat * 7 + 2, none⟩ = false := hz_.2 2; have hx3 : wv1.cell? ⟨go_, xi.toNat * 7 + 3, none⟩ = some (.int .i64 x.f0.f2) := hz_.1 3 _ rfl; have hf3 : wv1.frozen? ⟨go_, xi.toNat * 7 + 3, none⟩ = false := hz_.2 3; have hx4 : wv1.cell? ⟨go_, xi.toNat * 7 + 4, none⟩ = some (.int .i64 x.f0.f3) := hz_.1 4 _ rfl; have hf4 : wv1.frozen? ⟨go_, xi.toNat * 7 + 4, none⟩ = false := hz_.2 4; have hx5 : wv1.cell? ⟨go_, xi.toNat * 7 + 5, none⟩ = some (.slice Ar x.f1.length cr) := hz_.1 5 _ rfl; have hf5 : wv1.frozen? ⟨go_, xi.toNat * 7 + 5, none⟩ = false := hz_.2 5; have hx6 : wv1.cell? ⟨go_, xi.toNat * 7 + 6, none⟩ = some (.int .i64 x.f2) := hz_.1 6 _ rfl; have hf6 : wv1.frozen? ⟨go_, xi.toNat * 7 + 6, none⟩ = false := hz_.2 6; clear hz_) | ((with_reducible refine gate_store (t := 3) (p := 27) rfl ?_); refine store_event (t := 3) (p := 27) (v := ?vo_wv2) (w1 := (wv1.setCell ⟨go_, xi.toNat * 7 + 1, none⟩ (.int .i64 (wrap64 (xv + 1))))) ?hg ?ho ?hn ?hr ?_; (case ho => rfl); (case hg => rfl); (case hn => rfl); (case hr => first | (go_simp; done) | (go_simp; rfl)); intro wv2 hw; have n0_ := Aside0.mk (by rw [hw]; exact nk_set HH.out HP.out.1 HP.out.2 1 _ rfl (by decide) rfl _ rfl : Kd.H k47 47 wv2 w0.heap.size P0_ (.slice (some ⟨go_, 0, none⟩) l0.length c0) (pre ++ x :: l0.drop (xi.toNat + 1)) xi oki [.int .i64 (xv), .int .i64 (wrap64 (xv + 1)), .int .i64 x.f0.f1, .int .i64 x.f0.f2, .int .i64 x.f0.f3, .slice Ar x.f1.length cr, .int .i64 x.f2]); have n1_ := Aside0.mk (by rw [hw]; exact below_set HB.out HGB.out : Below w0.heap.size w0 wv2); have n2_ := Aside0.mk (by rw [hw]; exact Kept.setCell HK.out (.inl HGO.out) _ : Kept w wv2 (fun k_ => P0_ k_)); have n3_ := Aside0.mk (by rw [hw]; exact Kd.R_far (p := ⟨go_, xi.toNat * 7 + 1, none⟩) HR.out (fun k_ hk_ => (HKI.out k_ hk_).2) _ : Kd.R k44 44 wv2 w0.heap.size oki (.slice Ar x.f1.length cr) x.f1); clear hw HH HB HK HR hx0 hf0 hx1 hf1 hx2 hf2 hx3 hf3 hx4 hf4 hx5 hf5 hx6 hf6; have HH := n0_; have HB := n1_; have HK := n2_; have HR := n3_; clear n0_ n1_ n2_ n3_; have hz_ := Kd.H_at HH.out HP.out.1 HP.out.2; have hx0 : wv2.cell? ⟨go_, xi.toNat * 7, none⟩ = some (.int .i64 (xv)) := hz_.1 0 _ rfl; have hf0 : wv2.frozen? ⟨go_, xi.toNat * 7, none⟩ = false := hz_.2 0; have hx1 : wv2.cell? ⟨go_, xi.toNat * 7 + 1, none⟩ = some (.int .i64 (wrap64 (xv + 1))) := hz_.1 1 _ rfl; have hf1 : wv2.frozen? ⟨go_, xi.toNat * 7 + 1, none⟩ = false := hz_.2 1; have hx2 : wv2.cell? ⟨go_, xi.toNat * 7 + 2, none⟩ = some (.int .i64 x.f0.f1) := hz_.1 2 _ rfl; have hf2 : wv2.frozen? ⟨go_, xi.toNat * 7 + 2, none⟩ = false := hz_.2 2; have hx3 : wv2.cell? ⟨go_, xi.toNat * 7 + 3, none⟩ = some (.int .i64 x.f0.f2) := hz_.1 3 _ rfl; have hf3 : wv2.frozen? ⟨go_, xi.toNat * 7 + 3, none⟩ = false := hz_.2 3; have hx4 : wv2.cell? ⟨go_, xi.toNat * 7 + 4, none⟩ = some (.int .i64 x.f0.f3) := hz_.1 4 _ rfl; have hf4 : wv2.frozen? ⟨go_, xi.toNat * 7 + 4, none⟩ = false := hz_.2 4; have hx5 : wv2.cell? ⟨go_, xi.toNat * 7 + 5, none⟩ = some (.slice Ar x.f1.length cr) := hz_.1 5 _ rfl; have hf5 : wv2.frozen? ⟨go_, xi.toNat * 7 + 5, none⟩ = false := hz_.2 5; have hx6 : wv2.cell? ⟨go_, xi.toNat * 7 + 6, none⟩ = some (.int .i64 x.f2) := hz_.1 6 _ rfl; have hf6 : wv2.frozen? ⟨go_, xi.toNat * 7 + 6, none⟩ = false := hz_.2 6; clear hz_) | ((with_reducible refine gate_store (t := 3) (p := 35) rfl ?_); refine store_event (t := 3) (p := 35) (v := ?vo_wv3) (w1 := (wv2.setCell ⟨go_, xi.toNat * 7 + 2, none⟩ (.int .i64 (wrap64 ((wrap64 (xv + 1)) + 1))))) ?hg ?ho ?hn ?hr ?_; (case ho => rfl); (case hg => rfl); (case hn => rfl); (case hr => first | (go_simp; done) | (go_simp; rfl)); intro wv3 hw; have n0_ := Aside0.mk (by rw [hw]; exact nk_set HH.out HP.out.1 HP.out.2 2 _ rfl (by decide) rfl _ rfl : Kd.H k47 47 wv3 w0.heap.size P0_ (.slice (some ⟨go_, 0, none⟩) l0.length c0) (pre ++ x :: l0.drop (xi.toNat + 1)) xi oki [.int .i64 (xv), .int .i64 (wrap64 (xv + 1)), .int .i64 (wrap64 ((wrap64 (xv + 1)) + 1)), .int .i64 x.f0.f2, .int .i64 x.f0.f3, .slice Ar x.f1.length cr, .int .i64 x.f2]); have n1_ := Aside0.mk (by rw [hw]; exact below_set HB.out HGB.out : Below w0.heap.size w0 wv3); have n2_ := Aside0.mk (by rw [hw]; exact Kept.setCell HK.out (.inl HGO.out) _ : Kept w wv3 (fun k_ => P0_ k_)); have n3_ := Aside0.mk (by rw [hw]; exact Kd.R_far (p := ⟨go_, xi.toNat * 7 + 2, none⟩) HR.out (fun k_ hk_ => (HKI.out k_ hk_).2) _ : Kd.R k44 44 wv3 w0.heap.size oki (.slice Ar x.f1.length cr) x.f1); clear hw HH HB HK HR hx0 hf0 hx1 hf1 hx2 hf2 hx3 hf3 hx4 hf4 hx5 hf5 hx6 hf6; have HH := n0_; have HB := n1_; have HK := n2_; have HR := n3_; clear n0_ n1_ n2_ n3_; have hz_ := Kd.H_at HH.out HP.out.1 HP.out.2; have hx0 : wv3.cell? ⟨go_, xi.toNat * 7, none⟩ = some (.int .i64 (xv)) := hz_.1 0 _ rfl; have hf0 : wv3.frozen? ⟨go_, xi.toNat * 7, none⟩ = false := hz_.2 0; have hx1 : wv3.cell? ⟨go_, xi.toNat * 7 + 1, none⟩ = some (.int .i64 (wrap64 (xv + 1))) := hz_.1 1 _ rfl; have hf1 : wv3.frozen? ⟨go_, xi.toNat * 7 + 1, none⟩ = false := hz_.2 1; have hx2 : wv3.cell? ⟨go_, xi.toNat * 7 + 2, none⟩ = some (.int .i64 (wrap64 ((wrap64 (xv + 1)) + 1))) := hz_.1 2 _ rfl; have hf2 : wv3.frozen? ⟨go_, xi.toNat * 7 + 2, none⟩ = false := hz_.2 2; have hx3 : wv3.cell? ⟨go_, xi.toNat * 7 + 3, none⟩ = some (.int .i64 x.f0.f2) := hz_.1 3 _ rfl; have hf3 : wv3.frozen? ⟨go_, xi.toNat * 7 + 3, none⟩ = false := hz_.2 3; have hx4 : wv3.cell? ⟨go_, xi.toNat * 7 + 4, none⟩ = some (.int .i64 x.f0.f3) := hz_.1 4 _ rfl; have hf4 : wv3.frozen? ⟨go_, xi.toNat * 7 + 4, none⟩ = false := hz_.2 4; have hx5 : wv3.cell? ⟨go_, xi.toNat * 7 + 5, none⟩ = some (.slice Ar x.f1.length cr) := hz_.1 5 _ rfl; have hf5 : wv3.frozen? ⟨go_, xi.toNat * 7 + 5, none⟩ = false := hz_.2 5; have hx6 : wv3.cell? ⟨go_, xi.toNat * 7 + 6, none⟩ = some (.int .i64 x.f2) := hz_.1 6 _ rfl; have hf6 : wv3.frozen? ⟨go_, xi.toNat * 7 + 6, none⟩ = false := hz_.2 6; clear hz_) | ((with_reducible refine gate_store (t := 3) (p := 43) rfl ?_); refine store_event (t := 3) (p := 43) (v := ?vo_wv4) (w1 := (wv3.setCell ⟨go_, xi.toNat * 7 + 3, none⟩ (.int .i64 (wrap64 ((wrap64 ((wrap64 (xv + 1)) + 1)) + 1))))) ?hg ?ho ?hn ?hr ?_; (case ho => rfl); (case hg => rfl); (case hn => rfl); (case hr => first | (go_simp; done) | (go_simp; rfl)); intro wv4 hw; have n0_ := Aside0.mk (by rw [hw]; exact nk_set HH.out HP.out.1 HP.out.2 3 _ rfl (by decide) rfl _ rfl : Kd.H k47 47 wv4 w0.heap.size P0_ (.slice (some ⟨go_, 0, none⟩) l0.length c0) (pre ++ x :: l0.drop (xi.toNat + 1)) xi oki [.int .i64 (xv), .int .i64 (wrap64 (xv + 1)), .int .i64 (wrap64 ((wrap64 (xv + 1)) + 1)), .int .i64 (wrap64 ((wrap64 ((wrap64 (xv + 1)) + 1)) + 1)), .int .i64 x.f0.f3, .slice Ar x.f1.length cr, .int .i64 x.f2]); have n1_ := Aside0.mk (by rw [hw]; exact below_set HB.out HGB.out : Below w0.heap.size w0 wv4); have n2_ := Aside0.mk (by rw [hw]; exact Kept.setCell HK.out (.inl HGO.out) _ : Kept w wv4 (fun k_ => P0_ k_)); have n3_ := Aside0.mk (by rw [hw]; exact Kd.R_far (p := ⟨go_, xi.toNat * 7 + 3, none⟩) HR.out (fun k_ hk_ => (HKI.out k_ hk_).2) _ : Kd.R k44 44 wv4 w0.heap.size oki (.slice Ar x.f1.length cr) x.f1); clear hw HH HB HK HR hx0 hf0 hx1 hf1 hx2 hf2 hx3 hf3 hx4 hf4 hx5 hf5 hx6 hf6; have HH := n0_; have HB := n1_; have HK := n2_; have HR := n3_; clear n0_ n1_ n2_ n3_; have hz_ := Kd.H_at HH.out HP.out.1 HP.out.2; have hx0 : wv4.cell? ⟨go_, xi.toNat * 7, none⟩ = some (.int .i64 (xv)) := hz_.1 0 _ rfl; have hf0 : wv4.frozen? ⟨go_, xi.toNat * 7, none⟩ = false := hz_.2 0; have hx1 : wv4.cell? ⟨go_, xi.toNat * 7 + 1, none⟩ = some (.int .i64 (wrap64 (xv + 1))) := hz_.1 1 _ rfl; have hf1 : wv4.frozen? ⟨go_, xi.toNat * 7 + 1, none⟩ = false := hz_.2 1; have hx2 : wv4.cell? ⟨go_, xi.toNat * 7 + 2, none⟩ = some (.int .i64 (wrap64 ((wrap64 (xv + 1)) + 1))) := hz_.1 2 _ rfl; have hf2 : wv4.frozen? ⟨go_, xi.toNat * 7 + 2, none⟩ = false := hz_.2 2; have hx3 : wv4.cell? ⟨go_, xi.toNat * 7 + 3, none⟩ = some (.int .i64 (wrap64 ((wrap64 ((wrap64 (xv + 1)) + 1)) + 1))) := hz_.1 3 _ rfl; have hf3 : wv4.frozen? ⟨go_, xi.toNat * 7 + 3, none⟩ = false := hz_.2 3; have hx4 : wv4.cell? ⟨go_, xi.toNat * 7 + 4, none⟩ = some (.int .i64 x.f0.f3) := hz_.1 4 _ rfl; have hf4 : wv4.frozen? ⟨go_, xi.toNat * 7 + 4, none⟩ = false := hz_.2 4; have hx5 : wv4.cell? ⟨go_, xi.toNat * 7 + 5, none⟩ = some (.slice Ar x.f1.length cr) := hz_.1 5 _ rfl; have hf5 : wv4.frozen? ⟨go_, xi.toNat * 7 + 5, none⟩ = false := hz_.2 5; have hx6 : wv4.cell? ⟨go_, xi.toNat * 7 + 6, none⟩ = some (.int .i64 x.f2) := hz_.1 6 _ rfl; have hf6 : wv4.frozen? ⟨go_, xi.toNat * 7 + 6, none⟩ = false := hz_.2 6; clear hz_) | ((with_reducible refine gate_store (t := 3) (p := 51) rfl ?_); refine store_event (t := 3) (p := 51) (v := ?vo_wv5) (w1 := (wv4.setCell ⟨go_, xi.toNat * 7 + 4, none⟩ (.int .i64 (wrap64 ((wrap64 ((wrap64 ((wrap64 (xv + 1)) + 1)) + 1)) + 1))))) ?hg ?ho ?hn ?hr ?_; (case ho => rfl); (case hg => rfl); (case hn => rfl); (case hr => first | (go_simp; done) | (go_simp; rfl)); intro wv5 hw; have n0_ := Aside0.mk (by rw [hw]; exact nk_set HH.out HP.out.1 HP.out.2 4 _ rfl (by decide) rfl _ rfl : Kd.H k47 47 wv5 w0.heap.size P0_ (.slice (some ⟨go_, 0, none⟩) l0.length c0) (pre ++ x :: l0.drop (xi.toNat + 1)) xi oki [.int .i64 (xv), .int .i64 (wrap64 (xv + 1)), .int .i64 (wrap64 ((wrap64 (xv + 1)) + 1)), .int .i64 (wrap64 ((wrap64 ((wrap64 (xv + 1)) + 1)) + 1)), .int .i64 (wrap64 ((wrap64 ((wrap64 ((wrap64 (xv + 1)) + 1)) + 1)) + 1)), .slice Ar x.f1.length cr, .int .i64 x.f2]); have n1_ := Aside0.mk (by rw [hw]; exact below_set HB.out HGB.out : Below w0.heap.size w0 wv5); have n2_ := Aside0.mk (by rw [hw]; exact Kept.setCell HK.out (.inl HGO.out) _ : Kept w wv5 (fun k_ => P0_ k_)); have n3_ := Aside0.mk (by rw [hw]; exact Kd.R_far (p := ⟨go_, xi.toNat * 7 + 4, none⟩) HR.out (fun k_ hk_ => (HKI.out k_ hk_).2) _ : Kd.R k44 44 wv5 w0.heap.size oki (.slice Ar x.f1.length cr) x.f1); clear hw HH HB HK HR hx0 hf0 hx1 hf1 hx2 hf2 hx3 hf3 hx4 hf4 hx5 hf5 hx6 hf6; have HH := n0_; have HB := n1_; have HK := n2_; have HR := n3_; clear n0_ n1_ n2_ n3_; have hz_ := Kd.H_at HH.out HP.out.1 HP.out.2; have hx0 : wv5.cell? ⟨go_, xi.toNat * 7, none⟩ = some (.int .i64 (xv)) := hz_.1 0 _ rfl; have hf0 : wv5.frozen? ⟨go_, xi.toNat * 7, none⟩ = false := hz_.2 0; have hx1 : wv5.cell? ⟨go_, xi.toNat * 7 + 1, none⟩ = some (.int .i64 (wrap64 (xv + 1))) := hz_.1 1 _ rfl; have hf1 : wv5.frozen? ⟨go_, xi.toNat * 7 + 1, none⟩ = false := hz_.2 1; have hx2 : wv5.cell? ⟨go_, xi.toNat * 7 + 2, none⟩ = some (.int .i64 (wrap64 ((wrap64 (xv + 1)) + 1))) := hz_.1 2 _ rfl; have hf2 : wv5.frozen? ⟨go_, xi.toNat * 7 + 2, none⟩ = false := hz_.2 2; have hx3 : wv5.cell? ⟨go_, xi.toNat * 7 + 3, none⟩ = some (.int .i64 (wrap64 ((wrap64 ((wrap64 (xv + 1)) + 1)) + 1))) := hz_.1 3 _ rfl; have hf3 : wv5.frozen? ⟨go_, xi.toNat * 7 + 3, none⟩ = false := hz_.2 3; have hx4 : wv5.cell? ⟨go_, xi.toNat * 7 + 4, none⟩ = some (.int .i64 (wrap64 ((wrap64 ((wrap64 ((wrap64 (xv + 1)) + 1)) + 1)) + 1))) := hz_.1 4 _ rfl; have hf4 : wv5.frozen? ⟨go_, xi.toNat * 7 + 4, none⟩ = false := hz_.2 4; have hx5 : wv5.cell? ⟨go_, xi.toNat * 7 + 5, none⟩ = some (.slice Ar x.f1.length cr) := hz_.1 5 _ rfl; have hf5 : wv5.frozen? ⟨go_, xi.toNat * 7 + 5, none⟩ = false := hz_.2 5; have hx6 : wv5.cell? ⟨go_, xi.toNat * 7 + 6, none⟩ = some (.int .i64 x.f2) := hz_.1 6 _ rfl; have hf6 : wv5.frozen? ⟨go_, xi.toNat * 7 + 6, none⟩ = false := hz_.2 6; clear hz_) | ((with_reducible refine gate_callee (f := 32) rfl ?_); refine goesL_ (some 60) rfl rfl Try.func32 (by kernel_rfl) rfl #[.slice Ar x.f1.length cr, .int .i64 (wrap64 ((wrap64 ((wrap64 ((wrap64 ((wrap64 (xv + 1)) + 1)) + 1)) + 1)) + 1))] rfl (by (try simp only [List.map_toArray, List.map_cons, List.map_nil]); first | done | rfl) ?_; (with_reducible refine (laws_markKeeperS.calls k (fun k_ => some k_ = ((.slice Ar x.f1.length cr) : Value).ownBlock ∧ oki k_) (.slice Ar x.f1.length cr) x.f1 (wrap64 ((wrap64 ((wrap64 ((wrap64 ((wrap64 (xv + 1)) + 1)) + 1)) + 1)) + 1)) m_ rl_ w0 _ ?side1 ?side2 HC.out).mono ?_); (case side1 => repeat (first | (with_reducible first | exact HB.out | apply below_alloc | apply pw_below_drewN | apply below_drew1) | exact HB.out)); (case side2 => exact Kd.R_tight2 rfl (by (with_reducible repeat (first | apply Kd.R_alloc | apply Kd.R_drewN | apply Kd.R_drew)); exact HR.out)); rintro e wv6 ⟨rfl, hy0, hb, hkp⟩; refine ⟨_, rfl, ?_⟩; have n0_ := Aside0.mk (Kd.H_kept (by (with_reducible repeat (first | apply Kd.H_alloc | apply Kd.H_drewN | apply Kd.H_drew)); exact HH.out) hkp (fun _ _ hn_ hs_ => hn_ hs_.2) : Kd.H k47 47 wv6 w0.heap.size P0_ (.slice (some ⟨go_, 0, none⟩) l0.length c0) (pre ++ x :: l0.drop (xi.toNat + 1)) xi oki [.int .i64 (xv), .int .i64 (wrap64 (xv + 1)), .int .i64 (wrap64 ((wrap64 (xv + 1)) + 1)), .int .i64 (wrap64 ((wrap64 ((wrap64 (xv + 1)) + 1)) + 1)), .int .i64 (wrap64 ((wrap64 ((wrap64 ((wrap64 (xv + 1)) + 1)) + 1)) + 1)), .slice Ar x.f1.length cr, .int .i64 x.f2]); have n1_ := Aside0.mk (hb : Below w0.heap.size w0 wv6); have n2_ := Aside0.mk (Kept.then_ (by repeat (first | (with_reducible first | exact HK.out | apply Kept.alloc | apply Kept.drewN | apply Kept.drew) | exact HK.out)) hkp (fun k_ hs_ => .inl (HKI.out k_ hs_.2).1) : Kept w wv6 (fun k_ => P0_ k_)); have n3_ := Aside0.mk (Kd.R_reok rfl hy0 (fun k_ e_ => HR.out.1 k_ e_) : Kd.R k44 44 wv6 w0.heap.size oki (.slice Ar x.f1.length cr) rl_); clear HH HB HK HR hy0 hb hkp hx0 hf0 hx1 hf1 hx2 hf2 hx3 hf3 hx4 hf4 hx5 hf5 hx6 hf6; have HH := n0_; have HB := n1_; have HK := n2_; have HR := n3_; clear n0_ n1_ n2_ n3_; have hz_ := Kd.H_at HH.out HP.out.1 HP.out.2; have hx0 : wv6.cell? ⟨go_, xi.toNat * 7, none⟩ = some (.int .i64 (xv)) := hz_.1 0 _ rfl; have hf0 : wv6.frozen? ⟨go_, xi.toNat * 7, none⟩ = false := hz_.2 0; have hx1 : wv6.cell? ⟨go_, xi.toNat * 7 + 1, none⟩ = some (.int .i64 (wrap64 (xv + 1))) := hz_.1 1 _ rfl; have hf1 : wv6.frozen? ⟨go_, xi.toNat * 7 + 1, none⟩ = false := hz_.2 1; have hx2 : wv6.cell? ⟨go_, xi.toNat * 7 + 2, none⟩ = some (.int .i64 (wrap64 ((wrap64 (xv + 1)) + 1))) := hz_.1 2 _ rfl; have hf2 : wv6.frozen? ⟨go_, xi.toNat * 7 + 2, none⟩ = false := hz_.2 2; have hx3 : wv6.cell? ⟨go_, xi.toNat * 7 + 3, none⟩ = some (.int .i64 (wrap64 ((wrap64 ((wrap64 (xv + 1)) + 1)) + 1))) := hz_.1 3 _ rfl; have hf3 : wv6.frozen? ⟨go_, xi.toNat * 7 + 3, none⟩ = false := hz_.2 3; have hx4 : wv6.cell? ⟨go_, xi.toNat * 7 + 4, none⟩ = some (.int .i64 (wrap64 ((wrap64 ((wrap64 ((wrap64 (xv + 1)) + 1)) + 1)) + 1))) := hz_.1 4 _ rfl; have hf4 : wv6.frozen? ⟨go_, xi.toNat * 7 + 4, none⟩ = false := hz_.2 4; have hx5 : wv6.cell? ⟨go_, xi.toNat * 7 + 5, none⟩ = some (.slice Ar x.f1.length cr) := hz_.1 5 _ rfl; have hf5 : wv6.frozen? ⟨go_, xi.toNat * 7 + 5, none⟩ = false := hz_.2 5; have hx6 : wv6.cell? ⟨go_, xi.toNat * 7 + 6, none⟩ = some (.int .i64 x.f2) := hz_.1 6 _ rfl; have hf6 : wv6.frozen? ⟨go_, xi.toNat * 7 + 6, none⟩ = false := hz_.2 6; clear hz_) | ((with_reducible refine gate_store (t := 3) (p := 65) rfl ?_); refine store_event (t := 3) (p := 65) (v := ?vo_wv7) (w1 := (wv6.setCell ⟨go_, xi.toNat * 7 + 6, none⟩ (.int .i64 (m_)))) ?hg ?ho ?hn ?hr ?_; (case ho => rfl); (case hg => rfl); (case hn => rfl); (case hr => first | (go_simp; done) | (go_simp; rfl)); intro wv7 hw; have n0_ := Aside0.mk (by rw [hw]; exact nk_set HH.out HP.out.1 HP.out.2 6 _ rfl (by decide) rfl _ rfl : Kd.H k47 47 wv7 w0.heap.size P0_ (.slice (some ⟨go_, 0, none⟩) l0.length c0) (pre ++ x :: l0.drop (xi.toNat + 1)) xi oki [.int .i64 (xv), .int .i64 (wrap64 (xv + 1)), .int .i64 (wrap64 ((wrap64 (xv + 1)) + 1)), .int .i64 (wrap64 ((wrap64 ((wrap64 (xv + 1)) + 1)) + 1)), .int .i64 (wrap64 ((wrap64 ((wrap64 ((wrap64 (xv + 1)) + 1)) + 1)) + 1)), .slice Ar x.f1.length cr, .int .i64 (m_)]); have n1_ := Aside0.mk (by rw [hw]; exact below_set HB.out HGB.out : Below w0.heap.size w0 wv7); have n2_ := Aside0.mk (by rw [hw]; exact Kept.setCell HK.out (.inl HGO.out) _ : Kept w wv7 (fun k_ => P0_ k_)); have n3_ := Aside0.mk (by rw [hw]; exact Kd.R_far (p := ⟨go_, xi.toNat * 7 + 6, none⟩) HR.out (fun k_ hk_ => (HKI.out k_ hk_).2) _ : Kd.R k44 44 wv7 w0.heap.size oki (.slice Ar x.f1.length cr) rl_); clear hw HH HB HK HR hx0 hf0 hx1 hf1 hx2 hf2 hx3 hf3 hx4 hf4 hx5 hf5 hx6 hf6; have HH := n0_; have HB := n1_; have HK := n2_; have HR := n3_; clear n0_ n1_ n2_ n3_; have hz_ := Kd.H_at HH.out HP.out.1 HP.out.2; have hx0 : wv7.cell? ⟨go_, xi.toNat * 7, none⟩ = some (.int .i64 (xv)) := hz_.1 0 _ rfl; have hf0 : wv7.frozen? ⟨go_, xi.toNat * 7, none⟩ = false := hz_.2 0; have hx1 : wv7.cell? ⟨go_, xi.toNat * 7 + 1, none⟩ = some (.int .i64 (wrap64 (xv + 1))) := hz_.1 1 _ rfl; have hf1 : wv7.frozen? ⟨go_, xi.toNat * 7 + 1, none⟩ = false := hz_.2 1; have hx2 : wv7.cell? ⟨go_, xi.toNat * 7 + 2, none⟩ = some (.int .i64 (wrap64 ((wrap64 (xv + 1)) + 1))) := hz_.1 2 _ rfl; have hf2 : wv7.frozen? ⟨go_, xi.toNat * 7 + 2, none⟩ = false := hz_.2 2; have hx3 : wv7.cell? ⟨go_, xi.toNat * 7 + 3, none⟩ = some (.int .i64 (wrap64 ((wrap64 ((wrap64 (xv + 1)) + 1)) + 1))) := hz_.1 3 _ rfl; have hf3 : wv7.frozen? ⟨go_, xi.toNat * 7 + 3, none⟩ = false := hz_.2 3; have hx4 : wv7.cell? ⟨go_, xi.toNat * 7 + 4, none⟩ = some (.int .i64 (wrap64 ((wrap64 ((wrap64 ((wrap64 (xv + 1)) + 1)) + 1)) + 1))) := hz_.1 4 _ rfl; have hf4 : wv7.frozen? ⟨go_, xi.toNat * 7 + 4, none⟩ = false := hz_.2 4; have hx5 : wv7.cell? ⟨go_, xi.toNat * 7 + 5, none⟩ = some (.slice Ar x.f1.length cr) := hz_.1 5 _ rfl; have hf5 : wv7.frozen? ⟨go_, xi.toNat * 7 + 5, none⟩ = false := hz_.2 5; have hx6 : wv7.cell? ⟨go_, xi.toNat * 7 + 6, none⟩ = some (.int .i64 (m_)) := hz_.1 6 _ rfl; have hf6 : wv7.frozen? ⟨go_, xi.toNat * 7 + 6, none⟩ = false := hz_.2 6; clear hz_))
        go_roundg k1
        case measure => omega
        case rel =>
          have hn1 : (xi + 1).toNat = xi.toNat + 1 := by have := HP.out.1; omega
          refine ⟨pre ++ [(⟨(⟨(⟨xv, wrap64 (xv + 1)⟩ : S42), wrap64 ((wrap64 (xv + 1)) + 1), wrap64 ((wrap64 ((wrap64 (xv + 1)) + 1)) + 1), wrap64 ((wrap64 ((wrap64 ((wrap64 (xv + 1)) + 1)) + 1)) + 1)⟩ : S44), rl_, m_⟩ : S47)], wrap64 (m_ + 1), xi + 1, rfl, (by congr 1; (unfold wrap64; have := HN.out; have := HL.out; omega)), ⟨by have := HN.out; have := HP.out; refine ⟨?_, ?_, ?_, ?_⟩ <;> (try simp only [List.length_append, List.length_cons, List.length_nil]) <;> omega⟩, ⟨post2, by rw [hn1]; exact HD.out, by rw [HE.out, List.append_assoc]; rfl⟩, ⟨?_⟩, ⟨by repeat (first | (with_reducible first | exact HK.out | apply Kept.alloc | apply Kept.drewN | apply Kept.drew) | exact HK.out)⟩, ⟨by repeat (first | (with_reducible first | exact HB.out | apply below_alloc | apply pw_below_drewN | apply below_drew1) | exact HB.out)⟩⟩
          rw [hn1]
          (with_reducible repeat (first | apply Kd.S_alloc | apply Kd.S_drewN | apply Kd.S_drew))
          exact nk_back HH.out HN.out.2.2.2 (k47_mkM _ _ _ (⟨(⟨(⟨xv, wrap64 (xv + 1)⟩ : S42), wrap64 ((wrap64 (xv + 1)) + 1), wrap64 ((wrap64 ((wrap64 (xv + 1)) + 1)) + 1), wrap64 ((wrap64 ((wrap64 ((wrap64 (xv + 1)) + 1)) + 1)) + 1)⟩ : S44), rl_, m_⟩ : S47) HR.out)
    · have hdec : decide (xi < (l0.length : Int)) = false := decide_eq_false hi
      obtain ⟨post, H, hr⟩ := HA.out
      have HO1 := HO.out
      rw [List.drop_eq_nil_of_le (by omega)] at H HO1
      obtain ⟨rfl, rfl⟩ := Prod.mk.inj (Option.some.inj H)
      rw [List.append_nil] at HO1 hr
      subst hr
      have HS := Aside0.mk HO1
      clear H HO1 HA HO hi
      go_wp2
      go_ret
      exact ⟨rfl, by (with_reducible repeat (first | apply Kd.S_alloc | apply Kd.S_drewN | apply Kd.S_drew)); exact HS.out, by repeat (first | (with_reducible first | exact HB.out | apply below_alloc | apply pw_below_drewN | apply below_drew1) | exact HB.out), by repeat (first | (with_reducible first | exact HK.out | apply Kept.alloc | apply Kept.drewN | apply Kept.drew) | exact HK.out)⟩

/-! ### laws_heldKeeperS: function 33 -/
def laws_heldKeeperS.l0 : Nat → List (S44) → Int → Int → Option (Int)
  | 0, _, _, _ => none
  | k + 1, x0, x1, x5 => if x5 < (x0.length : Int) then (if 0 ≤ x5 then (if ((rd_T44 x0 x5).f0.f0) = x1 then (if ((rd_T44 x0 x5).f0.f1) = (wrap64 (x1 + 1)) then (if ((rd_T44 x0 x5).f1) = (wrap64 ((wrap64 (x1 + 1)) + 1)) then (if ((rd_T44 x0 x5).f2) = (wrap64 ((wrap64 ((wrap64 (x1 + 1)) + 1)) + 1)) then (if ((rd_T44 x0 x5).f3) = (wrap64 ((wrap64 ((wrap64 ((wrap64 (x1 + 1)) + 1)) + 1)) + 1)) then (laws_heldKeeperS.l0 k x0 (wrap64 ((wrap64 ((wrap64 ((wrap64 ((wrap64 (x1 + 1)) + 1)) + 1)) + 1)) + 1)) (wrap64 (x5 + 1))) else (some (-1))) else (some (-1))) else (some (-1))) else (some (-1))) else (some (-1))) else (none)) else (some x1)
def laws_heldKeeperS.f (k : Nat) (l0 : List (S44)) (a1 : Int) : Option (Int) := laws_heldKeeperS.l0 k l0 a1 0
theorem laws_heldKeeperS.mono_l : ∀ k, (∀ y0 y1 y2, LeO (laws_heldKeeperS.l0 k y0 y1 y2) (laws_heldKeeperS.l0 (k + 1) y0 y1 y2))
  | 0 => fun _ _ _ r h => by simp [laws_heldKeeperS.l0] at h
  | k + 1 => by
    have ih0 := laws_heldKeeperS.mono_l k
    · intro y0 y1 y2
      unfold laws_heldKeeperS.l0
      repeat' first
      | (with_reducible exact ih0 _ _ _)
      | (with_reducible exact LeO.refl _)
      | (with_reducible exact LeO.none _)
      | (with_reducible refine LeO.ite ?_ ?_)
      | (with_reducible refine LeO.bind ?_ (fun _ => ?_))
      | exact ih0 _ _ _
      | exact LeO.none _
      | refine LeO.ite ?_ ?_
      | refine LeO.bind ?_ (fun _ => ?_)
theorem laws_heldKeeperS.mono : ∀ a0 a1 k, LeO (laws_heldKeeperS.f k a0 a1) (laws_heldKeeperS.f (k + 1) a0 a1) := by
  intro a0 a1 k
  have ih0 := laws_heldKeeperS.mono_l k
  unfold laws_heldKeeperS.f
  repeat' first
      | (with_reducible exact ih0 _ _ _)
      | (with_reducible exact LeO.refl _)
      | (with_reducible exact LeO.none _)
      | (with_reducible refine LeO.ite ?_ ?_)
      | (with_reducible refine LeO.bind ?_ (fun _ => ?_))
      | exact ih0 _ _ _
      | exact LeO.none _
      | refine LeO.ite ?_ ?_
      | refine LeO.bind ?_ (fun _ => ?_)
set_option maxHeartbeats 8000000 in
set_option maxRecDepth 100000 in
theorem laws_heldKeeperS.calls (k : Nat) (A0 : Option Addr) (c0 : Nat) (l0 : List (S44)) (a1 : Int) (r : Int) (w : World) (hr0 : Kd.C k44 w A0 l0.length l0) (hc0 : l0.length ≤ c0) (h : laws_heldKeeperS.f k l0 a1 = some r) :
    Calls Try.prog 33 #[.slice A0 l0.length c0, .int .i64 a1] w fun e w' => e = .returned (.int .i64 r) ∧ Drawn0 w w' := by
  have HR0 := Aside0.mk hr0
  have HC0 := Aside0.mk hc0
  clear hr0 hc0
  have H : (laws_heldKeeperS.l0 k l0 a1 0) = some r := h
  clear h
  have H' := Aside0.mk H
  clear H
  go_enter Try.func33, Try.ntmps33
  go_wp2
  go_loopg [1, 5] k (fun kq v1 v5 w' => ∃ (x1_1 : Int) (x5_1 : Int), v1 = .int .i64 x1_1 ∧ v5 = .int .i64 x5_1 ∧ Aside0 (laws_heldKeeperS.l0 kq l0 x1_1 x5_1 = some r) ∧ Aside0 (kq ≤ k) ∧ Drawn0 w w')
  case atStart => exact ⟨(a1), (0), (by first | rfl | (simp; done) | (simp [*]; done)), (by first | rfl | (simp; done) | (simp [*]; done)), H', ⟨Nat.le_refl _⟩, by repeat (first | exact Drawn0.refl _ | apply Drawn0.step)⟩
  case round =>
    clear H'
    try clear p2
    obtain ⟨x1_1, x5_1, rfl, rfl, HA, HK1, ⟨m1, rfl⟩⟩ := hrel
    cases gk with
    | zero => exact absurd HA.out (by simp [laws_heldKeeperS.l0])
    | succ k1 =>
      have H := HA.out
      clear HA
      simp only [laws_heldKeeperS.l0] at H
      by_cases c3 : x5_1 < (l0.length : Int)
      · rw [if_pos c3] at H
        have c3b0 : decide (x5_1 < (l0.length : Int)) = true := decide_eq_true c3
        clear c3
        by_cases c4 : 0 ≤ x5_1
        · rw [if_pos c4] at H
          have c4b0 : decide (0 ≤ x5_1) = true := decide_eq_true c4
          clear c4
          by_cases c5 : ((rd_T44 l0 x5_1).f0.f0) = x1_1
          · rw [if_pos c5] at H
            have c5b0 : (((rd_T44 l0 x5_1).f0.f0) == x1_1) = true := beq_iff_eq.mpr c5
            have c5b1 : (((rd_T44 l0 x5_1).f0.f0) != x1_1) = false := bne_eq_false_iff_eq.mpr c5
            clear c5
            by_cases c6 : ((rd_T44 l0 x5_1).f0.f1) = (wrap64 (x1_1 + 1))
            · rw [if_pos c6] at H
              have c6b0 : (((rd_T44 l0 x5_1).f0.f1) == (wrap64 (x1_1 + 1))) = true := beq_iff_eq.mpr c6
              have c6b1 : (((rd_T44 l0 x5_1).f0.f1) != (wrap64 (x1_1 + 1))) = false := bne_eq_false_iff_eq.mpr c6
              clear c6
              by_cases c7 : ((rd_T44 l0 x5_1).f1) = (wrap64 ((wrap64 (x1_1 + 1)) + 1))
              · rw [if_pos c7] at H
                have c7b0 : (((rd_T44 l0 x5_1).f1) == (wrap64 ((wrap64 (x1_1 + 1)) + 1))) = true := beq_iff_eq.mpr c7
                have c7b1 : (((rd_T44 l0 x5_1).f1) != (wrap64 ((wrap64 (x1_1 + 1)) + 1))) = false := bne_eq_false_iff_eq.mpr c7
                clear c7
                by_cases c8 : ((rd_T44 l0 x5_1).f2) = (wrap64 ((wrap64 ((wrap64 (x1_1 + 1)) + 1)) + 1))
                · rw [if_pos c8] at H
                  have c8b0 : (((rd_T44 l0 x5_1).f2) == (wrap64 ((wrap64 ((wrap64 (x1_1 + 1)) + 1)) + 1))) = true := beq_iff_eq.mpr c8
                  have c8b1 : (((rd_T44 l0 x5_1).f2) != (wrap64 ((wrap64 ((wrap64 (x1_1 + 1)) + 1)) + 1))) = false := bne_eq_false_iff_eq.mpr c8
                  clear c8
                  by_cases c9 : ((rd_T44 l0 x5_1).f3) = (wrap64 ((wrap64 ((wrap64 ((wrap64 (x1_1 + 1)) + 1)) + 1)) + 1))
                  · rw [if_pos c9] at H
                    have c9b0 : (((rd_T44 l0 x5_1).f3) == (wrap64 ((wrap64 ((wrap64 ((wrap64 (x1_1 + 1)) + 1)) + 1)) + 1))) = true := beq_iff_eq.mpr c9
                    have c9b1 : (((rd_T44 l0 x5_1).f3) != (wrap64 ((wrap64 ((wrap64 ((wrap64 (x1_1 + 1)) + 1)) + 1)) + 1))) = false := bne_eq_false_iff_eq.mpr c9
                    clear c9
                    have H' := Aside0.mk H
                    clear H
                    have p336 : 0 ≤ (x5_1 : Int) := of_decide_eq_true (by first | (with_reducible assumption) | assumption)
                    have q336 : x5_1 < (l0.length : Int) := of_decide_eq_true (by first | (with_reducible assumption) | assumption)
                    obtain ⟨ad336, e336, hx336_0, hx336_1, hx336_2, hx336_3, hx336_4⟩ := at_T44 HR0.out x5_1 p336 q336
                    cases e336
                    replace p336 := eq_true p336
                    replace q336 := eq_true q336
                    have p337 : 0 ≤ (x5_1 : Int) := of_decide_eq_true (by first | (with_reducible assumption) | assumption)
                    have q337 : x5_1 < (l0.length : Int) := of_decide_eq_true (by first | (with_reducible assumption) | assumption)
                    obtain ⟨ad337, e337, hx337_0, hx337_1, hx337_2, hx337_3, hx337_4⟩ := at_T44 HR0.out x5_1 p337 q337
                    obtain rfl : ad336 = ad337 := (by injection e337)
                    replace p337 := eq_true p337
                    replace q337 := eq_true q337
                    have p338 : 0 ≤ (x5_1 : Int) := of_decide_eq_true (by first | (with_reducible assumption) | assumption)
                    have q338 : x5_1 < (l0.length : Int) := of_decide_eq_true (by first | (with_reducible assumption) | assumption)
                    obtain ⟨ad338, e338, hx338_0, hx338_1, hx338_2, hx338_3, hx338_4⟩ := at_T44 HR0.out x5_1 p338 q338
                    obtain rfl : ad336 = ad338 := (by injection e338)
                    replace p338 := eq_true p338
                    replace q338 := eq_true q338
                    have p339 : 0 ≤ (x5_1 : Int) := of_decide_eq_true (by first | (with_reducible assumption) | assumption)
                    have q339 : x5_1 < (l0.length : Int) := of_decide_eq_true (by first | (with_reducible assumption) | assumption)
                    obtain ⟨ad339, e339, hx339_0, hx339_1, hx339_2, hx339_3, hx339_4⟩ := at_T44 HR0.out x5_1 p339 q339
                    obtain rfl : ad336 = ad339 := (by injection e339)
                    replace p339 := eq_true p339
                    replace q339 := eq_true q339
                    have p340 : 0 ≤ (x5_1 : Int) := of_decide_eq_true (by first | (with_reducible assumption) | assumption)
                    have q340 : x5_1 < (l0.length : Int) := of_decide_eq_true (by first | (with_reducible assumption) | assumption)
                    obtain ⟨ad340, e340, hx340_0, hx340_1, hx340_2, hx340_3, hx340_4⟩ := at_T44 HR0.out x5_1 p340 q340
                    obtain rfl : ad336 = ad340 := (by injection e340)
                    replace p340 := eq_true p340
                    replace q340 := eq_true q340
                    go_wp2
                    go_roundg k1
                    case measure => have := HK1.out; omega
                    case rel => exact ⟨(wrap64 ((wrap64 ((wrap64 ((wrap64 ((wrap64 (x1_1 + 1)) + 1)) + 1)) + 1)) + 1)), (wrap64 (x5_1 + 1)), (by first | rfl | (simp; done) | (simp [*]; done)), (by first | rfl | (simp; done) | (simp [*]; done)), H', ⟨by have := HK1.out; omega⟩, by repeat (first | exact Drawn0.refl _ | apply Drawn0.step)⟩
                  · rw [if_neg c9] at H
                    have c9b0 : (((rd_T44 l0 x5_1).f3) == (wrap64 ((wrap64 ((wrap64 ((wrap64 (x1_1 + 1)) + 1)) + 1)) + 1))) = false := beq_eq_false_iff_ne.mpr c9
                    have c9b1 : (((rd_T44 l0 x5_1).f3) != (wrap64 ((wrap64 ((wrap64 ((wrap64 (x1_1 + 1)) + 1)) + 1)) + 1))) = true := bne_iff_ne.mpr c9
                    obtain rfl := Option.some.inj H
                    have p336 : 0 ≤ (x5_1 : Int) := of_decide_eq_true (by first | (with_reducible assumption) | assumption)
                    have q336 : x5_1 < (l0.length : Int) := of_decide_eq_true (by first | (with_reducible assumption) | assumption)
                    obtain ⟨ad336, e336, hx336_0, hx336_1, hx336_2, hx336_3, hx336_4⟩ := at_T44 HR0.out x5_1 p336 q336
                    cases e336
                    replace p336 := eq_true p336
                    replace q336 := eq_true q336
                    have p337 : 0 ≤ (x5_1 : Int) := of_decide_eq_true (by first | (with_reducible assumption) | assumption)
                    have q337 : x5_1 < (l0.length : Int) := of_decide_eq_true (by first | (with_reducible assumption) | assumption)
                    obtain ⟨ad337, e337, hx337_0, hx337_1, hx337_2, hx337_3, hx337_4⟩ := at_T44 HR0.out x5_1 p337 q337
                    obtain rfl : ad336 = ad337 := (by injection e337)
                    replace p337 := eq_true p337
                    replace q337 := eq_true q337
                    have p338 : 0 ≤ (x5_1 : Int) := of_decide_eq_true (by first | (with_reducible assumption) | assumption)
                    have q338 : x5_1 < (l0.length : Int) := of_decide_eq_true (by first | (with_reducible assumption) | assumption)
                    obtain ⟨ad338, e338, hx338_0, hx338_1, hx338_2, hx338_3, hx338_4⟩ := at_T44 HR0.out x5_1 p338 q338
                    obtain rfl : ad336 = ad338 := (by injection e338)
                    replace p338 := eq_true p338
                    replace q338 := eq_true q338
                    have p339 : 0 ≤ (x5_1 : Int) := of_decide_eq_true (by first | (with_reducible assumption) | assumption)
                    have q339 : x5_1 < (l0.length : Int) := of_decide_eq_true (by first | (with_reducible assumption) | assumption)
                    obtain ⟨ad339, e339, hx339_0, hx339_1, hx339_2, hx339_3, hx339_4⟩ := at_T44 HR0.out x5_1 p339 q339
                    obtain rfl : ad336 = ad339 := (by injection e339)
                    replace p339 := eq_true p339
                    replace q339 := eq_true q339
                    have p340 : 0 ≤ (x5_1 : Int) := of_decide_eq_true (by first | (with_reducible assumption) | assumption)
                    have q340 : x5_1 < (l0.length : Int) := of_decide_eq_true (by first | (with_reducible assumption) | assumption)
                    obtain ⟨ad340, e340, hx340_0, hx340_1, hx340_2, hx340_3, hx340_4⟩ := at_T44 HR0.out x5_1 p340 q340
                    obtain rfl : ad336 = ad340 := (by injection e340)
                    replace p340 := eq_true p340
                    replace q340 := eq_true q340
                    go_wp2
                    go_ret
                    exact ⟨by first | rfl | (simp; done) | (simp [*]; done), by repeat (first | exact Drawn0.refl _ | apply Drawn0.step)⟩
                · rw [if_neg c8] at H
                  have c8b0 : (((rd_T44 l0 x5_1).f2) == (wrap64 ((wrap64 ((wrap64 (x1_1 + 1)) + 1)) + 1))) = false := beq_eq_false_iff_ne.mpr c8
                  have c8b1 : (((rd_T44 l0 x5_1).f2) != (wrap64 ((wrap64 ((wrap64 (x1_1 + 1)) + 1)) + 1))) = true := bne_iff_ne.mpr c8
                  obtain rfl := Option.some.inj H
                  have p336 : 0 ≤ (x5_1 : Int) := of_decide_eq_true (by first | (with_reducible assumption) | assumption)
                  have q336 : x5_1 < (l0.length : Int) := of_decide_eq_true (by first | (with_reducible assumption) | assumption)
                  obtain ⟨ad336, e336, hx336_0, hx336_1, hx336_2, hx336_3, hx336_4⟩ := at_T44 HR0.out x5_1 p336 q336
                  cases e336
                  replace p336 := eq_true p336
                  replace q336 := eq_true q336
                  have p337 : 0 ≤ (x5_1 : Int) := of_decide_eq_true (by first | (with_reducible assumption) | assumption)
                  have q337 : x5_1 < (l0.length : Int) := of_decide_eq_true (by first | (with_reducible assumption) | assumption)
                  obtain ⟨ad337, e337, hx337_0, hx337_1, hx337_2, hx337_3, hx337_4⟩ := at_T44 HR0.out x5_1 p337 q337
                  obtain rfl : ad336 = ad337 := (by injection e337)
                  replace p337 := eq_true p337
                  replace q337 := eq_true q337
                  have p338 : 0 ≤ (x5_1 : Int) := of_decide_eq_true (by first | (with_reducible assumption) | assumption)
                  have q338 : x5_1 < (l0.length : Int) := of_decide_eq_true (by first | (with_reducible assumption) | assumption)
                  obtain ⟨ad338, e338, hx338_0, hx338_1, hx338_2, hx338_3, hx338_4⟩ := at_T44 HR0.out x5_1 p338 q338
                  obtain rfl : ad336 = ad338 := (by injection e338)
                  replace p338 := eq_true p338
                  replace q338 := eq_true q338
                  have p339 : 0 ≤ (x5_1 : Int) := of_decide_eq_true (by first | (with_reducible assumption) | assumption)
                  have q339 : x5_1 < (l0.length : Int) := of_decide_eq_true (by first | (with_reducible assumption) | assumption)
                  obtain ⟨ad339, e339, hx339_0, hx339_1, hx339_2, hx339_3, hx339_4⟩ := at_T44 HR0.out x5_1 p339 q339
                  obtain rfl : ad336 = ad339 := (by injection e339)
                  replace p339 := eq_true p339
                  replace q339 := eq_true q339
                  go_wp2
                  go_ret
                  exact ⟨by first | rfl | (simp; done) | (simp [*]; done), by repeat (first | exact Drawn0.refl _ | apply Drawn0.step)⟩
              · rw [if_neg c7] at H
                have c7b0 : (((rd_T44 l0 x5_1).f1) == (wrap64 ((wrap64 (x1_1 + 1)) + 1))) = false := beq_eq_false_iff_ne.mpr c7
                have c7b1 : (((rd_T44 l0 x5_1).f1) != (wrap64 ((wrap64 (x1_1 + 1)) + 1))) = true := bne_iff_ne.mpr c7
                obtain rfl := Option.some.inj H
                have p336 : 0 ≤ (x5_1 : Int) := of_decide_eq_true (by first | (with_reducible assumption) | assumption)
                have q336 : x5_1 < (l0.length : Int) := of_decide_eq_true (by first | (with_reducible assumption) | assumption)
                obtain ⟨ad336, e336, hx336_0, hx336_1, hx336_2, hx336_3, hx336_4⟩ := at_T44 HR0.out x5_1 p336 q336
                cases e336
                replace p336 := eq_true p336
                replace q336 := eq_true q336
                have p337 : 0 ≤ (x5_1 : Int) := of_decide_eq_true (by first | (with_reducible assumption) | assumption)
                have q337 : x5_1 < (l0.length : Int) := of_decide_eq_true (by first | (with_reducible assumption) | assumption)
                obtain ⟨ad337, e337, hx337_0, hx337_1, hx337_2, hx337_3, hx337_4⟩ := at_T44 HR0.out x5_1 p337 q337
                obtain rfl : ad336 = ad337 := (by injection e337)
                replace p337 := eq_true p337
                replace q337 := eq_true q337
                have p338 : 0 ≤ (x5_1 : Int) := of_decide_eq_true (by first | (with_reducible assumption) | assumption)
                have q338 : x5_1 < (l0.length : Int) := of_decide_eq_true (by first | (with_reducible assumption) | assumption)
                obtain ⟨ad338, e338, hx338_0, hx338_1, hx338_2, hx338_3, hx338_4⟩ := at_T44 HR0.out x5_1 p338 q338
                obtain rfl : ad336 = ad338 := (by injection e338)
                replace p338 := eq_true p338
                replace q338 := eq_true q338
                go_wp2
                go_ret
                exact ⟨by first | rfl | (simp; done) | (simp [*]; done), by repeat (first | exact Drawn0.refl _ | apply Drawn0.step)⟩
            · rw [if_neg c6] at H
              have c6b0 : (((rd_T44 l0 x5_1).f0.f1) == (wrap64 (x1_1 + 1))) = false := beq_eq_false_iff_ne.mpr c6
              have c6b1 : (((rd_T44 l0 x5_1).f0.f1) != (wrap64 (x1_1 + 1))) = true := bne_iff_ne.mpr c6
              obtain rfl := Option.some.inj H
              have p336 : 0 ≤ (x5_1 : Int) := of_decide_eq_true (by first | (with_reducible assumption) | assumption)
              have q336 : x5_1 < (l0.length : Int) := of_decide_eq_true (by first | (with_reducible assumption) | assumption)
              obtain ⟨ad336, e336, hx336_0, hx336_1, hx336_2, hx336_3, hx336_4⟩ := at_T44 HR0.out x5_1 p336 q336
              cases e336
              replace p336 := eq_true p336
              replace q336 := eq_true q336
              have p337 : 0 ≤ (x5_1 : Int) := of_decide_eq_true (by first | (with_reducible assumption) | assumption)
              have q337 : x5_1 < (l0.length : Int) := of_decide_eq_true (by first | (with_reducible assumption) | assumption)
              obtain ⟨ad337, e337, hx337_0, hx337_1, hx337_2, hx337_3, hx337_4⟩ := at_T44 HR0.out x5_1 p337 q337
              obtain rfl : ad336 = ad337 := (by injection e337)
              replace p337 := eq_true p337
              replace q337 := eq_true q337
              go_wp2
              go_ret
              exact ⟨by first | rfl | (simp; done) | (simp [*]; done), by repeat (first | exact Drawn0.refl _ | apply Drawn0.step)⟩
          · rw [if_neg c5] at H
            have c5b0 : (((rd_T44 l0 x5_1).f0.f0) == x1_1) = false := beq_eq_false_iff_ne.mpr c5
            have c5b1 : (((rd_T44 l0 x5_1).f0.f0) != x1_1) = true := bne_iff_ne.mpr c5
            obtain rfl := Option.some.inj H
            have p336 : 0 ≤ (x5_1 : Int) := of_decide_eq_true (by first | (with_reducible assumption) | assumption)
            have q336 : x5_1 < (l0.length : Int) := of_decide_eq_true (by first | (with_reducible assumption) | assumption)
            obtain ⟨ad336, e336, hx336_0, hx336_1, hx336_2, hx336_3, hx336_4⟩ := at_T44 HR0.out x5_1 p336 q336
            cases e336
            replace p336 := eq_true p336
            replace q336 := eq_true q336
            go_wp2
            go_ret
            exact ⟨by first | rfl | (simp; done) | (simp [*]; done), by repeat (first | exact Drawn0.refl _ | apply Drawn0.step)⟩
        · rw [if_neg c4] at H
          exact absurd H (by simp)
      · rw [if_neg c3] at H
        have c3b0 : decide (x5_1 < (l0.length : Int)) = false := decide_eq_false c3
        clear c3
        obtain rfl := Option.some.inj H
        go_wp2
        go_ret
        exact ⟨by first | rfl | (simp; done) | (simp [*]; done), by repeat (first | exact Drawn0.refl _ | apply Drawn0.step)⟩

end Go.Proofs.Ytpgmghghpliapaa.PFnExactMakeVault
