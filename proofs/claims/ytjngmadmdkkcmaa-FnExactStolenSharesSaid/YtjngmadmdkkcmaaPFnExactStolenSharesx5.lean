-- Made by a program of this session, after the kit's print of the translation. Lean checks it.
import Derived.Test.YtjngmadmdkkcmaaPFnExactStolenSharesx0
import Derived.Test.YtjngmadmdkkcmaaPFnExactStolenSharesx1
import Derived.Test.YtjngmadmdkkcmaaPFnExactStolenSharesx2
import Derived.Test.YtjngmadmdkkcmaaPFnExactStolenSharesx4
namespace Go.Proofs.Ytjngmadmdkkcmaa.PFnExactStolenShares
open Go.RowKit Go.Proofs.YtjngmadmdkkcmaaW.PrintWords Go.Proofs.YtjngmadmdkkcmaaW.PrintLast Go.Proofs.YtjngmadmdkkcmaaW.PrintMore
attribute [local go_sem] max2_int min2_int max_two min_two max_three min_three max_four min_four   -- for this text's walks alone
set_option linter.unusedVariables false
set_option linter.unusedSimpArgs false

/-! ### laws_markIntS: function 45 -/
def laws_markIntS.l0 : Nat → List Int → Int → Int → Option (Int × List Int)
  | 0, _, _, _ => none
  | k + 1, x0, x1, x5 => if x5 < (x0.length : Int) then (if 0 ≤ x5 then (laws_markIntS.l0 k (x0.set (x5 : Int).toNat x1) (wrap64 (x1 + 1)) (wrap64 (x5 + 1))) else (none)) else (some (x1, x0))
def laws_markIntS.f (k : Nat) (l0 : List Int) (a1 : Int) : Option (Int × List Int) := laws_markIntS.l0 k l0 a1 0
theorem laws_markIntS.mono_l : ∀ k, (∀ y0 y1 y2, LeO (laws_markIntS.l0 k y0 y1 y2) (laws_markIntS.l0 (k + 1) y0 y1 y2))
  | 0 => fun _ _ _ r h => by simp [laws_markIntS.l0] at h
  | k + 1 => by
    have ih0 := laws_markIntS.mono_l k
    · intro y0 y1 y2
      unfold laws_markIntS.l0
      repeat' first
      | (with_reducible exact ih0 _ _ _)
      | (with_reducible exact LeO.refl _)
      | (with_reducible exact LeO.none _)
      | (with_reducible refine LeO.ite ?_ ?_)
      | (with_reducible refine LeO.bind ?_ (fun _ => ?_))
      | exact ih0 _ _ _
      | exact LeO.none _
      | refine LeO.ite ?_ ?_
      | refine LeO.bind ?_ (fun _ => ?_)
theorem laws_markIntS.mono : ∀ a0 a1 k, LeO (laws_markIntS.f k a0 a1) (laws_markIntS.f (k + 1) a0 a1) := by
  intro a0 a1 k
  have ih0 := laws_markIntS.mono_l k
  unfold laws_markIntS.f
  repeat' first
      | (with_reducible exact ih0 _ _ _)
      | (with_reducible exact LeO.refl _)
      | (with_reducible exact LeO.none _)
      | (with_reducible refine LeO.ite ?_ ?_)
      | (with_reducible refine LeO.bind ?_ (fun _ => ?_))
      | exact ih0 _ _ _
      | exact LeO.none _
      | refine LeO.ite ?_ ?_
      | refine LeO.bind ?_ (fun _ => ?_)
set_option maxHeartbeats 8000000 in
set_option maxRecDepth 100000 in
theorem laws_markIntS.calls (k : Nat) (P0_ : Nat → Prop) (u9000_ : Value) (l0 : List Int) (a1 : Int) (r1 : Int) (r2 : List Int) (w0 w : World) (hB : Below w0.heap.size w0 w) (ho0 : Kd.R (Kd.int .i64) 3 w w0.heap.size P0_ u9000_ l0) (h : laws_markIntS.f k l0 a1 = some (r1, r2)) :
    Calls Try.prog 45 #[u9000_, .int .i64 a1] w fun e w' => e = .returned (.int .i64 r1) ∧ Kd.R (Kd.int .i64) 3 w' w0.heap.size (fun k_ => (P0_ k_ ∨ w.heap.size ≤ k_)) u9000_ r2 ∧ Below w0.heap.size w0 w' ∧ Kept w w' (fun k_ => P0_ k_) := by
  have HO0 := Aside0.mk (show Kd.R (Kd.int .i64) 3 w w0.heap.size (fun k_ => (P0_ k_ ∨ w.heap.size ≤ k_)) u9000_ l0 from Kd.R_mono ho0 (fun k_ hk => (.inl hk)))
  have HK := Aside0.mk (Kept.refl w (fun k_ => P0_ k_))
  have HW0 := Aside0.mk hB.size
  have HB := Aside0.mk hB
  clear hB
  have H : (laws_markIntS.l0 k l0 a1 0) = some (r1, r2) := h
  clear h
  have H' := Aside0.mk H
  clear H
  go_enter Try.func45, Try.ntmps45
  go_wp2
  go_loopg [1, 5] k (fun kq v1 v5 w' => ∃ (x0_1 : List Int) (x1_1 : Int) (x5_1 : Int), v1 = .int .i64 x1_1 ∧ v5 = .int .i64 x5_1 ∧ Aside0 (laws_markIntS.l0 kq x0_1 x1_1 x5_1 = some (r1, r2)) ∧ Aside0 (kq ≤ k) ∧ Aside0 (Kd.R (Kd.int .i64) 3 w' w0.heap.size (fun k_ => (P0_ k_ ∨ w.heap.size ≤ k_)) u9000_ x0_1) ∧ Aside0 (Kept w w' (fun k_ => P0_ k_)) ∧ Aside0 (Below w0.heap.size w0 w'))
  case atStart => exact ⟨(l0), (a1), (0), (by first | rfl | (simp; done) | (simp [*]; done)), (by first | rfl | (simp; done) | (simp [*]; done)), H', ⟨Nat.le_refl _⟩, ⟨by (with_reducible repeat (first | apply Kd.R_alloc | apply Kd.R_drewN | apply Kd.R_drew)); exact HO0.out⟩, ⟨by repeat (first | (with_reducible first | exact HK.out | apply Kept.alloc | apply Kept.drewN | apply Kept.drew) | exact HK.out)⟩, ⟨by repeat (first | (with_reducible first | exact HB.out | apply below_alloc | apply pw_below_drewN | apply below_drew1) | exact HB.out)⟩⟩
  case round =>
    clear H'
    try clear p2
    obtain ⟨x0_1, x1_1, x5_1, rfl, rfl, HA, HK1, HO_0, HK, HB⟩ := hrel
    cases gk with
    | zero => exact absurd HA.out (by simp [laws_markIntS.l0])
    | succ k1 =>
      have H := HA.out
      clear HA
      simp only [laws_markIntS.l0] at H
      by_cases c3 : x5_1 < (x0_1.length : Int)
      · rw [if_pos c3] at H
        have c3b0 : decide (x5_1 < (x0_1.length : Int)) = true := decide_eq_true c3
        clear c3
        by_cases c4 : 0 ≤ x5_1
        · rw [if_pos c4] at H
          have c4b0 : decide (0 ≤ x5_1) = true := decide_eq_true c4
          clear c4
          obtain ⟨y196, hy196⟩ : ∃ y_ : List Int, y_ = (x0_1.set (x5_1 : Int).toNat x1_1) := ⟨_, rfl⟩
          replace H : (laws_markIntS.l0 k1 y196 (wrap64 (x1_1 + 1)) (wrap64 (x5_1 + 1))) = some (r1, r2) := by first | (rw [hy196]; with_reducible exact H) | (have H2_ := (Option.bind_some _ _).symm.trans H; rw [hy196]; with_reducible exact H2_) | (have H2_ := (Option.bind_some _ _).symm.trans H; with_reducible exact H2_) | with_reducible exact H | (rw [hy196]; exact H) | exact H
          have Ny196 := Aside0.mk hy196
          clear hy196
          have H' := Aside0.mk H
          clear H
          obtain ⟨Ao6, co6, eo6⟩ := Kd.R_slice HO_0.out
          subst eo6
          have p5 : 0 ≤ (x5_1 : Int) := of_decide_eq_true (by first | (with_reducible assumption) | assumption)
          have q5 : (x5_1 : Int) < ((x0_1.length : Int) : Int) := of_decide_eq_true (by first | (with_reducible assumption) | assumption)
          obtain ⟨go5, co5, eo5, gb5, gl5, cl5, HG5⟩ := Kd.R_form HO_0.out (by omega)
          (first | cases eo5 | (injection eo5 with ea_ en_ ec_; (first | subst ea_ | (injection ea_ with ea_; subst ea_)); subst ec_; clear en_))
          have GB5 := Aside0.mk gb5
          have GG5 := Aside0.mk HG5
          clear gb5 gl5 HG5
          have HMgo5 := Aside0.mk (show (P0_ go5 ∨ w.heap.size ≤ go5) from (HO_0.out.1 _ rfl))
          obtain ⟨hx5_0, hf5_0⟩ := Kd.R_celln 0 HO_0.out (x5_1 : Int) p5 q5
          replace p5 := eq_true p5
          replace q5 := eq_true q5
          have HP7 := Kd.R_putg HO_0.out (x5_1 : Int) x1_1
          go_wp2_with (first | ((with_reducible refine gate_store (t := 3) (p := 15) rfl ?_); refine store_event (t := 3) (p := 15) (v := ?vo_w8) (w1 := (wr.setCell ⟨go5, (x5_1 : Int).toNat, none⟩ (.int .i64 x1_1))) ?hg ?ho ?hn ?hr ?_; (case ho => rfl); (case hg => rfl); (case hn => rfl); (case hr => first | (go_simp; done) | (go_simp; rfl)); intro w8 hw; have hg : wr.grownBy w8 (some go5) := (by rw [hw]; exact HP7.2); have hp_ : Kd.R (Kd.int .i64) 3 w8 w0.heap.size (fun k_ => (P0_ k_ ∨ w.heap.size ≤ k_)) (.slice (some ⟨go5, 0, none⟩) x0_1.length co6) y196 := (by rw [hw, Ny196.out]; exact HP7.1); clear HP7; have n0_ := Aside0.mk (hp_); have n1_ := Aside0.mk ((by rw [hw]; exact below_set (HB.out) GB5.out : Below w0.heap.size w0 w8)); have n2_ := Aside0.mk (Kept.of_grown (S := (fun k_ => P0_ k_)) hg (by repeat (first | (with_reducible first | exact HK.out | apply Kept.alloc | apply Kept.drewN | apply Kept.drew) | exact HK.out)) (fun k_ e_ => (HO_0.out.1 k_ e_))); clear HO_0; clear HB; clear HK; have HO_0 := n0_; have HB := n1_; have HK := n2_; clear n0_ n1_ n2_; clear hg hw hp_))
          go_roundg k1
          case measure => have := HK1.out; omega
          case rel => exact ⟨(y196), (wrap64 (x1_1 + 1)), (wrap64 (x5_1 + 1)), (by first | rfl | (simp; done) | (simp [*]; done)), (by first | rfl | (simp; done) | (simp [*]; done)), H', ⟨by have := HK1.out; omega⟩, ⟨by (with_reducible repeat (first | apply Kd.R_alloc | apply Kd.R_drewN | apply Kd.R_drew)); exact HO_0.out⟩, ⟨by repeat (first | (with_reducible first | exact HK.out | apply Kept.alloc | apply Kept.drewN | apply Kept.drew) | exact HK.out)⟩, ⟨by repeat (first | (with_reducible first | exact HB.out | apply below_alloc | apply pw_below_drewN | apply below_drew1) | exact HB.out)⟩⟩
        · rw [if_neg c4] at H
          exact absurd H (by simp)
      · rw [if_neg c3] at H
        have c3b0 : decide (x5_1 < (x0_1.length : Int)) = false := decide_eq_false c3
        clear c3
        simp only [Option.some.injEq, Prod.mk.injEq] at H
        obtain ⟨rfl, rfl⟩ := H
        obtain ⟨Ao9, co9, eo9⟩ := Kd.R_slice HO_0.out
        subst eo9
        go_wp2
        go_ret
        exact ⟨by first | rfl | (simp [errW_none, errW_some] <;> rfl) | (simp [*, errW_none, errW_some] <;> rfl), by (with_reducible repeat (first | apply Kd.R_alloc | apply Kd.R_drewN | apply Kd.R_drew)); exact HO_0.out, by repeat (first | (with_reducible first | exact HB.out | apply below_alloc | apply pw_below_drewN | apply below_drew1) | exact HB.out), by repeat (first | (with_reducible first | exact HK.out | apply Kept.alloc | apply Kept.drewN | apply Kept.drew) | exact HK.out)⟩

/-! ### laws_markShareS: function 46 -/
def laws_markShareS.l0 : Nat → List (S26) → Int → Int → Option (Int × (List (S26)))
  | 0, _, _, _ => none
  | k + 1, x0, x1, x5 => if x5 < (x0.length : Int) then (if 0 ≤ x5 then ((some (x0.set (x5 : Int).toNat (⟨x1, (rd_T26 x0 x5).f1⟩ : S26) : List (S26))).bind fun y197 => (laws_markShareS.l0 k (y197.set (x5 : Int).toNat (⟨(rd_T26 y197 x5).f0, wrap64 (x1 + 1)⟩ : S26)) (wrap64 ((wrap64 (x1 + 1)) + 1)) (wrap64 (x5 + 1)))) else (none)) else (some (x1, x0))
def laws_markShareS.f (k : Nat) (l0 : List (S26)) (a1 : Int) : Option (Int × (List (S26))) := laws_markShareS.l0 k l0 a1 0
theorem laws_markShareS.mono_l : ∀ k, (∀ y0 y1 y2, LeO (laws_markShareS.l0 k y0 y1 y2) (laws_markShareS.l0 (k + 1) y0 y1 y2))
  | 0 => fun _ _ _ r h => by simp [laws_markShareS.l0] at h
  | k + 1 => by
    have ih0 := laws_markShareS.mono_l k
    · intro y0 y1 y2
      unfold laws_markShareS.l0
      repeat' first
      | (with_reducible exact ih0 _ _ _)
      | (with_reducible exact LeO.refl _)
      | (with_reducible exact LeO.none _)
      | (with_reducible refine LeO.ite ?_ ?_)
      | (with_reducible refine LeO.bind ?_ (fun _ => ?_))
      | exact ih0 _ _ _
      | exact LeO.none _
      | refine LeO.ite ?_ ?_
      | refine LeO.bind ?_ (fun _ => ?_)
theorem laws_markShareS.mono : ∀ a0 a1 k, LeO (laws_markShareS.f k a0 a1) (laws_markShareS.f (k + 1) a0 a1) := by
  intro a0 a1 k
  have ih0 := laws_markShareS.mono_l k
  unfold laws_markShareS.f
  repeat' first
      | (with_reducible exact ih0 _ _ _)
      | (with_reducible exact LeO.refl _)
      | (with_reducible exact LeO.none _)
      | (with_reducible refine LeO.ite ?_ ?_)
      | (with_reducible refine LeO.bind ?_ (fun _ => ?_))
      | exact ih0 _ _ _
      | exact LeO.none _
      | refine LeO.ite ?_ ?_
      | refine LeO.bind ?_ (fun _ => ?_)
set_option maxHeartbeats 8000000 in
set_option maxRecDepth 100000 in
theorem laws_markShareS.calls (k : Nat) (P0_ : Nat → Prop) (u9000_ : Value) (l0 : List (S26)) (a1 : Int) (r1 : Int) (r2 : List (S26)) (w0 w : World) (hB : Below w0.heap.size w0 w) (ho0 : Kd.R k26 26 w w0.heap.size P0_ u9000_ l0) (h : laws_markShareS.f k l0 a1 = some (r1, r2)) :
    Calls Try.prog 46 #[u9000_, .int .i64 a1] w fun e w' => e = .returned (.int .i64 r1) ∧ Kd.R k26 26 w' w0.heap.size (fun k_ => (P0_ k_ ∨ w.heap.size ≤ k_)) u9000_ r2 ∧ Below w0.heap.size w0 w' ∧ Kept w w' (fun k_ => P0_ k_) := by
  have HO0 := Aside0.mk (show Kd.R k26 26 w w0.heap.size (fun k_ => (P0_ k_ ∨ w.heap.size ≤ k_)) u9000_ l0 from Kd.R_mono ho0 (fun k_ hk => (.inl hk)))
  have HK := Aside0.mk (Kept.refl w (fun k_ => P0_ k_))
  have HW0 := Aside0.mk hB.size
  have HB := Aside0.mk hB
  clear hB
  have H : (laws_markShareS.l0 k l0 a1 0) = some (r1, r2) := h
  clear h
  have H' := Aside0.mk H
  clear H
  go_enter Try.func46, Try.ntmps46
  go_wp2
  go_loopg [1, 5] k (fun kq v1 v5 w' => ∃ (x0_1 : List (S26)) (x1_1 : Int) (x5_1 : Int), v1 = .int .i64 x1_1 ∧ v5 = .int .i64 x5_1 ∧ Aside0 (laws_markShareS.l0 kq x0_1 x1_1 x5_1 = some (r1, r2)) ∧ Aside0 (kq ≤ k) ∧ Aside0 (Kd.R k26 26 w' w0.heap.size (fun k_ => (P0_ k_ ∨ w.heap.size ≤ k_)) u9000_ x0_1) ∧ Aside0 (Kept w w' (fun k_ => P0_ k_)) ∧ Aside0 (Below w0.heap.size w0 w'))
  case atStart => exact ⟨(l0), (a1), (0), (by first | rfl | (simp; done) | (simp [*]; done)), (by first | rfl | (simp; done) | (simp [*]; done)), H', ⟨Nat.le_refl _⟩, ⟨by (with_reducible repeat (first | apply Kd.R_alloc | apply Kd.R_drewN | apply Kd.R_drew)); exact HO0.out⟩, ⟨by repeat (first | (with_reducible first | exact HK.out | apply Kept.alloc | apply Kept.drewN | apply Kept.drew) | exact HK.out)⟩, ⟨by repeat (first | (with_reducible first | exact HB.out | apply below_alloc | apply pw_below_drewN | apply below_drew1) | exact HB.out)⟩⟩
  case round =>
    clear H'
    try clear p2
    obtain ⟨x0_1, x1_1, x5_1, rfl, rfl, HA, HK1, HO_0, HK, HB⟩ := hrel
    cases gk with
    | zero => exact absurd HA.out (by simp [laws_markShareS.l0])
    | succ k1 =>
      have H := HA.out
      clear HA
      simp only [laws_markShareS.l0] at H
      by_cases c3 : x5_1 < (x0_1.length : Int)
      · rw [if_pos c3] at H
        have c3b0 : decide (x5_1 < (x0_1.length : Int)) = true := decide_eq_true c3
        clear c3
        by_cases c4 : 0 ≤ x5_1
        · rw [if_pos c4] at H
          have c4b0 : decide (0 ≤ x5_1) = true := decide_eq_true c4
          clear c4
          obtain ⟨y197, hy197⟩ : ∃ y_ : List (S26), y_ = (x0_1.set (x5_1 : Int).toNat (⟨x1_1, (rd_T26 x0_1 x5_1).f1⟩ : S26)) := ⟨_, rfl⟩
          replace H : (laws_markShareS.l0 k1 (y197.set (x5_1 : Int).toNat (⟨(rd_T26 y197 x5_1).f0, wrap64 (x1_1 + 1)⟩ : S26)) (wrap64 ((wrap64 (x1_1 + 1)) + 1)) (wrap64 (x5_1 + 1))) = some (r1, r2) := by first | (rw [hy197]; with_reducible exact H) | (have H2_ := (Option.bind_some _ _).symm.trans H; rw [hy197]; with_reducible exact H2_) | (have H2_ := (Option.bind_some _ _).symm.trans H; with_reducible exact H2_) | with_reducible exact H | (rw [hy197]; exact H) | exact H
          have Ny197 := Aside0.mk hy197
          clear hy197
          obtain ⟨y198, hy198⟩ : ∃ y_ : List (S26), y_ = (y197.set (x5_1 : Int).toNat (⟨(rd_T26 y197 x5_1).f0, wrap64 (x1_1 + 1)⟩ : S26)) := ⟨_, rfl⟩
          replace H : (laws_markShareS.l0 k1 y198 (wrap64 ((wrap64 (x1_1 + 1)) + 1)) (wrap64 (x5_1 + 1))) = some (r1, r2) := by first | (rw [hy198]; with_reducible exact H) | (have H2_ := (Option.bind_some _ _).symm.trans H; rw [hy198]; with_reducible exact H2_) | (have H2_ := (Option.bind_some _ _).symm.trans H; with_reducible exact H2_) | with_reducible exact H | (rw [hy198]; exact H) | exact H
          have Ny198 := Aside0.mk hy198
          clear hy198
          have H' := Aside0.mk H
          clear H
          obtain ⟨Ao7, co7, eo7⟩ := Kd.R_slice HO_0.out
          subst eo7
          have p5 : 0 ≤ (x5_1 : Int) := of_decide_eq_true (by first | (with_reducible assumption) | assumption)
          have q5 : (x5_1 : Int) < ((x0_1.length : Int) : Int) := of_decide_eq_true (by first | (with_reducible assumption) | assumption)
          obtain ⟨go5, co5, eo5, gb5, gl5, cl5, HG5⟩ := Kd.R_form HO_0.out (by omega)
          (first | cases eo5 | (injection eo5 with ea_ en_ ec_; (first | subst ea_ | (injection ea_ with ea_; subst ea_)); subst ec_; clear en_))
          have GB5 := Aside0.mk gb5
          have GG5 := Aside0.mk HG5
          clear gb5 gl5 HG5
          have HMgo5 := Aside0.mk (show (P0_ go5 ∨ w.heap.size ≤ go5) from (HO_0.out.1 _ rfl))
          obtain ⟨ce5, hcl5, hM5, hcc5, hfr5⟩ := Kd.R_elem HO_0.out z26 (x5_1 : Int) p5 q5
          obtain rfl := k26_openM hM5
          have hx5_0 : wr.cell? ⟨go5, (x5_1 : Int).toNat * 2, none⟩ = some (.int .i64 ((rd_T26 x0_1 x5_1).f0)) := hcc5 0 _ rfl
          have hx5_1 : wr.cell? ⟨go5, (x5_1 : Int).toNat * 2 + 1, none⟩ = some (.int .i64 ((rd_T26 x0_1 x5_1).f1)) := hcc5 1 _ rfl
          have hf5_0 : wr.frozen? ⟨go5, (x5_1 : Int).toNat * 2, none⟩ = false := hfr5 0
          have hf5_1 : wr.frozen? ⟨go5, (x5_1 : Int).toNat * 2 + 1, none⟩ = false := hfr5 1
          clear hcl5 hcc5 hfr5 hM5
          replace p5 := eq_true p5
          replace q5 := eq_true q5
          have HX8 := Aside0.mk (show Kd.R k26 26 wr w0.heap.size (fun k_ => (P0_ k_ ∨ w.heap.size ≤ k_)) (.slice (some ⟨go5, 0, none⟩) x0_1.length co7) x0_1 from (by (with_reducible repeat (first | apply Kd.R_alloc | apply Kd.R_drewN | apply Kd.R_drew)); exact HO_0.out))
          obtain ⟨ce8, hcl8, hM8, hcc8, hfr8⟩ := Kd.R_elem HX8.out z26 (x5_1 : Int) (of_decide_eq_true (by first | (with_reducible assumption) | assumption)) (by have h_ : (x5_1 : Int) < ((x0_1.length : Int) : Int) := of_decide_eq_true (by first | (with_reducible assumption) | assumption); first | exact h_ | (have e_ := (Kd.R_reads' HO_0.out).1; omega) | simpa using h_)
          obtain rfl := k26_openM hM8
          have HP8 := Kd.R_seg HX8.out (x5_1 : Int) (of_decide_eq_true (by first | (with_reducible assumption) | assumption)) (by have h_ : (x5_1 : Int) < ((x0_1.length : Int) : Int) := of_decide_eq_true (by first | (with_reducible assumption) | assumption); first | exact h_ | (have e_ := (Kd.R_reads' HO_0.out).1; omega) | simpa using h_) (seg := [.int .i64 x1_1]) (j := 0) hcl8 hcc8 (show 1 ≤ 2 from by decide) (x' := (⟨x1_1, (rd_T26 x0_1 x5_1).f1⟩ : S26)) (k26_mkM _ _ _ (⟨x1_1, (rd_T26 x0_1 x5_1).f1⟩ : S26) ) (fun _ hk => hk)
          have hx8_0 := hcc8 0 _ rfl
          (try simp only [show (k26).sz = 2 from rfl, Nat.mul_one, Nat.add_zero] at hx8_0)
          have hf8_0 := hfr8 0
          (try simp only [show (k26).sz = 2 from rfl, Nat.mul_one, Nat.add_zero] at hf8_0)
          clear hcl8 hcc8 hfr8 hM8
          go_wp2_with (first | ((with_reducible refine gate_store (t := 3) (p := 16) rfl ?_); refine store_event (t := 3) (p := 16) (v := ?vo_w9) (w1 := (wr.setCell ⟨go5, (x5_1 : Int).toNat * 2, none⟩ (.int .i64 x1_1))) ?hg ?ho ?hn ?hr ?_; (case ho => rfl); (case hg => rfl); (case hn => rfl); (case hr => first | (go_simp; done) | (go_simp; rfl)); intro w9 hw; have hg : wr.grownBy w9 (some go5) := (by rw [hw]; exact HP8.2); have hp_ : Kd.R k26 26 w9 w0.heap.size (fun k_ => (P0_ k_ ∨ w.heap.size ≤ k_)) (.slice (some ⟨go5, 0, none⟩) x0_1.length co7) y197 := (by rw [hw, Ny197.out]; exact HP8.1); clear HP8; have n0_ := Aside0.mk (hp_); have n1_ := Aside0.mk ((by rw [hw]; exact below_set (HB.out) GB5.out : Below w0.heap.size w0 w9)); have n2_ := Aside0.mk (Kept.of_grown (S := (fun k_ => P0_ k_)) hg (by repeat (first | (with_reducible first | exact HK.out | apply Kept.alloc | apply Kept.drewN | apply Kept.drew) | exact HK.out)) (fun k_ e_ => (HO_0.out.1 k_ e_))); clear HO_0; clear HB; clear HK; have HO_0 := n0_; have HB := n1_; have HK := n2_; clear n0_ n1_ n2_; clear hg hw hp_; have p6 : 0 ≤ (x5_1 : Int) := of_decide_eq_true (by first | (with_reducible assumption) | assumption); have q6 : (x5_1 : Int) < ((x0_1.length : Int) : Int) := of_decide_eq_true (by first | (with_reducible assumption) | assumption); obtain ⟨ce6, hcl6, hM6, hcc6, hfr6⟩ := Kd.R_elem HO_0.out z26 (x5_1 : Int) p6 q6; obtain rfl := k26_openM hM6; have hx6_0 : w9.cell? ⟨go5, (x5_1 : Int).toNat * 2, none⟩ = some (.int .i64 ((rd_T26 y197 x5_1).f0)) := hcc6 0 _ rfl; have hx6_1 : w9.cell? ⟨go5, (x5_1 : Int).toNat * 2 + 1, none⟩ = some (.int .i64 ((rd_T26 y197 x5_1).f1)) := hcc6 1 _ rfl; have hf6_0 : w9.frozen? ⟨go5, (x5_1 : Int).toNat * 2, none⟩ = false := hfr6 0; have hf6_1 : w9.frozen? ⟨go5, (x5_1 : Int).toNat * 2 + 1, none⟩ = false := hfr6 1; clear hcl6 hcc6 hfr6 hM6; replace p6 := eq_true p6; replace q6 := eq_true q6; have HX10 := Aside0.mk (show Kd.R k26 26 w9 w0.heap.size (fun k_ => (P0_ k_ ∨ w.heap.size ≤ k_)) (.slice (some ⟨go5, 0, none⟩) x0_1.length co7) y197 from (by (with_reducible repeat (first | apply Kd.R_alloc | apply Kd.R_drewN | apply Kd.R_drew)); exact HO_0.out)); obtain ⟨ce10, hcl10, hM10, hcc10, hfr10⟩ := Kd.R_elem HX10.out z26 (x5_1 : Int) (of_decide_eq_true (by first | (with_reducible assumption) | assumption)) (by have h_ : (x5_1 : Int) < ((x0_1.length : Int) : Int) := of_decide_eq_true (by first | (with_reducible assumption) | assumption); first | exact h_ | (have e_ := (Kd.R_reads' HO_0.out).1; omega) | simpa using h_); obtain rfl := k26_openM hM10; have HP10 := Kd.R_seg HX10.out (x5_1 : Int) (of_decide_eq_true (by first | (with_reducible assumption) | assumption)) (by have h_ : (x5_1 : Int) < ((x0_1.length : Int) : Int) := of_decide_eq_true (by first | (with_reducible assumption) | assumption); first | exact h_ | (have e_ := (Kd.R_reads' HO_0.out).1; omega) | simpa using h_) (seg := [.int .i64 (wrap64 (x1_1 + 1))]) (j := 1) hcl10 hcc10 (show 2 ≤ 2 from by decide) (x' := (⟨(rd_T26 y197 x5_1).f0, wrap64 (x1_1 + 1)⟩ : S26)) (k26_mkM _ _ _ (⟨(rd_T26 y197 x5_1).f0, wrap64 (x1_1 + 1)⟩ : S26) ) (fun _ hk => hk); have hx10_1 := hcc10 1 _ rfl; (try simp only [show (k26).sz = 2 from rfl, Nat.mul_one, Nat.add_zero] at hx10_1); have hf10_1 := hfr10 1; (try simp only [show (k26).sz = 2 from rfl, Nat.mul_one, Nat.add_zero] at hf10_1); clear hcl10 hcc10 hfr10 hM10) | ((with_reducible refine gate_store (t := 3) (p := 23) rfl ?_); refine store_event (t := 3) (p := 23) (v := ?vo_w11) (w1 := (w9.setCell ⟨go5, (x5_1 : Int).toNat * 2 + 1, none⟩ (.int .i64 (wrap64 (x1_1 + 1))))) ?hg ?ho ?hn ?hr ?_; (case ho => rfl); (case hg => rfl); (case hn => rfl); (case hr => first | (go_simp; done) | (go_simp; rfl)); intro w11 hw; have hg : w9.grownBy w11 (some go5) := (by rw [hw]; exact HP10.2); have hp_ : Kd.R k26 26 w11 w0.heap.size (fun k_ => (P0_ k_ ∨ w.heap.size ≤ k_)) (.slice (some ⟨go5, 0, none⟩) x0_1.length co7) y198 := (by rw [hw, Ny198.out]; exact HP10.1); clear HP10; have n0_ := Aside0.mk (hp_); have n1_ := Aside0.mk ((by rw [hw]; exact below_set (HB.out) GB5.out : Below w0.heap.size w0 w11)); have n2_ := Aside0.mk (Kept.of_grown (S := (fun k_ => P0_ k_)) hg (by repeat (first | (with_reducible first | exact HK.out | apply Kept.alloc | apply Kept.drewN | apply Kept.drew) | exact HK.out)) (fun k_ e_ => (HO_0.out.1 k_ e_))); clear HO_0; clear HB; clear HK; have HO_0 := n0_; have HB := n1_; have HK := n2_; clear n0_ n1_ n2_; clear hg hw hp_))
          go_roundg k1
          case measure => have := HK1.out; omega
          case rel => exact ⟨(y198), (wrap64 ((wrap64 (x1_1 + 1)) + 1)), (wrap64 (x5_1 + 1)), (by first | rfl | (simp; done) | (simp [*]; done)), (by first | rfl | (simp; done) | (simp [*]; done)), H', ⟨by have := HK1.out; omega⟩, ⟨by (with_reducible repeat (first | apply Kd.R_alloc | apply Kd.R_drewN | apply Kd.R_drew)); exact HO_0.out⟩, ⟨by repeat (first | (with_reducible first | exact HK.out | apply Kept.alloc | apply Kept.drewN | apply Kept.drew) | exact HK.out)⟩, ⟨by repeat (first | (with_reducible first | exact HB.out | apply below_alloc | apply pw_below_drewN | apply below_drew1) | exact HB.out)⟩⟩
        · rw [if_neg c4] at H
          exact absurd H (by simp)
      · rw [if_neg c3] at H
        have c3b0 : decide (x5_1 < (x0_1.length : Int)) = false := decide_eq_false c3
        clear c3
        simp only [Option.some.injEq, Prod.mk.injEq] at H
        obtain ⟨rfl, rfl⟩ := H
        obtain ⟨Ao12, co12, eo12⟩ := Kd.R_slice HO_0.out
        subst eo12
        go_wp2
        go_ret
        exact ⟨by first | rfl | (simp [errW_none, errW_some] <;> rfl) | (simp [*, errW_none, errW_some] <;> rfl), by (with_reducible repeat (first | apply Kd.R_alloc | apply Kd.R_drewN | apply Kd.R_drew)); exact HO_0.out, by repeat (first | (with_reducible first | exact HB.out | apply below_alloc | apply pw_below_drewN | apply below_drew1) | exact HB.out), by repeat (first | (with_reducible first | exact HK.out | apply Kept.alloc | apply Kept.drewN | apply Kept.drew) | exact HK.out)⟩

/-! ### laws_heldShareS: function 47 -/
def laws_heldShareS.l0 : Nat → List (S26) → Int → Int → Option (Int)
  | 0, _, _, _ => none
  | k + 1, x0, x1, x5 => if x5 < (x0.length : Int) then (if 0 ≤ x5 then (if ((rd_T26 x0 x5).f0) = x1 then (if ((rd_T26 x0 x5).f1) = (wrap64 (x1 + 1)) then (laws_heldShareS.l0 k x0 (wrap64 ((wrap64 (x1 + 1)) + 1)) (wrap64 (x5 + 1))) else (some (-1))) else (some (-1))) else (none)) else (some x1)
def laws_heldShareS.f (k : Nat) (l0 : List (S26)) (a1 : Int) : Option (Int) := laws_heldShareS.l0 k l0 a1 0
theorem laws_heldShareS.mono_l : ∀ k, (∀ y0 y1 y2, LeO (laws_heldShareS.l0 k y0 y1 y2) (laws_heldShareS.l0 (k + 1) y0 y1 y2))
  | 0 => fun _ _ _ r h => by simp [laws_heldShareS.l0] at h
  | k + 1 => by
    have ih0 := laws_heldShareS.mono_l k
    · intro y0 y1 y2
      unfold laws_heldShareS.l0
      repeat' first
      | (with_reducible exact ih0 _ _ _)
      | (with_reducible exact LeO.refl _)
      | (with_reducible exact LeO.none _)
      | (with_reducible refine LeO.ite ?_ ?_)
      | (with_reducible refine LeO.bind ?_ (fun _ => ?_))
      | exact ih0 _ _ _
      | exact LeO.none _
      | refine LeO.ite ?_ ?_
      | refine LeO.bind ?_ (fun _ => ?_)
theorem laws_heldShareS.mono : ∀ a0 a1 k, LeO (laws_heldShareS.f k a0 a1) (laws_heldShareS.f (k + 1) a0 a1) := by
  intro a0 a1 k
  have ih0 := laws_heldShareS.mono_l k
  unfold laws_heldShareS.f
  repeat' first
      | (with_reducible exact ih0 _ _ _)
      | (with_reducible exact LeO.refl _)
      | (with_reducible exact LeO.none _)
      | (with_reducible refine LeO.ite ?_ ?_)
      | (with_reducible refine LeO.bind ?_ (fun _ => ?_))
      | exact ih0 _ _ _
      | exact LeO.none _
      | refine LeO.ite ?_ ?_
      | refine LeO.bind ?_ (fun _ => ?_)
set_option maxHeartbeats 8000000 in
set_option maxRecDepth 100000 in
theorem laws_heldShareS.calls (k : Nat) (A0 : Option Addr) (c0 : Nat) (l0 : List (S26)) (a1 : Int) (r : Int) (w : World) (hr0 : Kd.C k26 w A0 l0.length l0) (hc0 : l0.length ≤ c0) (h : laws_heldShareS.f k l0 a1 = some r) :
    Calls Try.prog 47 #[.slice A0 l0.length c0, .int .i64 a1] w fun e w' => e = .returned (.int .i64 r) ∧ Drawn0 w w' := by
  have HR0 := Aside0.mk hr0
  have HC0 := Aside0.mk hc0
  clear hr0 hc0
  have H : (laws_heldShareS.l0 k l0 a1 0) = some r := h
  clear h
  have H' := Aside0.mk H
  clear H
  go_enter Try.func47, Try.ntmps47
  go_wp2
  go_loopg [1, 5] k (fun kq v1 v5 w' => ∃ (x1_1 : Int) (x5_1 : Int), v1 = .int .i64 x1_1 ∧ v5 = .int .i64 x5_1 ∧ Aside0 (laws_heldShareS.l0 kq l0 x1_1 x5_1 = some r) ∧ Aside0 (kq ≤ k) ∧ Drawn0 w w')
  case atStart => exact ⟨(a1), (0), (by first | rfl | (simp; done) | (simp [*]; done)), (by first | rfl | (simp; done) | (simp [*]; done)), H', ⟨Nat.le_refl _⟩, by repeat (first | exact Drawn0.refl _ | apply Drawn0.step)⟩
  case round =>
    clear H'
    try clear p2
    obtain ⟨x1_1, x5_1, rfl, rfl, HA, HK1, ⟨m1, rfl⟩⟩ := hrel
    cases gk with
    | zero => exact absurd HA.out (by simp [laws_heldShareS.l0])
    | succ k1 =>
      have H := HA.out
      clear HA
      simp only [laws_heldShareS.l0] at H
      by_cases c3 : x5_1 < (l0.length : Int)
      · rw [if_pos c3] at H
        have c3b0 : decide (x5_1 < (l0.length : Int)) = true := decide_eq_true c3
        clear c3
        by_cases c4 : 0 ≤ x5_1
        · rw [if_pos c4] at H
          have c4b0 : decide (0 ≤ x5_1) = true := decide_eq_true c4
          clear c4
          by_cases c5 : ((rd_T26 l0 x5_1).f0) = x1_1
          · rw [if_pos c5] at H
            have c5b0 : (((rd_T26 l0 x5_1).f0) == x1_1) = true := beq_iff_eq.mpr c5
            have c5b1 : (((rd_T26 l0 x5_1).f0) != x1_1) = false := bne_eq_false_iff_eq.mpr c5
            clear c5
            by_cases c6 : ((rd_T26 l0 x5_1).f1) = (wrap64 (x1_1 + 1))
            · rw [if_pos c6] at H
              have c6b0 : (((rd_T26 l0 x5_1).f1) == (wrap64 (x1_1 + 1))) = true := beq_iff_eq.mpr c6
              have c6b1 : (((rd_T26 l0 x5_1).f1) != (wrap64 (x1_1 + 1))) = false := bne_eq_false_iff_eq.mpr c6
              clear c6
              have H' := Aside0.mk H
              clear H
              have p199 : 0 ≤ (x5_1 : Int) := of_decide_eq_true (by first | (with_reducible assumption) | assumption)
              have q199 : x5_1 < (l0.length : Int) := of_decide_eq_true (by first | (with_reducible assumption) | assumption)
              obtain ⟨ad199, e199, hx199_0, hx199_1⟩ := at_T26 HR0.out x5_1 p199 q199
              cases e199
              replace p199 := eq_true p199
              replace q199 := eq_true q199
              have p200 : 0 ≤ (x5_1 : Int) := of_decide_eq_true (by first | (with_reducible assumption) | assumption)
              have q200 : x5_1 < (l0.length : Int) := of_decide_eq_true (by first | (with_reducible assumption) | assumption)
              obtain ⟨ad200, e200, hx200_0, hx200_1⟩ := at_T26 HR0.out x5_1 p200 q200
              obtain rfl : ad199 = ad200 := (by injection e200)
              replace p200 := eq_true p200
              replace q200 := eq_true q200
              go_wp2
              go_roundg k1
              case measure => have := HK1.out; omega
              case rel => exact ⟨(wrap64 ((wrap64 (x1_1 + 1)) + 1)), (wrap64 (x5_1 + 1)), (by first | rfl | (simp; done) | (simp [*]; done)), (by first | rfl | (simp; done) | (simp [*]; done)), H', ⟨by have := HK1.out; omega⟩, by repeat (first | exact Drawn0.refl _ | apply Drawn0.step)⟩
            · rw [if_neg c6] at H
              have c6b0 : (((rd_T26 l0 x5_1).f1) == (wrap64 (x1_1 + 1))) = false := beq_eq_false_iff_ne.mpr c6
              have c6b1 : (((rd_T26 l0 x5_1).f1) != (wrap64 (x1_1 + 1))) = true := bne_iff_ne.mpr c6
              obtain rfl := Option.some.inj H
              have p199 : 0 ≤ (x5_1 : Int) := of_decide_eq_true (by first | (with_reducible assumption) | assumption)
              have q199 : x5_1 < (l0.length : Int) := of_decide_eq_true (by first | (with_reducible assumption) | assumption)
              obtain ⟨ad199, e199, hx199_0, hx199_1⟩ := at_T26 HR0.out x5_1 p199 q199
              cases e199
              replace p199 := eq_true p199
              replace q199 := eq_true q199
              have p200 : 0 ≤ (x5_1 : Int) := of_decide_eq_true (by first | (with_reducible assumption) | assumption)
              have q200 : x5_1 < (l0.length : Int) := of_decide_eq_true (by first | (with_reducible assumption) | assumption)
              obtain ⟨ad200, e200, hx200_0, hx200_1⟩ := at_T26 HR0.out x5_1 p200 q200
              obtain rfl : ad199 = ad200 := (by injection e200)
              replace p200 := eq_true p200
              replace q200 := eq_true q200
              go_wp2
              go_ret
              exact ⟨by first | rfl | (simp; done) | (simp [*]; done), by repeat (first | exact Drawn0.refl _ | apply Drawn0.step)⟩
          · rw [if_neg c5] at H
            have c5b0 : (((rd_T26 l0 x5_1).f0) == x1_1) = false := beq_eq_false_iff_ne.mpr c5
            have c5b1 : (((rd_T26 l0 x5_1).f0) != x1_1) = true := bne_iff_ne.mpr c5
            obtain rfl := Option.some.inj H
            have p199 : 0 ≤ (x5_1 : Int) := of_decide_eq_true (by first | (with_reducible assumption) | assumption)
            have q199 : x5_1 < (l0.length : Int) := of_decide_eq_true (by first | (with_reducible assumption) | assumption)
            obtain ⟨ad199, e199, hx199_0, hx199_1⟩ := at_T26 HR0.out x5_1 p199 q199
            cases e199
            replace p199 := eq_true p199
            replace q199 := eq_true q199
            go_wp2
            go_ret
            exact ⟨by first | rfl | (simp; done) | (simp [*]; done), by repeat (first | exact Drawn0.refl _ | apply Drawn0.step)⟩
        · rw [if_neg c4] at H
          exact absurd H (by simp)
      · rw [if_neg c3] at H
        have c3b0 : decide (x5_1 < (l0.length : Int)) = false := decide_eq_false c3
        clear c3
        obtain rfl := Option.some.inj H
        go_wp2
        go_ret
        exact ⟨by first | rfl | (simp; done) | (simp [*]; done), by repeat (first | exact Drawn0.refl _ | apply Drawn0.step)⟩


/-! ### what a law's walk needs: rows by intervals of blocks -/
theorem lk_R {α : Type} {d : Kd α} {e b n1 a : Nat} {ok : Nat → Prop} {w' : World} {v : Value} {xs : List α} (h : d.R e w' n1 ok v xs) (ha : a ≤ n1) (hb : b ≤ n1) : ∃ ok' : Nat → Prop, d.R e w' b ok' v xs ∧ ∀ k, ok' k → a ≤ k ∧ k < w'.heap.size :=
  ⟨_, Kd.R_lower (Kd.R_bound h) hb, fun _ hk => ⟨Nat.le_trans ha hk.2.1, hk.2.2.1⟩⟩
theorem lk_S {α : Type} {d : Kd α} {e b n1 a : Nat} {ok : Nat → Prop} {w' : World} {v : Value} {xs : List α} (h : Kd.S d e w' n1 ok v xs) (ha : a ≤ n1) (hb : b ≤ n1) : ∃ ok' : Nat → Prop, Kd.S d e w' b ok' v xs ∧ ∀ k, ok' k → a ≤ k ∧ k < w'.heap.size :=
  ⟨_, Kd.S_lower (Kd.S_bound h) hb, fun _ hk => ⟨Nat.le_trans ha hk.2.1, hk.2.2.1⟩⟩
/-! ### laws_FnExactStolenShares: function 7 -/
def laws_FnExactStolenShares.f (k : Nat) (l0 : List (S50)) (l1 : List Int) : Option (Bool) := if (l1.length : Int) > 1048576 then (some true) else ((laws_szKeeperHostS.f k l0 1048576).bind fun t201 => (if t201 < 0 then (some true) else ((laws_toKeeperHostS.f k l0).bind fun t202 => ((laws_toIntS.f k l1).bind fun t205 => ((spec_StolenShares.f k t202 t205).bind fun t208 => ((laws_toKeeperHostS.f k l0).bind fun t211 => ((laws_toIntS.f k l1).bind fun t214 => ((impl_StolenShares.f k t211 t214).bind fun t217 => ((laws_eqShareS.f k t217 t208).bind fun t220 => (if t220 = true then ((laws_toKeeperHostS.f k l0).bind fun t221 => ((laws_eqKeeperHostS.f k t211 t221).bind fun t224 => (if t224 = true then ((laws_toIntS.f k l1).bind fun t225 => ((laws_eqIntS.f k t214 t225).bind fun t228 => (if t228 = true then ((laws_markKeeperHostS.f k t211 1).bind fun bt229 => ((laws_markIntS.f k t214 bt229.1).bind fun bt231 => (if bt231.1 < 0 then (some false) else ((laws_eqShareS.f k t217 t208).bind fun t233 => (if t233 = true then ((laws_markShareS.f k t217 1).bind fun bt234 => ((laws_heldShareS.f k bt234.2 1).bind fun t236 => (if t236 < 0 then (some false) else (if t236 = bt234.1 then ((laws_toKeeperHostS.f k l0).bind fun t237 => ((laws_toIntS.f k l1).bind fun t240 => ((impl_StolenShares.f k t237 t240).bind fun t243 => ((laws_eqShareS.f k t243 t208).bind fun t246 => (if t246 = true then ((laws_heldShareS.f k bt234.2 1).bind fun t247 => (if t247 < 0 then (some false) else (if t247 = bt234.1 then (some true) else (some false)))) else (some false)))))) else (some false))))) else (some false)))))) else (some false)))) else (some false)))) else (some false)))))))))))
theorem laws_FnExactStolenShares.mono : ∀ a0 a1 k, LeO (laws_FnExactStolenShares.f k a0 a1) (laws_FnExactStolenShares.f (k + 1) a0 a1) := by
  intro a0 a1 k
  unfold laws_FnExactStolenShares.f
  repeat' first
      | (with_reducible exact impl_StolenShares.mono _ _ _)
      | (with_reducible exact laws_eqIntS.mono _ _ _)
      | (with_reducible exact laws_eqKeeperHostS.mono _ _ _)
      | (with_reducible exact laws_eqShareS.mono _ _ _)
      | (with_reducible exact laws_heldShareS.mono _ _ _)
      | (with_reducible exact laws_markIntS.mono _ _ _)
      | (with_reducible exact laws_markKeeperHostS.mono _ _ _)
      | (with_reducible exact laws_markShareS.mono _ _ _)
      | (with_reducible exact laws_szKeeperHostS.mono _ _ _)
      | (with_reducible exact laws_toIntS.mono _ _)
      | (with_reducible exact laws_toKeeperHostS.mono _ _)
      | (with_reducible exact spec_StolenShares.mono _ _ _)
      | (with_reducible exact LeO.refl _)
      | (with_reducible exact LeO.none _)
      | (with_reducible refine LeO.ite ?_ ?_)
      | (with_reducible refine LeO.bind ?_ (fun _ => ?_))
      | exact impl_StolenShares.mono _ _ _
      | exact laws_eqIntS.mono _ _ _
      | exact laws_eqKeeperHostS.mono _ _ _
      | exact laws_eqShareS.mono _ _ _
      | exact laws_heldShareS.mono _ _ _
      | exact laws_markIntS.mono _ _ _
      | exact laws_markKeeperHostS.mono _ _ _
      | exact laws_markShareS.mono _ _ _
      | exact laws_szKeeperHostS.mono _ _ _
      | exact laws_toIntS.mono _ _
      | exact laws_toKeeperHostS.mono _ _
      | exact spec_StolenShares.mono _ _ _
      | exact LeO.none _
      | refine LeO.ite ?_ ?_
      | refine LeO.bind ?_ (fun _ => ?_)
set_option maxHeartbeats 8000000 in
set_option maxRecDepth 100000 in
theorem laws_FnExactStolenShares.calls (k : Nat) (A0 : Option Addr) (c0 : Nat) (l0 : List (S50)) (A1 : Option Addr) (c1 : Nat) (l1 : List Int) (r : Bool) (w : World) (hr0 : Kd.C k50 w A0 l0.length l0) (hc0 : l0.length ≤ c0) (hr1 : Kd.C (Kd.int .i64) w A1 l1.length l1) (hc1 : l1.length ≤ c1) (hT : Aside0 (r = true)) (h : laws_FnExactStolenShares.f k l0 l1 = some r) :
    Calls Try.prog 7 #[.slice A0 l0.length c0, .slice A1 l1.length c1] w fun e w' => e = .returned (.bool r) ∧ Below w.heap.size w w' := by
  have HR0 := Aside0.mk hr0
  have HC0 := Aside0.mk hc0
  clear hr0 hc0
  have HR1 := Aside0.mk hr1
  have HC1 := Aside0.mk hc1
  clear hr1 hc1
  have HB := Aside0.mk (Below.refl w.heap.size w)
  have H : (if (l1.length : Int) > 1048576 then (some true) else ((laws_szKeeperHostS.f k l0 1048576).bind fun t201 => (if t201 < 0 then (some true) else ((laws_toKeeperHostS.f k l0).bind fun t202 => ((laws_toIntS.f k l1).bind fun t205 => ((spec_StolenShares.f k t202 t205).bind fun t208 => ((laws_toKeeperHostS.f k l0).bind fun t211 => ((laws_toIntS.f k l1).bind fun t214 => ((impl_StolenShares.f k t211 t214).bind fun t217 => ((laws_eqShareS.f k t217 t208).bind fun t220 => (if t220 = true then ((laws_toKeeperHostS.f k l0).bind fun t221 => ((laws_eqKeeperHostS.f k t211 t221).bind fun t224 => (if t224 = true then ((laws_toIntS.f k l1).bind fun t225 => ((laws_eqIntS.f k t214 t225).bind fun t228 => (if t228 = true then ((laws_markKeeperHostS.f k t211 1).bind fun bt229 => ((laws_markIntS.f k t214 bt229.1).bind fun bt231 => (if bt231.1 < 0 then (some false) else ((laws_eqShareS.f k t217 t208).bind fun t233 => (if t233 = true then ((laws_markShareS.f k t217 1).bind fun bt234 => ((laws_heldShareS.f k bt234.2 1).bind fun t236 => (if t236 < 0 then (some false) else (if t236 = bt234.1 then ((laws_toKeeperHostS.f k l0).bind fun t237 => ((laws_toIntS.f k l1).bind fun t240 => ((impl_StolenShares.f k t237 t240).bind fun t243 => ((laws_eqShareS.f k t243 t208).bind fun t246 => (if t246 = true then ((laws_heldShareS.f k bt234.2 1).bind fun t247 => (if t247 < 0 then (some false) else (if t247 = bt234.1 then (some true) else (some false)))) else (some false)))))) else (some false))))) else (some false)))))) else (some false)))) else (some false)))) else (some false)))))))))))) = some r := h
  clear h
  by_cases c3 : (l1.length : Int) > 1048576
  · rw [if_pos c3] at H
    have c3b0 : decide (1048576 < (l1.length : Int)) = true := decide_eq_true c3
    have c3b1 : decide (1048576 < l1.length) = true := decide_eq_true (by omega)
    clear c3
    obtain rfl := Option.some.inj H
    go_enter Try.func7, Try.ntmps7
    try go_wp2
    go_ret
    exact ⟨by first | rfl | (simp [*] <;> rfl), by repeat (first | (with_reducible first | exact HB.out | apply below_alloc | apply pw_below_drewN | apply below_drew1) | exact HB.out)⟩
  · rw [if_neg c3] at H
    have c3b0 : decide (1048576 < (l1.length : Int)) = false := decide_eq_false c3
    have c3b1 : decide (1048576 < l1.length) = false := decide_eq_false (by omega)
    clear c3
    replace H := Option.bind_eq_some_iff.mp H
    obtain ⟨t201, A40, H⟩ := H
    replace H : (if t201 < 0 then (some true) else ((laws_toKeeperHostS.f k l0).bind fun t202 => ((laws_toIntS.f k l1).bind fun t205 => ((spec_StolenShares.f k t202 t205).bind fun t208 => ((laws_toKeeperHostS.f k l0).bind fun t211 => ((laws_toIntS.f k l1).bind fun t214 => ((impl_StolenShares.f k t211 t214).bind fun t217 => ((laws_eqShareS.f k t217 t208).bind fun t220 => (if t220 = true then ((laws_toKeeperHostS.f k l0).bind fun t221 => ((laws_eqKeeperHostS.f k t211 t221).bind fun t224 => (if t224 = true then ((laws_toIntS.f k l1).bind fun t225 => ((laws_eqIntS.f k t214 t225).bind fun t228 => (if t228 = true then ((laws_markKeeperHostS.f k t211 1).bind fun bt229 => ((laws_markIntS.f k t214 bt229.1).bind fun bt231 => (if bt231.1 < 0 then (some false) else ((laws_eqShareS.f k t217 t208).bind fun t233 => (if t233 = true then ((laws_markShareS.f k t217 1).bind fun bt234 => ((laws_heldShareS.f k bt234.2 1).bind fun t236 => (if t236 < 0 then (some false) else (if t236 = bt234.1 then ((laws_toKeeperHostS.f k l0).bind fun t237 => ((laws_toIntS.f k l1).bind fun t240 => ((impl_StolenShares.f k t237 t240).bind fun t243 => ((laws_eqShareS.f k t243 t208).bind fun t246 => (if t246 = true then ((laws_heldShareS.f k bt234.2 1).bind fun t247 => (if t247 < 0 then (some false) else (if t247 = bt234.1 then (some true) else (some false)))) else (some false)))))) else (some false))))) else (some false)))))) else (some false)))) else (some false)))) else (some false)))))))))) = some r := H
    have A4 := Aside0.mk A40
    clear A40
    by_cases c5 : t201 < 0
    · rw [if_pos c5] at H
      have c5b0 : decide (t201 < 0) = true := decide_eq_true c5
      clear c5
      obtain rfl := Option.some.inj H
      go_enter Try.func7, Try.ntmps7
      go_wp2_with (first | ((with_reducible refine gate_callee (f := 36) rfl ?_); refine goesL_ (some 19) rfl rfl Try.func36 (by kernel_rfl) rfl #[.slice A0 l0.length c0, .int .i64 1048576] rfl (by (try simp only [List.map_toArray, List.map_cons, List.map_nil]); first | done | rfl | (simp only [List.length_drop, List.length_take]; rfl)) ?_; (with_reducible refine (laws_szKeeperHostS.calls k _ _ l0 1048576 t201 _ ?side1 ?side2 A4.out).mono ?_); (case side1 => exact Kd.C_below HR0.out (by repeat (first | (with_reducible first | exact HB.out | apply below_alloc | apply pw_below_drewN | apply below_drew1) | exact HB.out))); (case side2 => exact HC0.out); rintro e wv1 ⟨rfl, hb⟩; refine ⟨_, rfl, ?_⟩; have hkW := (show Kept w _ (fun k_ => False) from by repeat (first | (with_reducible first | exact Kept.refl _ _ | apply Kept.alloc | apply Kept.drewN | apply Kept.drew) | exact Kept.refl _ _)); have hk2 := Kept.below hkW hb; have n0_ := Aside0.mk (below_step (by repeat (first | (with_reducible first | exact HB.out | apply below_alloc | apply pw_below_drewN | apply below_drew1) | exact HB.out)) hb); have n1_ := Aside0.mk ((hk2.1 : w.heap.size ≤ wv1.heap.size)); clear HB; have HB := n0_; have HL1 := n1_; clear n0_ n1_; (try clear hb); (try clear hkW); (try clear hk2); (try clear hkp)))
      go_ret
      exact ⟨by first | rfl | (simp [*] <;> rfl), by repeat (first | (with_reducible first | exact HB.out | apply below_alloc | apply pw_below_drewN | apply below_drew1) | exact HB.out)⟩
    · rw [if_neg c5] at H
      have c5b0 : decide (t201 < 0) = false := decide_eq_false c5
      clear c5
      replace H := Option.bind_eq_some_iff.mp H
      obtain ⟨t202, A60, H⟩ := H
      replace H : ((laws_toIntS.f k l1).bind fun t205 => ((spec_StolenShares.f k t202 t205).bind fun t208 => ((laws_toKeeperHostS.f k l0).bind fun t211 => ((laws_toIntS.f k l1).bind fun t214 => ((impl_StolenShares.f k t211 t214).bind fun t217 => ((laws_eqShareS.f k t217 t208).bind fun t220 => (if t220 = true then ((laws_toKeeperHostS.f k l0).bind fun t221 => ((laws_eqKeeperHostS.f k t211 t221).bind fun t224 => (if t224 = true then ((laws_toIntS.f k l1).bind fun t225 => ((laws_eqIntS.f k t214 t225).bind fun t228 => (if t228 = true then ((laws_markKeeperHostS.f k t211 1).bind fun bt229 => ((laws_markIntS.f k t214 bt229.1).bind fun bt231 => (if bt231.1 < 0 then (some false) else ((laws_eqShareS.f k t217 t208).bind fun t233 => (if t233 = true then ((laws_markShareS.f k t217 1).bind fun bt234 => ((laws_heldShareS.f k bt234.2 1).bind fun t236 => (if t236 < 0 then (some false) else (if t236 = bt234.1 then ((laws_toKeeperHostS.f k l0).bind fun t237 => ((laws_toIntS.f k l1).bind fun t240 => ((impl_StolenShares.f k t237 t240).bind fun t243 => ((laws_eqShareS.f k t243 t208).bind fun t246 => (if t246 = true then ((laws_heldShareS.f k bt234.2 1).bind fun t247 => (if t247 < 0 then (some false) else (if t247 = bt234.1 then (some true) else (some false)))) else (some false)))))) else (some false))))) else (some false)))))) else (some false)))) else (some false)))) else (some false)))))))) = some r := H
      have A6 := Aside0.mk A60
      clear A60
      replace H := Option.bind_eq_some_iff.mp H
      obtain ⟨t205, A70, H⟩ := H
      replace H : ((spec_StolenShares.f k t202 t205).bind fun t208 => ((laws_toKeeperHostS.f k l0).bind fun t211 => ((laws_toIntS.f k l1).bind fun t214 => ((impl_StolenShares.f k t211 t214).bind fun t217 => ((laws_eqShareS.f k t217 t208).bind fun t220 => (if t220 = true then ((laws_toKeeperHostS.f k l0).bind fun t221 => ((laws_eqKeeperHostS.f k t211 t221).bind fun t224 => (if t224 = true then ((laws_toIntS.f k l1).bind fun t225 => ((laws_eqIntS.f k t214 t225).bind fun t228 => (if t228 = true then ((laws_markKeeperHostS.f k t211 1).bind fun bt229 => ((laws_markIntS.f k t214 bt229.1).bind fun bt231 => (if bt231.1 < 0 then (some false) else ((laws_eqShareS.f k t217 t208).bind fun t233 => (if t233 = true then ((laws_markShareS.f k t217 1).bind fun bt234 => ((laws_heldShareS.f k bt234.2 1).bind fun t236 => (if t236 < 0 then (some false) else (if t236 = bt234.1 then ((laws_toKeeperHostS.f k l0).bind fun t237 => ((laws_toIntS.f k l1).bind fun t240 => ((impl_StolenShares.f k t237 t240).bind fun t243 => ((laws_eqShareS.f k t243 t208).bind fun t246 => (if t246 = true then ((laws_heldShareS.f k bt234.2 1).bind fun t247 => (if t247 < 0 then (some false) else (if t247 = bt234.1 then (some true) else (some false)))) else (some false)))))) else (some false))))) else (some false)))))) else (some false)))) else (some false)))) else (some false))))))) = some r := H
      have A7 := Aside0.mk A70
      clear A70
      replace H := Option.bind_eq_some_iff.mp H
      obtain ⟨t208, A80, H⟩ := H
      replace H : ((laws_toKeeperHostS.f k l0).bind fun t211 => ((laws_toIntS.f k l1).bind fun t214 => ((impl_StolenShares.f k t211 t214).bind fun t217 => ((laws_eqShareS.f k t217 t208).bind fun t220 => (if t220 = true then ((laws_toKeeperHostS.f k l0).bind fun t221 => ((laws_eqKeeperHostS.f k t211 t221).bind fun t224 => (if t224 = true then ((laws_toIntS.f k l1).bind fun t225 => ((laws_eqIntS.f k t214 t225).bind fun t228 => (if t228 = true then ((laws_markKeeperHostS.f k t211 1).bind fun bt229 => ((laws_markIntS.f k t214 bt229.1).bind fun bt231 => (if bt231.1 < 0 then (some false) else ((laws_eqShareS.f k t217 t208).bind fun t233 => (if t233 = true then ((laws_markShareS.f k t217 1).bind fun bt234 => ((laws_heldShareS.f k bt234.2 1).bind fun t236 => (if t236 < 0 then (some false) else (if t236 = bt234.1 then ((laws_toKeeperHostS.f k l0).bind fun t237 => ((laws_toIntS.f k l1).bind fun t240 => ((impl_StolenShares.f k t237 t240).bind fun t243 => ((laws_eqShareS.f k t243 t208).bind fun t246 => (if t246 = true then ((laws_heldShareS.f k bt234.2 1).bind fun t247 => (if t247 < 0 then (some false) else (if t247 = bt234.1 then (some true) else (some false)))) else (some false)))))) else (some false))))) else (some false)))))) else (some false)))) else (some false)))) else (some false)))))) = some r := H
      have A8 := Aside0.mk A80
      clear A80
      replace H := Option.bind_eq_some_iff.mp H
      obtain ⟨t211, A90, H⟩ := H
      replace H : ((laws_toIntS.f k l1).bind fun t214 => ((impl_StolenShares.f k t211 t214).bind fun t217 => ((laws_eqShareS.f k t217 t208).bind fun t220 => (if t220 = true then ((laws_toKeeperHostS.f k l0).bind fun t221 => ((laws_eqKeeperHostS.f k t211 t221).bind fun t224 => (if t224 = true then ((laws_toIntS.f k l1).bind fun t225 => ((laws_eqIntS.f k t214 t225).bind fun t228 => (if t228 = true then ((laws_markKeeperHostS.f k t211 1).bind fun bt229 => ((laws_markIntS.f k t214 bt229.1).bind fun bt231 => (if bt231.1 < 0 then (some false) else ((laws_eqShareS.f k t217 t208).bind fun t233 => (if t233 = true then ((laws_markShareS.f k t217 1).bind fun bt234 => ((laws_heldShareS.f k bt234.2 1).bind fun t236 => (if t236 < 0 then (some false) else (if t236 = bt234.1 then ((laws_toKeeperHostS.f k l0).bind fun t237 => ((laws_toIntS.f k l1).bind fun t240 => ((impl_StolenShares.f k t237 t240).bind fun t243 => ((laws_eqShareS.f k t243 t208).bind fun t246 => (if t246 = true then ((laws_heldShareS.f k bt234.2 1).bind fun t247 => (if t247 < 0 then (some false) else (if t247 = bt234.1 then (some true) else (some false)))) else (some false)))))) else (some false))))) else (some false)))))) else (some false)))) else (some false)))) else (some false))))) = some r := H
      have A9 := Aside0.mk A90
      clear A90
      replace H := Option.bind_eq_some_iff.mp H
      obtain ⟨t214, A100, H⟩ := H
      replace H : ((impl_StolenShares.f k t211 t214).bind fun t217 => ((laws_eqShareS.f k t217 t208).bind fun t220 => (if t220 = true then ((laws_toKeeperHostS.f k l0).bind fun t221 => ((laws_eqKeeperHostS.f k t211 t221).bind fun t224 => (if t224 = true then ((laws_toIntS.f k l1).bind fun t225 => ((laws_eqIntS.f k t214 t225).bind fun t228 => (if t228 = true then ((laws_markKeeperHostS.f k t211 1).bind fun bt229 => ((laws_markIntS.f k t214 bt229.1).bind fun bt231 => (if bt231.1 < 0 then (some false) else ((laws_eqShareS.f k t217 t208).bind fun t233 => (if t233 = true then ((laws_markShareS.f k t217 1).bind fun bt234 => ((laws_heldShareS.f k bt234.2 1).bind fun t236 => (if t236 < 0 then (some false) else (if t236 = bt234.1 then ((laws_toKeeperHostS.f k l0).bind fun t237 => ((laws_toIntS.f k l1).bind fun t240 => ((impl_StolenShares.f k t237 t240).bind fun t243 => ((laws_eqShareS.f k t243 t208).bind fun t246 => (if t246 = true then ((laws_heldShareS.f k bt234.2 1).bind fun t247 => (if t247 < 0 then (some false) else (if t247 = bt234.1 then (some true) else (some false)))) else (some false)))))) else (some false))))) else (some false)))))) else (some false)))) else (some false)))) else (some false)))) = some r := H
      have A10 := Aside0.mk A100
      clear A100
      replace H := Option.bind_eq_some_iff.mp H
      obtain ⟨t217, A110, H⟩ := H
      replace H : ((laws_eqShareS.f k t217 t208).bind fun t220 => (if t220 = true then ((laws_toKeeperHostS.f k l0).bind fun t221 => ((laws_eqKeeperHostS.f k t211 t221).bind fun t224 => (if t224 = true then ((laws_toIntS.f k l1).bind fun t225 => ((laws_eqIntS.f k t214 t225).bind fun t228 => (if t228 = true then ((laws_markKeeperHostS.f k t211 1).bind fun bt229 => ((laws_markIntS.f k t214 bt229.1).bind fun bt231 => (if bt231.1 < 0 then (some false) else ((laws_eqShareS.f k t217 t208).bind fun t233 => (if t233 = true then ((laws_markShareS.f k t217 1).bind fun bt234 => ((laws_heldShareS.f k bt234.2 1).bind fun t236 => (if t236 < 0 then (some false) else (if t236 = bt234.1 then ((laws_toKeeperHostS.f k l0).bind fun t237 => ((laws_toIntS.f k l1).bind fun t240 => ((impl_StolenShares.f k t237 t240).bind fun t243 => ((laws_eqShareS.f k t243 t208).bind fun t246 => (if t246 = true then ((laws_heldShareS.f k bt234.2 1).bind fun t247 => (if t247 < 0 then (some false) else (if t247 = bt234.1 then (some true) else (some false)))) else (some false)))))) else (some false))))) else (some false)))))) else (some false)))) else (some false)))) else (some false))) = some r := H
      have A11 := Aside0.mk A110
      clear A110
      replace H := Option.bind_eq_some_iff.mp H
      obtain ⟨t220, A120, H⟩ := H
      replace H : (if t220 = true then ((laws_toKeeperHostS.f k l0).bind fun t221 => ((laws_eqKeeperHostS.f k t211 t221).bind fun t224 => (if t224 = true then ((laws_toIntS.f k l1).bind fun t225 => ((laws_eqIntS.f k t214 t225).bind fun t228 => (if t228 = true then ((laws_markKeeperHostS.f k t211 1).bind fun bt229 => ((laws_markIntS.f k t214 bt229.1).bind fun bt231 => (if bt231.1 < 0 then (some false) else ((laws_eqShareS.f k t217 t208).bind fun t233 => (if t233 = true then ((laws_markShareS.f k t217 1).bind fun bt234 => ((laws_heldShareS.f k bt234.2 1).bind fun t236 => (if t236 < 0 then (some false) else (if t236 = bt234.1 then ((laws_toKeeperHostS.f k l0).bind fun t237 => ((laws_toIntS.f k l1).bind fun t240 => ((impl_StolenShares.f k t237 t240).bind fun t243 => ((laws_eqShareS.f k t243 t208).bind fun t246 => (if t246 = true then ((laws_heldShareS.f k bt234.2 1).bind fun t247 => (if t247 < 0 then (some false) else (if t247 = bt234.1 then (some true) else (some false)))) else (some false)))))) else (some false))))) else (some false)))))) else (some false)))) else (some false)))) else (some false)) = some r := H
      have A12 := Aside0.mk A120
      clear A120
      by_cases c13 : t220 = true
      · subst c13
        have H1 : ((laws_toKeeperHostS.f k l0).bind fun t221 => ((laws_eqKeeperHostS.f k t211 t221).bind fun t224 => (if t224 = true then ((laws_toIntS.f k l1).bind fun t225 => ((laws_eqIntS.f k t214 t225).bind fun t228 => (if t228 = true then ((laws_markKeeperHostS.f k t211 1).bind fun bt229 => ((laws_markIntS.f k t214 bt229.1).bind fun bt231 => (if bt231.1 < 0 then (some false) else ((laws_eqShareS.f k t217 t208).bind fun t233 => (if t233 = true then ((laws_markShareS.f k t217 1).bind fun bt234 => ((laws_heldShareS.f k bt234.2 1).bind fun t236 => (if t236 < 0 then (some false) else (if t236 = bt234.1 then ((laws_toKeeperHostS.f k l0).bind fun t237 => ((laws_toIntS.f k l1).bind fun t240 => ((impl_StolenShares.f k t237 t240).bind fun t243 => ((laws_eqShareS.f k t243 t208).bind fun t246 => (if t246 = true then ((laws_heldShareS.f k bt234.2 1).bind fun t247 => (if t247 < 0 then (some false) else (if t247 = bt234.1 then (some true) else (some false)))) else (some false)))))) else (some false))))) else (some false)))))) else (some false)))) else (some false)))) = some r := by rw [if_pos rfl] at H; exact H
        clear H
        have H := H1
        clear H1
        replace H := Option.bind_eq_some_iff.mp H
        obtain ⟨t221, A140, H⟩ := H
        replace H : ((laws_eqKeeperHostS.f k t211 t221).bind fun t224 => (if t224 = true then ((laws_toIntS.f k l1).bind fun t225 => ((laws_eqIntS.f k t214 t225).bind fun t228 => (if t228 = true then ((laws_markKeeperHostS.f k t211 1).bind fun bt229 => ((laws_markIntS.f k t214 bt229.1).bind fun bt231 => (if bt231.1 < 0 then (some false) else ((laws_eqShareS.f k t217 t208).bind fun t233 => (if t233 = true then ((laws_markShareS.f k t217 1).bind fun bt234 => ((laws_heldShareS.f k bt234.2 1).bind fun t236 => (if t236 < 0 then (some false) else (if t236 = bt234.1 then ((laws_toKeeperHostS.f k l0).bind fun t237 => ((laws_toIntS.f k l1).bind fun t240 => ((impl_StolenShares.f k t237 t240).bind fun t243 => ((laws_eqShareS.f k t243 t208).bind fun t246 => (if t246 = true then ((laws_heldShareS.f k bt234.2 1).bind fun t247 => (if t247 < 0 then (some false) else (if t247 = bt234.1 then (some true) else (some false)))) else (some false)))))) else (some false))))) else (some false)))))) else (some false)))) else (some false))) = some r := H
        have A14 := Aside0.mk A140
        clear A140
        replace H := Option.bind_eq_some_iff.mp H
        obtain ⟨t224, A150, H⟩ := H
        replace H : (if t224 = true then ((laws_toIntS.f k l1).bind fun t225 => ((laws_eqIntS.f k t214 t225).bind fun t228 => (if t228 = true then ((laws_markKeeperHostS.f k t211 1).bind fun bt229 => ((laws_markIntS.f k t214 bt229.1).bind fun bt231 => (if bt231.1 < 0 then (some false) else ((laws_eqShareS.f k t217 t208).bind fun t233 => (if t233 = true then ((laws_markShareS.f k t217 1).bind fun bt234 => ((laws_heldShareS.f k bt234.2 1).bind fun t236 => (if t236 < 0 then (some false) else (if t236 = bt234.1 then ((laws_toKeeperHostS.f k l0).bind fun t237 => ((laws_toIntS.f k l1).bind fun t240 => ((impl_StolenShares.f k t237 t240).bind fun t243 => ((laws_eqShareS.f k t243 t208).bind fun t246 => (if t246 = true then ((laws_heldShareS.f k bt234.2 1).bind fun t247 => (if t247 < 0 then (some false) else (if t247 = bt234.1 then (some true) else (some false)))) else (some false)))))) else (some false))))) else (some false)))))) else (some false)))) else (some false)) = some r := H
        have A15 := Aside0.mk A150
        clear A150
        by_cases c16 : t224 = true
        · subst c16
          have H1 : ((laws_toIntS.f k l1).bind fun t225 => ((laws_eqIntS.f k t214 t225).bind fun t228 => (if t228 = true then ((laws_markKeeperHostS.f k t211 1).bind fun bt229 => ((laws_markIntS.f k t214 bt229.1).bind fun bt231 => (if bt231.1 < 0 then (some false) else ((laws_eqShareS.f k t217 t208).bind fun t233 => (if t233 = true then ((laws_markShareS.f k t217 1).bind fun bt234 => ((laws_heldShareS.f k bt234.2 1).bind fun t236 => (if t236 < 0 then (some false) else (if t236 = bt234.1 then ((laws_toKeeperHostS.f k l0).bind fun t237 => ((laws_toIntS.f k l1).bind fun t240 => ((impl_StolenShares.f k t237 t240).bind fun t243 => ((laws_eqShareS.f k t243 t208).bind fun t246 => (if t246 = true then ((laws_heldShareS.f k bt234.2 1).bind fun t247 => (if t247 < 0 then (some false) else (if t247 = bt234.1 then (some true) else (some false)))) else (some false)))))) else (some false))))) else (some false)))))) else (some false)))) = some r := by rw [if_pos rfl] at H; exact H
          clear H
          have H := H1
          clear H1
          replace H := Option.bind_eq_some_iff.mp H
          obtain ⟨t225, A170, H⟩ := H
          replace H : ((laws_eqIntS.f k t214 t225).bind fun t228 => (if t228 = true then ((laws_markKeeperHostS.f k t211 1).bind fun bt229 => ((laws_markIntS.f k t214 bt229.1).bind fun bt231 => (if bt231.1 < 0 then (some false) else ((laws_eqShareS.f k t217 t208).bind fun t233 => (if t233 = true then ((laws_markShareS.f k t217 1).bind fun bt234 => ((laws_heldShareS.f k bt234.2 1).bind fun t236 => (if t236 < 0 then (some false) else (if t236 = bt234.1 then ((laws_toKeeperHostS.f k l0).bind fun t237 => ((laws_toIntS.f k l1).bind fun t240 => ((impl_StolenShares.f k t237 t240).bind fun t243 => ((laws_eqShareS.f k t243 t208).bind fun t246 => (if t246 = true then ((laws_heldShareS.f k bt234.2 1).bind fun t247 => (if t247 < 0 then (some false) else (if t247 = bt234.1 then (some true) else (some false)))) else (some false)))))) else (some false))))) else (some false)))))) else (some false))) = some r := H
          have A17 := Aside0.mk A170
          clear A170
          replace H := Option.bind_eq_some_iff.mp H
          obtain ⟨t228, A180, H⟩ := H
          replace H : (if t228 = true then ((laws_markKeeperHostS.f k t211 1).bind fun bt229 => ((laws_markIntS.f k t214 bt229.1).bind fun bt231 => (if bt231.1 < 0 then (some false) else ((laws_eqShareS.f k t217 t208).bind fun t233 => (if t233 = true then ((laws_markShareS.f k t217 1).bind fun bt234 => ((laws_heldShareS.f k bt234.2 1).bind fun t236 => (if t236 < 0 then (some false) else (if t236 = bt234.1 then ((laws_toKeeperHostS.f k l0).bind fun t237 => ((laws_toIntS.f k l1).bind fun t240 => ((impl_StolenShares.f k t237 t240).bind fun t243 => ((laws_eqShareS.f k t243 t208).bind fun t246 => (if t246 = true then ((laws_heldShareS.f k bt234.2 1).bind fun t247 => (if t247 < 0 then (some false) else (if t247 = bt234.1 then (some true) else (some false)))) else (some false)))))) else (some false))))) else (some false)))))) else (some false)) = some r := H
          have A18 := Aside0.mk A180
          clear A180
          by_cases c19 : t228 = true
          · subst c19
            have H1 : ((laws_markKeeperHostS.f k t211 1).bind fun bt229 => ((laws_markIntS.f k t214 bt229.1).bind fun bt231 => (if bt231.1 < 0 then (some false) else ((laws_eqShareS.f k t217 t208).bind fun t233 => (if t233 = true then ((laws_markShareS.f k t217 1).bind fun bt234 => ((laws_heldShareS.f k bt234.2 1).bind fun t236 => (if t236 < 0 then (some false) else (if t236 = bt234.1 then ((laws_toKeeperHostS.f k l0).bind fun t237 => ((laws_toIntS.f k l1).bind fun t240 => ((impl_StolenShares.f k t237 t240).bind fun t243 => ((laws_eqShareS.f k t243 t208).bind fun t246 => (if t246 = true then ((laws_heldShareS.f k bt234.2 1).bind fun t247 => (if t247 < 0 then (some false) else (if t247 = bt234.1 then (some true) else (some false)))) else (some false)))))) else (some false))))) else (some false)))))) = some r := by rw [if_pos rfl] at H; exact H
            clear H
            have H := H1
            clear H1
            replace H := Option.bind_eq_some_iff.mp H
            obtain ⟨⟨t229, t230⟩, A200, H⟩ := H
            replace H : ((laws_markIntS.f k t214 t229).bind fun bt231 => (if bt231.1 < 0 then (some false) else ((laws_eqShareS.f k t217 t208).bind fun t233 => (if t233 = true then ((laws_markShareS.f k t217 1).bind fun bt234 => ((laws_heldShareS.f k bt234.2 1).bind fun t236 => (if t236 < 0 then (some false) else (if t236 = bt234.1 then ((laws_toKeeperHostS.f k l0).bind fun t237 => ((laws_toIntS.f k l1).bind fun t240 => ((impl_StolenShares.f k t237 t240).bind fun t243 => ((laws_eqShareS.f k t243 t208).bind fun t246 => (if t246 = true then ((laws_heldShareS.f k bt234.2 1).bind fun t247 => (if t247 < 0 then (some false) else (if t247 = bt234.1 then (some true) else (some false)))) else (some false)))))) else (some false))))) else (some false))))) = some r := H
            have A20 := Aside0.mk A200
            clear A200
            replace H := Option.bind_eq_some_iff.mp H
            obtain ⟨⟨t231, t232⟩, A210, H⟩ := H
            replace H : (if t231 < 0 then (some false) else ((laws_eqShareS.f k t217 t208).bind fun t233 => (if t233 = true then ((laws_markShareS.f k t217 1).bind fun bt234 => ((laws_heldShareS.f k bt234.2 1).bind fun t236 => (if t236 < 0 then (some false) else (if t236 = bt234.1 then ((laws_toKeeperHostS.f k l0).bind fun t237 => ((laws_toIntS.f k l1).bind fun t240 => ((impl_StolenShares.f k t237 t240).bind fun t243 => ((laws_eqShareS.f k t243 t208).bind fun t246 => (if t246 = true then ((laws_heldShareS.f k bt234.2 1).bind fun t247 => (if t247 < 0 then (some false) else (if t247 = bt234.1 then (some true) else (some false)))) else (some false)))))) else (some false))))) else (some false)))) = some r := H
            have A21 := Aside0.mk A210
            clear A210
            by_cases c22 : t231 < 0
            · rw [if_pos c22] at H
              have c22b0 : decide (t231 < 0) = true := decide_eq_true c22
              clear c22
              exact absurd ((Option.some.inj H).trans hT.out) (by decide)
            · rw [if_neg c22] at H
              have c22b0 : decide (t231 < 0) = false := decide_eq_false c22
              clear c22
              replace H := Option.bind_eq_some_iff.mp H
              obtain ⟨t233, A230, H⟩ := H
              replace H : (if t233 = true then ((laws_markShareS.f k t217 1).bind fun bt234 => ((laws_heldShareS.f k bt234.2 1).bind fun t236 => (if t236 < 0 then (some false) else (if t236 = bt234.1 then ((laws_toKeeperHostS.f k l0).bind fun t237 => ((laws_toIntS.f k l1).bind fun t240 => ((impl_StolenShares.f k t237 t240).bind fun t243 => ((laws_eqShareS.f k t243 t208).bind fun t246 => (if t246 = true then ((laws_heldShareS.f k bt234.2 1).bind fun t247 => (if t247 < 0 then (some false) else (if t247 = bt234.1 then (some true) else (some false)))) else (some false)))))) else (some false))))) else (some false)) = some r := H
              have A23 := Aside0.mk A230
              clear A230
              by_cases c24 : t233 = true
              · subst c24
                have H1 : ((laws_markShareS.f k t217 1).bind fun bt234 => ((laws_heldShareS.f k bt234.2 1).bind fun t236 => (if t236 < 0 then (some false) else (if t236 = bt234.1 then ((laws_toKeeperHostS.f k l0).bind fun t237 => ((laws_toIntS.f k l1).bind fun t240 => ((impl_StolenShares.f k t237 t240).bind fun t243 => ((laws_eqShareS.f k t243 t208).bind fun t246 => (if t246 = true then ((laws_heldShareS.f k bt234.2 1).bind fun t247 => (if t247 < 0 then (some false) else (if t247 = bt234.1 then (some true) else (some false)))) else (some false)))))) else (some false))))) = some r := by rw [if_pos rfl] at H; exact H
                clear H
                have H := H1
                clear H1
                replace H := Option.bind_eq_some_iff.mp H
                obtain ⟨⟨t234, t235⟩, A250, H⟩ := H
                replace H : ((laws_heldShareS.f k t235 1).bind fun t236 => (if t236 < 0 then (some false) else (if t236 = t234 then ((laws_toKeeperHostS.f k l0).bind fun t237 => ((laws_toIntS.f k l1).bind fun t240 => ((impl_StolenShares.f k t237 t240).bind fun t243 => ((laws_eqShareS.f k t243 t208).bind fun t246 => (if t246 = true then ((laws_heldShareS.f k t235 1).bind fun t247 => (if t247 < 0 then (some false) else (if t247 = t234 then (some true) else (some false)))) else (some false)))))) else (some false)))) = some r := H
                have A25 := Aside0.mk A250
                clear A250
                replace H := Option.bind_eq_some_iff.mp H
                obtain ⟨t236, A260, H⟩ := H
                replace H : (if t236 < 0 then (some false) else (if t236 = t234 then ((laws_toKeeperHostS.f k l0).bind fun t237 => ((laws_toIntS.f k l1).bind fun t240 => ((impl_StolenShares.f k t237 t240).bind fun t243 => ((laws_eqShareS.f k t243 t208).bind fun t246 => (if t246 = true then ((laws_heldShareS.f k t235 1).bind fun t247 => (if t247 < 0 then (some false) else (if t247 = t234 then (some true) else (some false)))) else (some false)))))) else (some false))) = some r := H
                have A26 := Aside0.mk A260
                clear A260
                by_cases c27 : t236 < 0
                · rw [if_pos c27] at H
                  have c27b0 : decide (t236 < 0) = true := decide_eq_true c27
                  clear c27
                  exact absurd ((Option.some.inj H).trans hT.out) (by decide)
                · rw [if_neg c27] at H
                  have c27b0 : decide (t236 < 0) = false := decide_eq_false c27
                  clear c27
                  by_cases c28 : t236 = t234
                  · rw [if_pos c28] at H
                    have c28b0 : (t236 == t234) = true := beq_iff_eq.mpr c28
                    have c28b1 : (t236 != t234) = false := bne_eq_false_iff_eq.mpr c28
                    clear c28
                    replace H := Option.bind_eq_some_iff.mp H
                    obtain ⟨t237, A290, H⟩ := H
                    replace H : ((laws_toIntS.f k l1).bind fun t240 => ((impl_StolenShares.f k t237 t240).bind fun t243 => ((laws_eqShareS.f k t243 t208).bind fun t246 => (if t246 = true then ((laws_heldShareS.f k t235 1).bind fun t247 => (if t247 < 0 then (some false) else (if t247 = t234 then (some true) else (some false)))) else (some false))))) = some r := H
                    have A29 := Aside0.mk A290
                    clear A290
                    replace H := Option.bind_eq_some_iff.mp H
                    obtain ⟨t240, A300, H⟩ := H
                    replace H : ((impl_StolenShares.f k t237 t240).bind fun t243 => ((laws_eqShareS.f k t243 t208).bind fun t246 => (if t246 = true then ((laws_heldShareS.f k t235 1).bind fun t247 => (if t247 < 0 then (some false) else (if t247 = t234 then (some true) else (some false)))) else (some false)))) = some r := H
                    have A30 := Aside0.mk A300
                    clear A300
                    replace H := Option.bind_eq_some_iff.mp H
                    obtain ⟨t243, A310, H⟩ := H
                    replace H : ((laws_eqShareS.f k t243 t208).bind fun t246 => (if t246 = true then ((laws_heldShareS.f k t235 1).bind fun t247 => (if t247 < 0 then (some false) else (if t247 = t234 then (some true) else (some false)))) else (some false))) = some r := H
                    have A31 := Aside0.mk A310
                    clear A310
                    replace H := Option.bind_eq_some_iff.mp H
                    obtain ⟨t246, A320, H⟩ := H
                    replace H : (if t246 = true then ((laws_heldShareS.f k t235 1).bind fun t247 => (if t247 < 0 then (some false) else (if t247 = t234 then (some true) else (some false)))) else (some false)) = some r := H
                    have A32 := Aside0.mk A320
                    clear A320
                    by_cases c33 : t246 = true
                    · subst c33
                      have H1 : ((laws_heldShareS.f k t235 1).bind fun t247 => (if t247 < 0 then (some false) else (if t247 = t234 then (some true) else (some false)))) = some r := by rw [if_pos rfl] at H; exact H
                      clear H
                      have H := H1
                      clear H1
                      replace H := Option.bind_eq_some_iff.mp H
                      obtain ⟨t247, A340, H⟩ := H
                      replace H : (if t247 < 0 then (some false) else (if t247 = t234 then (some true) else (some false))) = some r := H
                      have A34 := Aside0.mk A340
                      clear A340
                      by_cases c35 : t247 < 0
                      · rw [if_pos c35] at H
                        have c35b0 : decide (t247 < 0) = true := decide_eq_true c35
                        clear c35
                        exact absurd ((Option.some.inj H).trans hT.out) (by decide)
                      · rw [if_neg c35] at H
                        have c35b0 : decide (t247 < 0) = false := decide_eq_false c35
                        clear c35
                        by_cases c36 : t247 = t234
                        · rw [if_pos c36] at H
                          have c36b0 : (t247 == t234) = true := beq_iff_eq.mpr c36
                          have c36b1 : (t247 != t234) = false := bne_eq_false_iff_eq.mpr c36
                          clear c36
                          obtain rfl := Option.some.inj H
                          go_enter Try.func7, Try.ntmps7
                          go_wp2_with (first | ((with_reducible refine gate_callee (f := 36) rfl ?_); refine goesL_ (some 19) rfl rfl Try.func36 (by kernel_rfl) rfl #[.slice A0 l0.length c0, .int .i64 1048576] rfl (by (try simp only [List.map_toArray, List.map_cons, List.map_nil]); first | done | rfl | (simp only [List.length_drop, List.length_take]; rfl)) ?_; (with_reducible refine (laws_szKeeperHostS.calls k _ _ l0 1048576 t201 _ ?side1 ?side2 A4.out).mono ?_); (case side1 => exact Kd.C_below HR0.out (by repeat (first | (with_reducible first | exact HB.out | apply below_alloc | apply pw_below_drewN | apply below_drew1) | exact HB.out))); (case side2 => exact HC0.out); rintro e wv1 ⟨rfl, hb⟩; refine ⟨_, rfl, ?_⟩; have hkW := (show Kept w _ (fun k_ => False) from by repeat (first | (with_reducible first | exact Kept.refl _ _ | apply Kept.alloc | apply Kept.drewN | apply Kept.drew) | exact Kept.refl _ _)); have hk2 := Kept.below hkW hb; have n0_ := Aside0.mk (below_step (by repeat (first | (with_reducible first | exact HB.out | apply below_alloc | apply pw_below_drewN | apply below_drew1) | exact HB.out)) hb); have n1_ := Aside0.mk ((hk2.1 : w.heap.size ≤ wv1.heap.size)); clear HB; have HB := n0_; have HL1 := n1_; clear n0_ n1_; (try clear hb); (try clear hkW); (try clear hk2); (try clear hkp)) | ((with_reducible refine gate_callee (f := 38) rfl ?_); refine goesL_ (some 23) rfl rfl Try.func38 (by kernel_rfl) rfl #[.slice A0 l0.length c0] rfl (by (try simp only [List.map_toArray, List.map_cons, List.map_nil]); first | done | rfl | (simp only [List.length_drop, List.length_take]; rfl)) ?_; (with_reducible refine (laws_toKeeperHostS.calls k _ _ l0 t202 _ ?side1 ?side2 A6.out).mono ?_); (case side1 => exact Kd.C_below HR0.out (by repeat (first | (with_reducible first | exact HB.out | apply below_alloc | apply pw_below_drewN | apply below_drew1) | exact HB.out))); (case side2 => exact HC0.out); rintro e wv2 ⟨vq1_, rfl, ho0, hb⟩; refine ⟨_, rfl, ?_⟩; have hkW := (show Kept wv1 _ (fun k_ => False) from by repeat (first | (with_reducible first | exact Kept.refl _ _ | apply Kept.alloc | apply Kept.drewN | apply Kept.drew) | exact Kept.refl _ _)); have hk2 := Kept.below hkW hb; obtain ⟨Aq1_, cq1_, rfl⟩ := Kd.S_slice ho0; obtain ⟨okq1_, hoo0, hi0⟩ := lk_S ho0 (a := wv1.heap.size) (b := w.heap.size) hkW.1 (Nat.le_trans HB.out.size hkW.1); have n0_ := Aside0.mk (below_step (by repeat (first | (with_reducible first | exact HB.out | apply below_alloc | apply pw_below_drewN | apply below_drew1) | exact HB.out)) hb); have n1_ := Aside0.mk ((hk2.1 : wv1.heap.size ≤ wv2.heap.size)); have n2_ := Aside0.mk (hoo0); have n3_ := Aside0.mk (hi0); clear HB; have HB := n0_; have HL2 := n1_; have HOq1_ := n2_; have HIq1_ := n3_; clear n0_ n1_ n2_ n3_; (try clear hb); (try clear hkW); (try clear hk2); (try clear hkp); (try clear hoo0); (try clear hi0); (try clear ho0)) | ((with_reducible refine gate_callee (f := 39) rfl ?_); refine goesL_ (some 25) rfl rfl Try.func39 (by kernel_rfl) rfl #[.slice A1 l1.length c1] rfl (by (try simp only [List.map_toArray, List.map_cons, List.map_nil]); first | done | rfl | (simp only [List.length_drop, List.length_take]; rfl)) ?_; (with_reducible refine (laws_toIntS.calls k _ _ l1 t205 _ ?side1 ?side2 A7.out).mono ?_); (case side1 => exact Kd.C_below HR1.out (by repeat (first | (with_reducible first | exact HB.out | apply below_alloc | apply pw_below_drewN | apply below_drew1) | exact HB.out))); (case side2 => exact HC1.out); rintro e wv3 ⟨vq2_, rfl, ho0, hb⟩; refine ⟨_, rfl, ?_⟩; have hkW := (show Kept wv2 _ (fun k_ => False) from by repeat (first | (with_reducible first | exact Kept.refl _ _ | apply Kept.alloc | apply Kept.drewN | apply Kept.drew) | exact Kept.refl _ _)); have hk2 := Kept.below hkW hb; obtain ⟨Aq2_, cq2_, rfl⟩ := Kd.R_slice ho0; obtain ⟨okq2_, hoo0, hi0⟩ := lk_R ho0 (a := wv2.heap.size) (b := w.heap.size) hkW.1 (Nat.le_trans HB.out.size hkW.1); have n0_ := Aside0.mk (Kd.S_kept HOq1_.out hk2 (fun _ _ hs_ => hs_.elim)); have n1_ := Aside0.mk (below_step (by repeat (first | (with_reducible first | exact HB.out | apply below_alloc | apply pw_below_drewN | apply below_drew1) | exact HB.out)) hb); have n2_ := Aside0.mk ((hk2.1 : wv2.heap.size ≤ wv3.heap.size)); have n3_ := Aside0.mk (hoo0); have n4_ := Aside0.mk (hi0); clear HOq1_; clear HB; have HOq1_ := n0_; have HB := n1_; have HL3 := n2_; have HOq2_ := n3_; have HIq2_ := n4_; clear n0_ n1_ n2_ n3_ n4_; (try clear hb); (try clear hkW); (try clear hk2); (try clear hkp); (try clear hoo0); (try clear hi0); (try clear ho0)) | ((with_reducible refine gate_callee (f := 37) rfl ?_); refine goesL_ (some 26) rfl rfl Try.func37 (by kernel_rfl) rfl #[.slice Aq1_ t202.length cq1_, .slice Aq2_ t205.length cq2_] rfl (by (try simp only [List.map_toArray, List.map_cons, List.map_nil]); first | done | rfl | (simp only [List.length_drop, List.length_take]; rfl)) ?_; (with_reducible refine (spec_StolenShares.calls k _ _ t202 _ _ t205 t208 _ ?side1 ?side2 ?side3 ?side4 A8.out).mono ?_); (case side1 => exact (Kd.S_reads' (Kd.S_kept HOq1_.out (show Kept wv3 _ (fun k_ => False) from by repeat (first | (with_reducible first | exact Kept.refl _ _ | apply Kept.alloc | apply Kept.drewN | apply Kept.drew) | exact Kept.refl _ _)) (fun _ _ hs_ => hs_.elim))).2.2); (case side2 => have h1_ := (Kd.S_reads' HOq1_.out).1; have h2_ := (Kd.S_reads' HOq1_.out).2.1; omega); (case side3 => exact (Kd.R_reads' (Kd.R_kept HOq2_.out (show Kept wv3 _ (fun k_ => False) from by repeat (first | (with_reducible first | exact Kept.refl _ _ | apply Kept.alloc | apply Kept.drewN | apply Kept.drew) | exact Kept.refl _ _)) (fun _ _ hs_ => hs_.elim))).2.2); (case side4 => have h1_ := (Kd.R_reads' HOq2_.out).1; have h2_ := (Kd.R_reads' HOq2_.out).2.1; omega); rintro e wv4 ⟨vq3_, rfl, ho0, hb⟩; refine ⟨_, rfl, ?_⟩; have hkW := (show Kept wv3 _ (fun k_ => False) from by repeat (first | (with_reducible first | exact Kept.refl _ _ | apply Kept.alloc | apply Kept.drewN | apply Kept.drew) | exact Kept.refl _ _)); have hk2 := Kept.below hkW hb; obtain ⟨Aq3_, cq3_, rfl⟩ := Kd.R_slice ho0; obtain ⟨okq3_, hoo0, hi0⟩ := lk_R ho0 (a := wv3.heap.size) (b := w.heap.size) hkW.1 (Nat.le_trans HB.out.size hkW.1); have n0_ := Aside0.mk (Kd.S_kept HOq1_.out hk2 (fun _ _ hs_ => hs_.elim)); have n1_ := Aside0.mk (Kd.R_kept HOq2_.out hk2 (fun _ _ hs_ => hs_.elim)); have n2_ := Aside0.mk (below_step (by repeat (first | (with_reducible first | exact HB.out | apply below_alloc | apply pw_below_drewN | apply below_drew1) | exact HB.out)) hb); have n3_ := Aside0.mk ((hk2.1 : wv3.heap.size ≤ wv4.heap.size)); have n4_ := Aside0.mk (hoo0); have n5_ := Aside0.mk (hi0); clear HOq1_; clear HOq2_; clear HB; have HOq1_ := n0_; have HOq2_ := n1_; have HB := n2_; have HL4 := n3_; have HOq3_ := n4_; have HIq3_ := n5_; clear n0_ n1_ n2_ n3_ n4_ n5_; (try clear hb); (try clear hkW); (try clear hk2); (try clear hkp); (try clear hoo0); (try clear hi0); (try clear ho0)) | ((with_reducible refine gate_callee (f := 38) rfl ?_); refine goesL_ (some 28) rfl rfl Try.func38 (by kernel_rfl) rfl #[.slice A0 l0.length c0] rfl (by (try simp only [List.map_toArray, List.map_cons, List.map_nil]); first | done | rfl | (simp only [List.length_drop, List.length_take]; rfl)) ?_; (with_reducible refine (laws_toKeeperHostS.calls k _ _ l0 t211 _ ?side1 ?side2 A9.out).mono ?_); (case side1 => exact Kd.C_below HR0.out (by repeat (first | (with_reducible first | exact HB.out | apply below_alloc | apply pw_below_drewN | apply below_drew1) | exact HB.out))); (case side2 => exact HC0.out); rintro e wv5 ⟨vq4_, rfl, ho0, hb⟩; refine ⟨_, rfl, ?_⟩; have hkW := (show Kept wv4 _ (fun k_ => False) from by repeat (first | (with_reducible first | exact Kept.refl _ _ | apply Kept.alloc | apply Kept.drewN | apply Kept.drew) | exact Kept.refl _ _)); have hk2 := Kept.below hkW hb; obtain ⟨Aq4_, cq4_, rfl⟩ := Kd.S_slice ho0; obtain ⟨okq4_, hoo0, hi0⟩ := lk_S ho0 (a := wv4.heap.size) (b := w.heap.size) hkW.1 (Nat.le_trans HB.out.size hkW.1); have n0_ := Aside0.mk (Kd.S_kept HOq1_.out hk2 (fun _ _ hs_ => hs_.elim)); have n1_ := Aside0.mk (Kd.R_kept HOq2_.out hk2 (fun _ _ hs_ => hs_.elim)); have n2_ := Aside0.mk (Kd.R_kept HOq3_.out hk2 (fun _ _ hs_ => hs_.elim)); have n3_ := Aside0.mk (below_step (by repeat (first | (with_reducible first | exact HB.out | apply below_alloc | apply pw_below_drewN | apply below_drew1) | exact HB.out)) hb); have n4_ := Aside0.mk ((hk2.1 : wv4.heap.size ≤ wv5.heap.size)); have n5_ := Aside0.mk (hoo0); have n6_ := Aside0.mk (hi0); clear HOq1_; clear HOq2_; clear HOq3_; clear HB; have HOq1_ := n0_; have HOq2_ := n1_; have HOq3_ := n2_; have HB := n3_; have HL5 := n4_; have HOq4_ := n5_; have HIq4_ := n6_; clear n0_ n1_ n2_ n3_ n4_ n5_ n6_; (try clear hb); (try clear hkW); (try clear hk2); (try clear hkp); (try clear hoo0); (try clear hi0); (try clear ho0)) | ((with_reducible refine gate_callee (f := 39) rfl ?_); refine goesL_ (some 30) rfl rfl Try.func39 (by kernel_rfl) rfl #[.slice A1 l1.length c1] rfl (by (try simp only [List.map_toArray, List.map_cons, List.map_nil]); first | done | rfl | (simp only [List.length_drop, List.length_take]; rfl)) ?_; (with_reducible refine (laws_toIntS.calls k _ _ l1 t214 _ ?side1 ?side2 A10.out).mono ?_); (case side1 => exact Kd.C_below HR1.out (by repeat (first | (with_reducible first | exact HB.out | apply below_alloc | apply pw_below_drewN | apply below_drew1) | exact HB.out))); (case side2 => exact HC1.out); rintro e wv6 ⟨vq5_, rfl, ho0, hb⟩; refine ⟨_, rfl, ?_⟩; have hkW := (show Kept wv5 _ (fun k_ => False) from by repeat (first | (with_reducible first | exact Kept.refl _ _ | apply Kept.alloc | apply Kept.drewN | apply Kept.drew) | exact Kept.refl _ _)); have hk2 := Kept.below hkW hb; obtain ⟨Aq5_, cq5_, rfl⟩ := Kd.R_slice ho0; obtain ⟨okq5_, hoo0, hi0⟩ := lk_R ho0 (a := wv5.heap.size) (b := w.heap.size) hkW.1 (Nat.le_trans HB.out.size hkW.1); have n0_ := Aside0.mk (Kd.S_kept HOq1_.out hk2 (fun _ _ hs_ => hs_.elim)); have n1_ := Aside0.mk (Kd.R_kept HOq2_.out hk2 (fun _ _ hs_ => hs_.elim)); have n2_ := Aside0.mk (Kd.R_kept HOq3_.out hk2 (fun _ _ hs_ => hs_.elim)); have n3_ := Aside0.mk (Kd.S_kept HOq4_.out hk2 (fun _ _ hs_ => hs_.elim)); have n4_ := Aside0.mk (below_step (by repeat (first | (with_reducible first | exact HB.out | apply below_alloc | apply pw_below_drewN | apply below_drew1) | exact HB.out)) hb); have n5_ := Aside0.mk ((hk2.1 : wv5.heap.size ≤ wv6.heap.size)); have n6_ := Aside0.mk (hoo0); have n7_ := Aside0.mk (hi0); clear HOq1_; clear HOq2_; clear HOq3_; clear HOq4_; clear HB; have HOq1_ := n0_; have HOq2_ := n1_; have HOq3_ := n2_; have HOq4_ := n3_; have HB := n4_; have HL6 := n5_; have HOq5_ := n6_; have HIq5_ := n7_; clear n0_ n1_ n2_ n3_ n4_ n5_ n6_ n7_; (try clear hb); (try clear hkW); (try clear hk2); (try clear hkp); (try clear hoo0); (try clear hi0); (try clear ho0)) | ((with_reducible refine gate_callee (f := 40) rfl ?_); refine goesL_ (some 33) rfl rfl Try.func40 (by kernel_rfl) rfl #[.slice Aq4_ t211.length cq4_, .slice Aq5_ t214.length cq5_] rfl (by (try simp only [List.map_toArray, List.map_cons, List.map_nil]); first | done | rfl | (simp only [List.length_drop, List.length_take]; rfl)) ?_; (with_reducible refine (impl_StolenShares.calls k _ _ t211 _ _ t214 t217 _ ?side1 ?side2 ?side3 ?side4 A11.out).mono ?_); (case side1 => exact (Kd.S_reads' (Kd.S_kept HOq4_.out (show Kept wv6 _ (fun k_ => False) from by repeat (first | (with_reducible first | exact Kept.refl _ _ | apply Kept.alloc | apply Kept.drewN | apply Kept.drew) | exact Kept.refl _ _)) (fun _ _ hs_ => hs_.elim))).2.2); (case side2 => have h1_ := (Kd.S_reads' HOq4_.out).1; have h2_ := (Kd.S_reads' HOq4_.out).2.1; omega); (case side3 => exact (Kd.R_reads' (Kd.R_kept HOq5_.out (show Kept wv6 _ (fun k_ => False) from by repeat (first | (with_reducible first | exact Kept.refl _ _ | apply Kept.alloc | apply Kept.drewN | apply Kept.drew) | exact Kept.refl _ _)) (fun _ _ hs_ => hs_.elim))).2.2); (case side4 => have h1_ := (Kd.R_reads' HOq5_.out).1; have h2_ := (Kd.R_reads' HOq5_.out).2.1; omega); rintro e wv7 ⟨vq6_, rfl, ho0, hb⟩; refine ⟨_, rfl, ?_⟩; have hkW := (show Kept wv6 _ (fun k_ => False) from by repeat (first | (with_reducible first | exact Kept.refl _ _ | apply Kept.alloc | apply Kept.drewN | apply Kept.drew) | exact Kept.refl _ _)); have hk2 := Kept.below hkW hb; obtain ⟨Aq6_, cq6_, rfl⟩ := Kd.R_slice ho0; obtain ⟨okq6_, hoo0, hi0⟩ := lk_R ho0 (a := wv6.heap.size) (b := w.heap.size) hkW.1 (Nat.le_trans HB.out.size hkW.1); have n0_ := Aside0.mk (Kd.S_kept HOq1_.out hk2 (fun _ _ hs_ => hs_.elim)); have n1_ := Aside0.mk (Kd.R_kept HOq2_.out hk2 (fun _ _ hs_ => hs_.elim)); have n2_ := Aside0.mk (Kd.R_kept HOq3_.out hk2 (fun _ _ hs_ => hs_.elim)); have n3_ := Aside0.mk (Kd.S_kept HOq4_.out hk2 (fun _ _ hs_ => hs_.elim)); have n4_ := Aside0.mk (Kd.R_kept HOq5_.out hk2 (fun _ _ hs_ => hs_.elim)); have n5_ := Aside0.mk (below_step (by repeat (first | (with_reducible first | exact HB.out | apply below_alloc | apply pw_below_drewN | apply below_drew1) | exact HB.out)) hb); have n6_ := Aside0.mk ((hk2.1 : wv6.heap.size ≤ wv7.heap.size)); have n7_ := Aside0.mk (hoo0); have n8_ := Aside0.mk (hi0); clear HOq1_; clear HOq2_; clear HOq3_; clear HOq4_; clear HOq5_; clear HB; have HOq1_ := n0_; have HOq2_ := n1_; have HOq3_ := n2_; have HOq4_ := n3_; have HOq5_ := n4_; have HB := n5_; have HL7 := n6_; have HOq6_ := n7_; have HIq6_ := n8_; clear n0_ n1_ n2_ n3_ n4_ n5_ n6_ n7_ n8_; (try clear hb); (try clear hkW); (try clear hk2); (try clear hkp); (try clear hoo0); (try clear hi0); (try clear ho0)) | ((with_reducible refine gate_callee (f := 41) rfl ?_); refine goesL_ (some 36) rfl rfl Try.func41 (by kernel_rfl) rfl #[.slice Aq6_ t217.length cq6_, .slice Aq3_ t208.length cq3_] rfl (by (try simp only [List.map_toArray, List.map_cons, List.map_nil]); first | done | rfl | (simp only [List.length_drop, List.length_take]; rfl)) ?_; (with_reducible refine (laws_eqShareS.calls k _ _ t217 _ _ t208 true _ ?side1 ?side2 ?side3 ?side4 A12.out).mono ?_); (case side1 => exact (Kd.R_reads' (Kd.R_kept HOq6_.out (show Kept wv7 _ (fun k_ => False) from by repeat (first | (with_reducible first | exact Kept.refl _ _ | apply Kept.alloc | apply Kept.drewN | apply Kept.drew) | exact Kept.refl _ _)) (fun _ _ hs_ => hs_.elim))).2.2); (case side2 => have h1_ := (Kd.R_reads' HOq6_.out).1; have h2_ := (Kd.R_reads' HOq6_.out).2.1; omega); (case side3 => exact (Kd.R_reads' (Kd.R_kept HOq3_.out (show Kept wv7 _ (fun k_ => False) from by repeat (first | (with_reducible first | exact Kept.refl _ _ | apply Kept.alloc | apply Kept.drewN | apply Kept.drew) | exact Kept.refl _ _)) (fun _ _ hs_ => hs_.elim))).2.2); (case side4 => have h1_ := (Kd.R_reads' HOq3_.out).1; have h2_ := (Kd.R_reads' HOq3_.out).2.1; omega); rintro e wv8 ⟨rfl, hb⟩; refine ⟨_, rfl, ?_⟩; have hkW := (show Kept wv7 _ (fun k_ => False) from by repeat (first | (with_reducible first | exact Kept.refl _ _ | apply Kept.alloc | apply Kept.drewN | apply Kept.drew) | exact Kept.refl _ _)); have hk2 := Kept.below hkW hb; have n0_ := Aside0.mk (Kd.S_kept HOq1_.out hk2 (fun _ _ hs_ => hs_.elim)); have n1_ := Aside0.mk (Kd.R_kept HOq2_.out hk2 (fun _ _ hs_ => hs_.elim)); have n2_ := Aside0.mk (Kd.R_kept HOq3_.out hk2 (fun _ _ hs_ => hs_.elim)); have n3_ := Aside0.mk (Kd.S_kept HOq4_.out hk2 (fun _ _ hs_ => hs_.elim)); have n4_ := Aside0.mk (Kd.R_kept HOq5_.out hk2 (fun _ _ hs_ => hs_.elim)); have n5_ := Aside0.mk (Kd.R_kept HOq6_.out hk2 (fun _ _ hs_ => hs_.elim)); have n6_ := Aside0.mk (below_step (by repeat (first | (with_reducible first | exact HB.out | apply below_alloc | apply pw_below_drewN | apply below_drew1) | exact HB.out)) hb); have n7_ := Aside0.mk ((hk2.1 : wv7.heap.size ≤ wv8.heap.size)); clear HOq1_; clear HOq2_; clear HOq3_; clear HOq4_; clear HOq5_; clear HOq6_; clear HB; have HOq1_ := n0_; have HOq2_ := n1_; have HOq3_ := n2_; have HOq4_ := n3_; have HOq5_ := n4_; have HOq6_ := n5_; have HB := n6_; have HL8 := n7_; clear n0_ n1_ n2_ n3_ n4_ n5_ n6_ n7_; (try clear hb); (try clear hkW); (try clear hk2); (try clear hkp)) | ((with_reducible refine gate_callee (f := 38) rfl ?_); refine goesL_ (some 40) rfl rfl Try.func38 (by kernel_rfl) rfl #[.slice A0 l0.length c0] rfl (by (try simp only [List.map_toArray, List.map_cons, List.map_nil]); first | done | rfl | (simp only [List.length_drop, List.length_take]; rfl)) ?_; (with_reducible refine (laws_toKeeperHostS.calls k _ _ l0 t221 _ ?side1 ?side2 A14.out).mono ?_); (case side1 => exact Kd.C_below HR0.out (by repeat (first | (with_reducible first | exact HB.out | apply below_alloc | apply pw_below_drewN | apply below_drew1) | exact HB.out))); (case side2 => exact HC0.out); rintro e wv9 ⟨vq7_, rfl, ho0, hb⟩; refine ⟨_, rfl, ?_⟩; have hkW := (show Kept wv8 _ (fun k_ => False) from by repeat (first | (with_reducible first | exact Kept.refl _ _ | apply Kept.alloc | apply Kept.drewN | apply Kept.drew) | exact Kept.refl _ _)); have hk2 := Kept.below hkW hb; obtain ⟨Aq7_, cq7_, rfl⟩ := Kd.S_slice ho0; obtain ⟨okq7_, hoo0, hi0⟩ := lk_S ho0 (a := wv8.heap.size) (b := w.heap.size) hkW.1 (Nat.le_trans HB.out.size hkW.1); have n0_ := Aside0.mk (Kd.S_kept HOq1_.out hk2 (fun _ _ hs_ => hs_.elim)); have n1_ := Aside0.mk (Kd.R_kept HOq2_.out hk2 (fun _ _ hs_ => hs_.elim)); have n2_ := Aside0.mk (Kd.R_kept HOq3_.out hk2 (fun _ _ hs_ => hs_.elim)); have n3_ := Aside0.mk (Kd.S_kept HOq4_.out hk2 (fun _ _ hs_ => hs_.elim)); have n4_ := Aside0.mk (Kd.R_kept HOq5_.out hk2 (fun _ _ hs_ => hs_.elim)); have n5_ := Aside0.mk (Kd.R_kept HOq6_.out hk2 (fun _ _ hs_ => hs_.elim)); have n6_ := Aside0.mk (below_step (by repeat (first | (with_reducible first | exact HB.out | apply below_alloc | apply pw_below_drewN | apply below_drew1) | exact HB.out)) hb); have n7_ := Aside0.mk ((hk2.1 : wv8.heap.size ≤ wv9.heap.size)); have n8_ := Aside0.mk (hoo0); have n9_ := Aside0.mk (hi0); clear HOq1_; clear HOq2_; clear HOq3_; clear HOq4_; clear HOq5_; clear HOq6_; clear HB; have HOq1_ := n0_; have HOq2_ := n1_; have HOq3_ := n2_; have HOq4_ := n3_; have HOq5_ := n4_; have HOq6_ := n5_; have HB := n6_; have HL9 := n7_; have HOq7_ := n8_; have HIq7_ := n9_; clear n0_ n1_ n2_ n3_ n4_ n5_ n6_ n7_ n8_ n9_; (try clear hb); (try clear hkW); (try clear hk2); (try clear hkp); (try clear hoo0); (try clear hi0); (try clear ho0)) | ((with_reducible refine gate_callee (f := 42) rfl ?_); refine goesL_ (some 41) rfl rfl Try.func42 (by kernel_rfl) rfl #[.slice Aq4_ t211.length cq4_, .slice Aq7_ t221.length cq7_] rfl (by (try simp only [List.map_toArray, List.map_cons, List.map_nil]); first | done | rfl | (simp only [List.length_drop, List.length_take]; rfl)) ?_; (with_reducible refine (laws_eqKeeperHostS.calls k _ _ t211 _ _ t221 true _ ?side1 ?side2 ?side3 ?side4 A15.out).mono ?_); (case side1 => exact (Kd.S_reads' (Kd.S_kept HOq4_.out (show Kept wv9 _ (fun k_ => False) from by repeat (first | (with_reducible first | exact Kept.refl _ _ | apply Kept.alloc | apply Kept.drewN | apply Kept.drew) | exact Kept.refl _ _)) (fun _ _ hs_ => hs_.elim))).2.2); (case side2 => have h1_ := (Kd.S_reads' HOq4_.out).1; have h2_ := (Kd.S_reads' HOq4_.out).2.1; omega); (case side3 => exact (Kd.S_reads' (Kd.S_kept HOq7_.out (show Kept wv9 _ (fun k_ => False) from by repeat (first | (with_reducible first | exact Kept.refl _ _ | apply Kept.alloc | apply Kept.drewN | apply Kept.drew) | exact Kept.refl _ _)) (fun _ _ hs_ => hs_.elim))).2.2); (case side4 => have h1_ := (Kd.S_reads' HOq7_.out).1; have h2_ := (Kd.S_reads' HOq7_.out).2.1; omega); rintro e wv10 ⟨rfl, hb⟩; refine ⟨_, rfl, ?_⟩; have hkW := (show Kept wv9 _ (fun k_ => False) from by repeat (first | (with_reducible first | exact Kept.refl _ _ | apply Kept.alloc | apply Kept.drewN | apply Kept.drew) | exact Kept.refl _ _)); have hk2 := Kept.below hkW hb; have n0_ := Aside0.mk (Kd.S_kept HOq1_.out hk2 (fun _ _ hs_ => hs_.elim)); have n1_ := Aside0.mk (Kd.R_kept HOq2_.out hk2 (fun _ _ hs_ => hs_.elim)); have n2_ := Aside0.mk (Kd.R_kept HOq3_.out hk2 (fun _ _ hs_ => hs_.elim)); have n3_ := Aside0.mk (Kd.S_kept HOq4_.out hk2 (fun _ _ hs_ => hs_.elim)); have n4_ := Aside0.mk (Kd.R_kept HOq5_.out hk2 (fun _ _ hs_ => hs_.elim)); have n5_ := Aside0.mk (Kd.R_kept HOq6_.out hk2 (fun _ _ hs_ => hs_.elim)); have n6_ := Aside0.mk (Kd.S_kept HOq7_.out hk2 (fun _ _ hs_ => hs_.elim)); have n7_ := Aside0.mk (below_step (by repeat (first | (with_reducible first | exact HB.out | apply below_alloc | apply pw_below_drewN | apply below_drew1) | exact HB.out)) hb); have n8_ := Aside0.mk ((hk2.1 : wv9.heap.size ≤ wv10.heap.size)); clear HOq1_; clear HOq2_; clear HOq3_; clear HOq4_; clear HOq5_; clear HOq6_; clear HOq7_; clear HB; have HOq1_ := n0_; have HOq2_ := n1_; have HOq3_ := n2_; have HOq4_ := n3_; have HOq5_ := n4_; have HOq6_ := n5_; have HOq7_ := n6_; have HB := n7_; have HL10 := n8_; clear n0_ n1_ n2_ n3_ n4_ n5_ n6_ n7_ n8_; (try clear hb); (try clear hkW); (try clear hk2); (try clear hkp)) | ((with_reducible refine gate_callee (f := 39) rfl ?_); refine goesL_ (some 45) rfl rfl Try.func39 (by kernel_rfl) rfl #[.slice A1 l1.length c1] rfl (by (try simp only [List.map_toArray, List.map_cons, List.map_nil]); first | done | rfl | (simp only [List.length_drop, List.length_take]; rfl)) ?_; (with_reducible refine (laws_toIntS.calls k _ _ l1 t225 _ ?side1 ?side2 A17.out).mono ?_); (case side1 => exact Kd.C_below HR1.out (by repeat (first | (with_reducible first | exact HB.out | apply below_alloc | apply pw_below_drewN | apply below_drew1) | exact HB.out))); (case side2 => exact HC1.out); rintro e wv11 ⟨vq8_, rfl, ho0, hb⟩; refine ⟨_, rfl, ?_⟩; have hkW := (show Kept wv10 _ (fun k_ => False) from by repeat (first | (with_reducible first | exact Kept.refl _ _ | apply Kept.alloc | apply Kept.drewN | apply Kept.drew) | exact Kept.refl _ _)); have hk2 := Kept.below hkW hb; obtain ⟨Aq8_, cq8_, rfl⟩ := Kd.R_slice ho0; obtain ⟨okq8_, hoo0, hi0⟩ := lk_R ho0 (a := wv10.heap.size) (b := w.heap.size) hkW.1 (Nat.le_trans HB.out.size hkW.1); have n0_ := Aside0.mk (Kd.S_kept HOq1_.out hk2 (fun _ _ hs_ => hs_.elim)); have n1_ := Aside0.mk (Kd.R_kept HOq2_.out hk2 (fun _ _ hs_ => hs_.elim)); have n2_ := Aside0.mk (Kd.R_kept HOq3_.out hk2 (fun _ _ hs_ => hs_.elim)); have n3_ := Aside0.mk (Kd.S_kept HOq4_.out hk2 (fun _ _ hs_ => hs_.elim)); have n4_ := Aside0.mk (Kd.R_kept HOq5_.out hk2 (fun _ _ hs_ => hs_.elim)); have n5_ := Aside0.mk (Kd.R_kept HOq6_.out hk2 (fun _ _ hs_ => hs_.elim)); have n6_ := Aside0.mk (Kd.S_kept HOq7_.out hk2 (fun _ _ hs_ => hs_.elim)); have n7_ := Aside0.mk (below_step (by repeat (first | (with_reducible first | exact HB.out | apply below_alloc | apply pw_below_drewN | apply below_drew1) | exact HB.out)) hb); have n8_ := Aside0.mk ((hk2.1 : wv10.heap.size ≤ wv11.heap.size)); have n9_ := Aside0.mk (hoo0); have n10_ := Aside0.mk (hi0); clear HOq1_; clear HOq2_; clear HOq3_; clear HOq4_; clear HOq5_; clear HOq6_; clear HOq7_; clear HB; have HOq1_ := n0_; have HOq2_ := n1_; have HOq3_ := n2_; have HOq4_ := n3_; have HOq5_ := n4_; have HOq6_ := n5_; have HOq7_ := n6_; have HB := n7_; have HL11 := n8_; have HOq8_ := n9_; have HIq8_ := n10_; clear n0_ n1_ n2_ n3_ n4_ n5_ n6_ n7_ n8_ n9_ n10_; (try clear hb); (try clear hkW); (try clear hk2); (try clear hkp); (try clear hoo0); (try clear hi0); (try clear ho0)) | ((with_reducible refine gate_callee (f := 43) rfl ?_); refine goesL_ (some 46) rfl rfl Try.func43 (by kernel_rfl) rfl #[.slice Aq5_ t214.length cq5_, .slice Aq8_ t225.length cq8_] rfl (by (try simp only [List.map_toArray, List.map_cons, List.map_nil]); first | done | rfl | (simp only [List.length_drop, List.length_take]; rfl)) ?_; (with_reducible refine (laws_eqIntS.calls k _ _ t214 _ _ t225 true _ ?side1 ?side2 ?side3 ?side4 A18.out).mono ?_); (case side1 => exact (Kd.R_reads' (Kd.R_kept HOq5_.out (show Kept wv11 _ (fun k_ => False) from by repeat (first | (with_reducible first | exact Kept.refl _ _ | apply Kept.alloc | apply Kept.drewN | apply Kept.drew) | exact Kept.refl _ _)) (fun _ _ hs_ => hs_.elim))).2.2); (case side2 => have h1_ := (Kd.R_reads' HOq5_.out).1; have h2_ := (Kd.R_reads' HOq5_.out).2.1; omega); (case side3 => exact (Kd.R_reads' (Kd.R_kept HOq8_.out (show Kept wv11 _ (fun k_ => False) from by repeat (first | (with_reducible first | exact Kept.refl _ _ | apply Kept.alloc | apply Kept.drewN | apply Kept.drew) | exact Kept.refl _ _)) (fun _ _ hs_ => hs_.elim))).2.2); (case side4 => have h1_ := (Kd.R_reads' HOq8_.out).1; have h2_ := (Kd.R_reads' HOq8_.out).2.1; omega); rintro e wv12 ⟨rfl, hd⟩; have hb := hd.below; clear hd; refine ⟨_, rfl, ?_⟩; have hkW := (show Kept wv11 _ (fun k_ => False) from by repeat (first | (with_reducible first | exact Kept.refl _ _ | apply Kept.alloc | apply Kept.drewN | apply Kept.drew) | exact Kept.refl _ _)); have hk2 := Kept.below hkW hb; have n0_ := Aside0.mk (Kd.S_kept HOq1_.out hk2 (fun _ _ hs_ => hs_.elim)); have n1_ := Aside0.mk (Kd.R_kept HOq2_.out hk2 (fun _ _ hs_ => hs_.elim)); have n2_ := Aside0.mk (Kd.R_kept HOq3_.out hk2 (fun _ _ hs_ => hs_.elim)); have n3_ := Aside0.mk (Kd.S_kept HOq4_.out hk2 (fun _ _ hs_ => hs_.elim)); have n4_ := Aside0.mk (Kd.R_kept HOq5_.out hk2 (fun _ _ hs_ => hs_.elim)); have n5_ := Aside0.mk (Kd.R_kept HOq6_.out hk2 (fun _ _ hs_ => hs_.elim)); have n6_ := Aside0.mk (Kd.S_kept HOq7_.out hk2 (fun _ _ hs_ => hs_.elim)); have n7_ := Aside0.mk (Kd.R_kept HOq8_.out hk2 (fun _ _ hs_ => hs_.elim)); have n8_ := Aside0.mk (below_step (by repeat (first | (with_reducible first | exact HB.out | apply below_alloc | apply pw_below_drewN | apply below_drew1) | exact HB.out)) hb); have n9_ := Aside0.mk ((hk2.1 : wv11.heap.size ≤ wv12.heap.size)); clear HOq1_; clear HOq2_; clear HOq3_; clear HOq4_; clear HOq5_; clear HOq6_; clear HOq7_; clear HOq8_; clear HB; have HOq1_ := n0_; have HOq2_ := n1_; have HOq3_ := n2_; have HOq4_ := n3_; have HOq5_ := n4_; have HOq6_ := n5_; have HOq7_ := n6_; have HOq8_ := n7_; have HB := n8_; have HL12 := n9_; clear n0_ n1_ n2_ n3_ n4_ n5_ n6_ n7_ n8_ n9_; (try clear hb); (try clear hkW); (try clear hk2); (try clear hkp)) | ((with_reducible refine gate_callee (f := 44) rfl ?_); refine goesL_ (some 50) rfl rfl Try.func44 (by kernel_rfl) rfl #[.slice Aq4_ t211.length cq4_, .int .i64 1] rfl (by (try simp only [List.map_toArray, List.map_cons, List.map_nil]); first | done | rfl | (simp only [List.length_drop, List.length_take]; rfl)) ?_; (with_reducible refine (laws_markKeeperHostS.calls k (fun k_ => okq4_ k_) (.slice Aq4_ t211.length cq4_) t211 1 t229 t230 w _ ?side1 ?side2 A20.out).mono ?_); (case side1 => repeat (first | (with_reducible first | exact HB.out | apply below_alloc | apply pw_below_drewN | apply below_drew1) | exact HB.out)); (case side2 => exact (Kd.S_kept HOq4_.out (show Kept wv12 _ (fun k_ => False) from by repeat (first | (with_reducible first | exact Kept.refl _ _ | apply Kept.alloc | apply Kept.drewN | apply Kept.drew) | exact Kept.refl _ _)) (fun _ _ hs_ => hs_.elim))); rintro e wv13 ⟨rfl, hy0, hb, hkp⟩; refine ⟨_, rfl, ?_⟩; have hkW := (show Kept wv12 _ (fun k_ => False) from by repeat (first | (with_reducible first | exact Kept.refl _ _ | apply Kept.alloc | apply Kept.drewN | apply Kept.drew) | exact Kept.refl _ _)); have n0_ := Aside0.mk (Kd.S_kept (Kd.S_kept HOq1_.out hkW (fun _ _ hs_ => hs_.elim)) hkp (fun k_ hk_ hs_ => (have i_ := HIq1_.out k_ hk_; (have j_ := HIq4_.out _ hs_; by have z0_ := HL1.out; have z1_ := HL2.out; have z2_ := HL3.out; have z3_ := HL4.out; have z4_ := HL5.out; have z5_ := HL6.out; have z6_ := HL7.out; have z7_ := HL8.out; have z8_ := HL9.out; have z9_ := HL10.out; have z10_ := HL11.out; have z11_ := HL12.out; omega)))); have n1_ := Aside0.mk (Kd.R_kept (Kd.R_kept HOq2_.out hkW (fun _ _ hs_ => hs_.elim)) hkp (fun k_ hk_ hs_ => (have i_ := HIq2_.out k_ hk_; (have j_ := HIq4_.out _ hs_; by have z0_ := HL1.out; have z1_ := HL2.out; have z2_ := HL3.out; have z3_ := HL4.out; have z4_ := HL5.out; have z5_ := HL6.out; have z6_ := HL7.out; have z7_ := HL8.out; have z8_ := HL9.out; have z9_ := HL10.out; have z10_ := HL11.out; have z11_ := HL12.out; omega)))); have n2_ := Aside0.mk (Kd.R_kept (Kd.R_kept HOq3_.out hkW (fun _ _ hs_ => hs_.elim)) hkp (fun k_ hk_ hs_ => (have i_ := HIq3_.out k_ hk_; (have j_ := HIq4_.out _ hs_; by have z0_ := HL1.out; have z1_ := HL2.out; have z2_ := HL3.out; have z3_ := HL4.out; have z4_ := HL5.out; have z5_ := HL6.out; have z6_ := HL7.out; have z7_ := HL8.out; have z8_ := HL9.out; have z9_ := HL10.out; have z10_ := HL11.out; have z11_ := HL12.out; omega)))); have n3_ := Aside0.mk (hy0); have n4_ := Aside0.mk (Kd.R_kept (Kd.R_kept HOq5_.out hkW (fun _ _ hs_ => hs_.elim)) hkp (fun k_ hk_ hs_ => (have i_ := HIq5_.out k_ hk_; (have j_ := HIq4_.out _ hs_; by have z0_ := HL1.out; have z1_ := HL2.out; have z2_ := HL3.out; have z3_ := HL4.out; have z4_ := HL5.out; have z5_ := HL6.out; have z6_ := HL7.out; have z7_ := HL8.out; have z8_ := HL9.out; have z9_ := HL10.out; have z10_ := HL11.out; have z11_ := HL12.out; omega)))); have n5_ := Aside0.mk (Kd.R_kept (Kd.R_kept HOq6_.out hkW (fun _ _ hs_ => hs_.elim)) hkp (fun k_ hk_ hs_ => (have i_ := HIq6_.out k_ hk_; (have j_ := HIq4_.out _ hs_; by have z0_ := HL1.out; have z1_ := HL2.out; have z2_ := HL3.out; have z3_ := HL4.out; have z4_ := HL5.out; have z5_ := HL6.out; have z6_ := HL7.out; have z7_ := HL8.out; have z8_ := HL9.out; have z9_ := HL10.out; have z10_ := HL11.out; have z11_ := HL12.out; omega)))); have n6_ := Aside0.mk (Kd.S_kept (Kd.S_kept HOq7_.out hkW (fun _ _ hs_ => hs_.elim)) hkp (fun k_ hk_ hs_ => (have i_ := HIq7_.out k_ hk_; (have j_ := HIq4_.out _ hs_; by have z0_ := HL1.out; have z1_ := HL2.out; have z2_ := HL3.out; have z3_ := HL4.out; have z4_ := HL5.out; have z5_ := HL6.out; have z6_ := HL7.out; have z7_ := HL8.out; have z8_ := HL9.out; have z9_ := HL10.out; have z10_ := HL11.out; have z11_ := HL12.out; omega)))); have n7_ := Aside0.mk (Kd.R_kept (Kd.R_kept HOq8_.out hkW (fun _ _ hs_ => hs_.elim)) hkp (fun k_ hk_ hs_ => (have i_ := HIq8_.out k_ hk_; (have j_ := HIq4_.out _ hs_; by have z0_ := HL1.out; have z1_ := HL2.out; have z2_ := HL3.out; have z3_ := HL4.out; have z4_ := HL5.out; have z5_ := HL6.out; have z6_ := HL7.out; have z7_ := HL8.out; have z8_ := HL9.out; have z9_ := HL10.out; have z10_ := HL11.out; have z11_ := HL12.out; omega)))); have n8_ := Aside0.mk (hb); have n9_ := Aside0.mk ((Nat.le_trans hkW.1 hkp.1 : wv12.heap.size ≤ wv13.heap.size)); clear HOq1_; clear HOq2_; clear HOq3_; clear HOq4_; clear HOq5_; clear HOq6_; clear HOq7_; clear HOq8_; clear HB; have HOq1_ := n0_; have HOq2_ := n1_; have HOq3_ := n2_; have HOq4_ := n3_; have HOq5_ := n4_; have HOq6_ := n5_; have HOq7_ := n6_; have HOq8_ := n7_; have HB := n8_; have HL13 := n9_; clear n0_ n1_ n2_ n3_ n4_ n5_ n6_ n7_ n8_ n9_; (try clear hb); (try clear hkW); (try clear hk2); (try clear hkp); (try clear hy0)) | ((with_reducible refine gate_callee (f := 45) rfl ?_); refine goesL_ (some 53) rfl rfl Try.func45 (by kernel_rfl) rfl #[.slice Aq5_ t214.length cq5_, .int .i64 t229] rfl (by (try simp only [List.map_toArray, List.map_cons, List.map_nil]); first | done | rfl | (simp only [List.length_drop, List.length_take]; rfl)) ?_; (with_reducible refine (laws_markIntS.calls k (fun k_ => some k_ = (.slice Aq5_ t214.length cq5_ : Value).ownBlock ∧ okq5_ k_) (.slice Aq5_ t214.length cq5_) t214 t229 t231 t232 w _ ?side1 ?side2 A21.out).mono ?_); (case side1 => repeat (first | (with_reducible first | exact HB.out | apply below_alloc | apply pw_below_drewN | apply below_drew1) | exact HB.out)); (case side2 => exact Kd.R_tight2 rfl (Kd.R_kept HOq5_.out (show Kept wv13 _ (fun k_ => False) from by repeat (first | (with_reducible first | exact Kept.refl _ _ | apply Kept.alloc | apply Kept.drewN | apply Kept.drew) | exact Kept.refl _ _)) (fun _ _ hs_ => hs_.elim))); rintro e wv14 ⟨rfl, hy0, hb, hkp⟩; refine ⟨_, rfl, ?_⟩; have hkW := (show Kept wv13 _ (fun k_ => False) from by repeat (first | (with_reducible first | exact Kept.refl _ _ | apply Kept.alloc | apply Kept.drewN | apply Kept.drew) | exact Kept.refl _ _)); have n0_ := Aside0.mk (Kd.S_kept (Kd.S_kept HOq1_.out hkW (fun _ _ hs_ => hs_.elim)) hkp (fun k_ hk_ hs_ => (have i_ := HIq1_.out k_ hk_; (have j_ := HIq5_.out _ (hs_).2; by have z0_ := HL1.out; have z1_ := HL2.out; have z2_ := HL3.out; have z3_ := HL4.out; have z4_ := HL5.out; have z5_ := HL6.out; have z6_ := HL7.out; have z7_ := HL8.out; have z8_ := HL9.out; have z9_ := HL10.out; have z10_ := HL11.out; have z11_ := HL12.out; have z12_ := HL13.out; omega)))); have n1_ := Aside0.mk (Kd.R_kept (Kd.R_kept HOq2_.out hkW (fun _ _ hs_ => hs_.elim)) hkp (fun k_ hk_ hs_ => (have i_ := HIq2_.out k_ hk_; (have j_ := HIq5_.out _ (hs_).2; by have z0_ := HL1.out; have z1_ := HL2.out; have z2_ := HL3.out; have z3_ := HL4.out; have z4_ := HL5.out; have z5_ := HL6.out; have z6_ := HL7.out; have z7_ := HL8.out; have z8_ := HL9.out; have z9_ := HL10.out; have z10_ := HL11.out; have z11_ := HL12.out; have z12_ := HL13.out; omega)))); have n2_ := Aside0.mk (Kd.R_kept (Kd.R_kept HOq3_.out hkW (fun _ _ hs_ => hs_.elim)) hkp (fun k_ hk_ hs_ => (have i_ := HIq3_.out k_ hk_; (have j_ := HIq5_.out _ (hs_).2; by have z0_ := HL1.out; have z1_ := HL2.out; have z2_ := HL3.out; have z3_ := HL4.out; have z4_ := HL5.out; have z5_ := HL6.out; have z6_ := HL7.out; have z7_ := HL8.out; have z8_ := HL9.out; have z9_ := HL10.out; have z10_ := HL11.out; have z11_ := HL12.out; have z12_ := HL13.out; omega)))); have n3_ := Aside0.mk (Kd.S_kept (Kd.S_kept HOq4_.out hkW (fun _ _ hs_ => hs_.elim)) hkp (fun k_ hk_ hs_ => (have i_ := HIq4_.out k_ hk_; (have j_ := HIq5_.out _ (hs_).2; by have z0_ := HL1.out; have z1_ := HL2.out; have z2_ := HL3.out; have z3_ := HL4.out; have z4_ := HL5.out; have z5_ := HL6.out; have z6_ := HL7.out; have z7_ := HL8.out; have z8_ := HL9.out; have z9_ := HL10.out; have z10_ := HL11.out; have z11_ := HL12.out; have z12_ := HL13.out; omega)))); have n4_ := Aside0.mk (Kd.R_reok rfl hy0 (fun k_ e_ => HOq5_.out.1 k_ e_)); have n5_ := Aside0.mk (Kd.R_kept (Kd.R_kept HOq6_.out hkW (fun _ _ hs_ => hs_.elim)) hkp (fun k_ hk_ hs_ => (have i_ := HIq6_.out k_ hk_; (have j_ := HIq5_.out _ (hs_).2; by have z0_ := HL1.out; have z1_ := HL2.out; have z2_ := HL3.out; have z3_ := HL4.out; have z4_ := HL5.out; have z5_ := HL6.out; have z6_ := HL7.out; have z7_ := HL8.out; have z8_ := HL9.out; have z9_ := HL10.out; have z10_ := HL11.out; have z11_ := HL12.out; have z12_ := HL13.out; omega)))); have n6_ := Aside0.mk (Kd.S_kept (Kd.S_kept HOq7_.out hkW (fun _ _ hs_ => hs_.elim)) hkp (fun k_ hk_ hs_ => (have i_ := HIq7_.out k_ hk_; (have j_ := HIq5_.out _ (hs_).2; by have z0_ := HL1.out; have z1_ := HL2.out; have z2_ := HL3.out; have z3_ := HL4.out; have z4_ := HL5.out; have z5_ := HL6.out; have z6_ := HL7.out; have z7_ := HL8.out; have z8_ := HL9.out; have z9_ := HL10.out; have z10_ := HL11.out; have z11_ := HL12.out; have z12_ := HL13.out; omega)))); have n7_ := Aside0.mk (Kd.R_kept (Kd.R_kept HOq8_.out hkW (fun _ _ hs_ => hs_.elim)) hkp (fun k_ hk_ hs_ => (have i_ := HIq8_.out k_ hk_; (have j_ := HIq5_.out _ (hs_).2; by have z0_ := HL1.out; have z1_ := HL2.out; have z2_ := HL3.out; have z3_ := HL4.out; have z4_ := HL5.out; have z5_ := HL6.out; have z6_ := HL7.out; have z7_ := HL8.out; have z8_ := HL9.out; have z9_ := HL10.out; have z10_ := HL11.out; have z11_ := HL12.out; have z12_ := HL13.out; omega)))); have n8_ := Aside0.mk (hb); have n9_ := Aside0.mk ((Nat.le_trans hkW.1 hkp.1 : wv13.heap.size ≤ wv14.heap.size)); clear HOq1_; clear HOq2_; clear HOq3_; clear HOq4_; clear HOq5_; clear HOq6_; clear HOq7_; clear HOq8_; clear HB; have HOq1_ := n0_; have HOq2_ := n1_; have HOq3_ := n2_; have HOq4_ := n3_; have HOq5_ := n4_; have HOq6_ := n5_; have HOq7_ := n6_; have HOq8_ := n7_; have HB := n8_; have HL14 := n9_; clear n0_ n1_ n2_ n3_ n4_ n5_ n6_ n7_ n8_ n9_; (try clear hb); (try clear hkW); (try clear hk2); (try clear hkp); (try clear hy0)) | (go_at_call 41; (with_reducible refine (laws_eqShareS.calls k _ _ t217 _ _ t208 true _ ?side1 ?side2 ?side3 ?side4 A23.out).mono ?_); (case side1 => exact (Kd.R_reads' (Kd.R_kept HOq6_.out (show Kept wv14 _ (fun k_ => False) from by repeat (first | (with_reducible first | exact Kept.refl _ _ | apply Kept.alloc | apply Kept.drewN | apply Kept.drew) | exact Kept.refl _ _)) (fun _ _ hs_ => hs_.elim))).2.2); (case side2 => have h1_ := (Kd.R_reads' HOq6_.out).1; have h2_ := (Kd.R_reads' HOq6_.out).2.1; omega); (case side3 => exact (Kd.R_reads' (Kd.R_kept HOq3_.out (show Kept wv14 _ (fun k_ => False) from by repeat (first | (with_reducible first | exact Kept.refl _ _ | apply Kept.alloc | apply Kept.drewN | apply Kept.drew) | exact Kept.refl _ _)) (fun _ _ hs_ => hs_.elim))).2.2); (case side4 => have h1_ := (Kd.R_reads' HOq3_.out).1; have h2_ := (Kd.R_reads' HOq3_.out).2.1; omega); rintro e wv15 ⟨rfl, hb⟩; have hkW := (show Kept wv14 _ (fun k_ => False) from by repeat (first | (with_reducible first | exact Kept.refl _ _ | apply Kept.alloc | apply Kept.drewN | apply Kept.drew) | exact Kept.refl _ _)); have hk2 := Kept.below hkW hb; have n0_ := Aside0.mk (Kd.S_kept HOq1_.out hk2 (fun _ _ hs_ => hs_.elim)); have n1_ := Aside0.mk (Kd.R_kept HOq2_.out hk2 (fun _ _ hs_ => hs_.elim)); have n2_ := Aside0.mk (Kd.R_kept HOq3_.out hk2 (fun _ _ hs_ => hs_.elim)); have n3_ := Aside0.mk (Kd.S_kept HOq4_.out hk2 (fun _ _ hs_ => hs_.elim)); have n4_ := Aside0.mk (Kd.R_kept HOq5_.out hk2 (fun _ _ hs_ => hs_.elim)); have n5_ := Aside0.mk (Kd.R_kept HOq6_.out hk2 (fun _ _ hs_ => hs_.elim)); have n6_ := Aside0.mk (Kd.S_kept HOq7_.out hk2 (fun _ _ hs_ => hs_.elim)); have n7_ := Aside0.mk (Kd.R_kept HOq8_.out hk2 (fun _ _ hs_ => hs_.elim)); have n8_ := Aside0.mk (below_step (by repeat (first | (with_reducible first | exact HB.out | apply below_alloc | apply pw_below_drewN | apply below_drew1) | exact HB.out)) hb); have n9_ := Aside0.mk ((hk2.1 : wv14.heap.size ≤ wv15.heap.size)); clear HOq1_; clear HOq2_; clear HOq3_; clear HOq4_; clear HOq5_; clear HOq6_; clear HOq7_; clear HOq8_; clear HB; have HOq1_ := n0_; have HOq2_ := n1_; have HOq3_ := n2_; have HOq4_ := n3_; have HOq5_ := n4_; have HOq6_ := n5_; have HOq7_ := n6_; have HOq8_ := n7_; have HB := n8_; have HL15 := n9_; clear n0_ n1_ n2_ n3_ n4_ n5_ n6_ n7_ n8_ n9_; (try clear hb); (try clear hkW); (try clear hk2); (try clear hkp)) | ((with_reducible refine gate_callee (f := 46) rfl ?_); refine goesL_ (some 64) rfl rfl Try.func46 (by kernel_rfl) rfl #[.slice Aq6_ t217.length cq6_, .int .i64 1] rfl (by (try simp only [List.map_toArray, List.map_cons, List.map_nil]); first | done | rfl | (simp only [List.length_drop, List.length_take]; rfl)) ?_; (with_reducible refine (laws_markShareS.calls k (fun k_ => some k_ = (.slice Aq6_ t217.length cq6_ : Value).ownBlock ∧ okq6_ k_) (.slice Aq6_ t217.length cq6_) t217 1 t234 t235 w _ ?side1 ?side2 A25.out).mono ?_); (case side1 => repeat (first | (with_reducible first | exact HB.out | apply below_alloc | apply pw_below_drewN | apply below_drew1) | exact HB.out)); (case side2 => exact Kd.R_tight2 rfl (Kd.R_kept HOq6_.out (show Kept wv15 _ (fun k_ => False) from by repeat (first | (with_reducible first | exact Kept.refl _ _ | apply Kept.alloc | apply Kept.drewN | apply Kept.drew) | exact Kept.refl _ _)) (fun _ _ hs_ => hs_.elim))); rintro e wv16 ⟨rfl, hy0, hb, hkp⟩; refine ⟨_, rfl, ?_⟩; have hkW := (show Kept wv15 _ (fun k_ => False) from by repeat (first | (with_reducible first | exact Kept.refl _ _ | apply Kept.alloc | apply Kept.drewN | apply Kept.drew) | exact Kept.refl _ _)); have n0_ := Aside0.mk (Kd.S_kept (Kd.S_kept HOq1_.out hkW (fun _ _ hs_ => hs_.elim)) hkp (fun k_ hk_ hs_ => (have i_ := HIq1_.out k_ hk_; (have j_ := HIq6_.out _ (hs_).2; by have z0_ := HL1.out; have z1_ := HL2.out; have z2_ := HL3.out; have z3_ := HL4.out; have z4_ := HL5.out; have z5_ := HL6.out; have z6_ := HL7.out; have z7_ := HL8.out; have z8_ := HL9.out; have z9_ := HL10.out; have z10_ := HL11.out; have z11_ := HL12.out; have z12_ := HL13.out; have z13_ := HL14.out; have z14_ := HL15.out; omega)))); have n1_ := Aside0.mk (Kd.R_kept (Kd.R_kept HOq2_.out hkW (fun _ _ hs_ => hs_.elim)) hkp (fun k_ hk_ hs_ => (have i_ := HIq2_.out k_ hk_; (have j_ := HIq6_.out _ (hs_).2; by have z0_ := HL1.out; have z1_ := HL2.out; have z2_ := HL3.out; have z3_ := HL4.out; have z4_ := HL5.out; have z5_ := HL6.out; have z6_ := HL7.out; have z7_ := HL8.out; have z8_ := HL9.out; have z9_ := HL10.out; have z10_ := HL11.out; have z11_ := HL12.out; have z12_ := HL13.out; have z13_ := HL14.out; have z14_ := HL15.out; omega)))); have n2_ := Aside0.mk (Kd.R_kept (Kd.R_kept HOq3_.out hkW (fun _ _ hs_ => hs_.elim)) hkp (fun k_ hk_ hs_ => (have i_ := HIq3_.out k_ hk_; (have j_ := HIq6_.out _ (hs_).2; by have z0_ := HL1.out; have z1_ := HL2.out; have z2_ := HL3.out; have z3_ := HL4.out; have z4_ := HL5.out; have z5_ := HL6.out; have z6_ := HL7.out; have z7_ := HL8.out; have z8_ := HL9.out; have z9_ := HL10.out; have z10_ := HL11.out; have z11_ := HL12.out; have z12_ := HL13.out; have z13_ := HL14.out; have z14_ := HL15.out; omega)))); have n3_ := Aside0.mk (Kd.S_kept (Kd.S_kept HOq4_.out hkW (fun _ _ hs_ => hs_.elim)) hkp (fun k_ hk_ hs_ => (have i_ := HIq4_.out k_ hk_; (have j_ := HIq6_.out _ (hs_).2; by have z0_ := HL1.out; have z1_ := HL2.out; have z2_ := HL3.out; have z3_ := HL4.out; have z4_ := HL5.out; have z5_ := HL6.out; have z6_ := HL7.out; have z7_ := HL8.out; have z8_ := HL9.out; have z9_ := HL10.out; have z10_ := HL11.out; have z11_ := HL12.out; have z12_ := HL13.out; have z13_ := HL14.out; have z14_ := HL15.out; omega)))); have n4_ := Aside0.mk (Kd.R_kept (Kd.R_kept HOq5_.out hkW (fun _ _ hs_ => hs_.elim)) hkp (fun k_ hk_ hs_ => (have i_ := HIq5_.out k_ hk_; (have j_ := HIq6_.out _ (hs_).2; by have z0_ := HL1.out; have z1_ := HL2.out; have z2_ := HL3.out; have z3_ := HL4.out; have z4_ := HL5.out; have z5_ := HL6.out; have z6_ := HL7.out; have z7_ := HL8.out; have z8_ := HL9.out; have z9_ := HL10.out; have z10_ := HL11.out; have z11_ := HL12.out; have z12_ := HL13.out; have z13_ := HL14.out; have z14_ := HL15.out; omega)))); have n5_ := Aside0.mk (Kd.R_reok rfl hy0 (fun k_ e_ => HOq6_.out.1 k_ e_)); have n6_ := Aside0.mk (Kd.S_kept (Kd.S_kept HOq7_.out hkW (fun _ _ hs_ => hs_.elim)) hkp (fun k_ hk_ hs_ => (have i_ := HIq7_.out k_ hk_; (have j_ := HIq6_.out _ (hs_).2; by have z0_ := HL1.out; have z1_ := HL2.out; have z2_ := HL3.out; have z3_ := HL4.out; have z4_ := HL5.out; have z5_ := HL6.out; have z6_ := HL7.out; have z7_ := HL8.out; have z8_ := HL9.out; have z9_ := HL10.out; have z10_ := HL11.out; have z11_ := HL12.out; have z12_ := HL13.out; have z13_ := HL14.out; have z14_ := HL15.out; omega)))); have n7_ := Aside0.mk (Kd.R_kept (Kd.R_kept HOq8_.out hkW (fun _ _ hs_ => hs_.elim)) hkp (fun k_ hk_ hs_ => (have i_ := HIq8_.out k_ hk_; (have j_ := HIq6_.out _ (hs_).2; by have z0_ := HL1.out; have z1_ := HL2.out; have z2_ := HL3.out; have z3_ := HL4.out; have z4_ := HL5.out; have z5_ := HL6.out; have z6_ := HL7.out; have z7_ := HL8.out; have z8_ := HL9.out; have z9_ := HL10.out; have z10_ := HL11.out; have z11_ := HL12.out; have z12_ := HL13.out; have z13_ := HL14.out; have z14_ := HL15.out; omega)))); have n8_ := Aside0.mk (hb); have n9_ := Aside0.mk ((Nat.le_trans hkW.1 hkp.1 : wv15.heap.size ≤ wv16.heap.size)); clear HOq1_; clear HOq2_; clear HOq3_; clear HOq4_; clear HOq5_; clear HOq6_; clear HOq7_; clear HOq8_; clear HB; have HOq1_ := n0_; have HOq2_ := n1_; have HOq3_ := n2_; have HOq4_ := n3_; have HOq5_ := n4_; have HOq6_ := n5_; have HOq7_ := n6_; have HOq8_ := n7_; have HB := n8_; have HL16 := n9_; clear n0_ n1_ n2_ n3_ n4_ n5_ n6_ n7_ n8_ n9_; (try clear hb); (try clear hkW); (try clear hk2); (try clear hkp); (try clear hy0)) | ((with_reducible refine gate_callee (f := 47) rfl ?_); refine goesL_ (some 67) rfl rfl Try.func47 (by kernel_rfl) rfl #[.slice Aq6_ t235.length cq6_, .int .i64 1] rfl (by (try simp only [List.map_toArray, List.map_cons, List.map_nil]); first | done | (rw [show t235.length = t217.length from (Kd.R_reads' HOq6_.out).1.symm] <;> rfl) | rfl | (simp only [List.length_drop, List.length_take]; rfl)) ?_; (with_reducible refine (laws_heldShareS.calls k _ _ t235 1 t236 _ ?side1 ?side2 A26.out).mono ?_); (case side1 => exact (Kd.R_reads' (Kd.R_kept HOq6_.out (show Kept wv16 _ (fun k_ => False) from by repeat (first | (with_reducible first | exact Kept.refl _ _ | apply Kept.alloc | apply Kept.drewN | apply Kept.drew) | exact Kept.refl _ _)) (fun _ _ hs_ => hs_.elim))).2.2); (case side2 => have h1_ := (Kd.R_reads' HOq6_.out).1; have h2_ := (Kd.R_reads' HOq6_.out).2.1; omega); rintro e wv17 ⟨rfl, hd⟩; have hb := hd.below; clear hd; refine ⟨_, rfl, ?_⟩; have hkW := (show Kept wv16 _ (fun k_ => False) from by repeat (first | (with_reducible first | exact Kept.refl _ _ | apply Kept.alloc | apply Kept.drewN | apply Kept.drew) | exact Kept.refl _ _)); have hk2 := Kept.below hkW hb; have n0_ := Aside0.mk (Kd.S_kept HOq1_.out hk2 (fun _ _ hs_ => hs_.elim)); have n1_ := Aside0.mk (Kd.R_kept HOq2_.out hk2 (fun _ _ hs_ => hs_.elim)); have n2_ := Aside0.mk (Kd.R_kept HOq3_.out hk2 (fun _ _ hs_ => hs_.elim)); have n3_ := Aside0.mk (Kd.S_kept HOq4_.out hk2 (fun _ _ hs_ => hs_.elim)); have n4_ := Aside0.mk (Kd.R_kept HOq5_.out hk2 (fun _ _ hs_ => hs_.elim)); have n5_ := Aside0.mk (Kd.R_kept HOq6_.out hk2 (fun _ _ hs_ => hs_.elim)); have n6_ := Aside0.mk (Kd.S_kept HOq7_.out hk2 (fun _ _ hs_ => hs_.elim)); have n7_ := Aside0.mk (Kd.R_kept HOq8_.out hk2 (fun _ _ hs_ => hs_.elim)); have n8_ := Aside0.mk (below_step (by repeat (first | (with_reducible first | exact HB.out | apply below_alloc | apply pw_below_drewN | apply below_drew1) | exact HB.out)) hb); have n9_ := Aside0.mk ((hk2.1 : wv16.heap.size ≤ wv17.heap.size)); clear HOq1_; clear HOq2_; clear HOq3_; clear HOq4_; clear HOq5_; clear HOq6_; clear HOq7_; clear HOq8_; clear HB; have HOq1_ := n0_; have HOq2_ := n1_; have HOq3_ := n2_; have HOq4_ := n3_; have HOq5_ := n4_; have HOq6_ := n5_; have HOq7_ := n6_; have HOq8_ := n7_; have HB := n8_; have HL17 := n9_; clear n0_ n1_ n2_ n3_ n4_ n5_ n6_ n7_ n8_ n9_; (try clear hb); (try clear hkW); (try clear hk2); (try clear hkp)) | ((with_reducible refine gate_callee (f := 38) rfl ?_); refine goesL_ (some 74) rfl rfl Try.func38 (by kernel_rfl) rfl #[.slice A0 l0.length c0] rfl (by (try simp only [List.map_toArray, List.map_cons, List.map_nil]); first | done | rfl | (simp only [List.length_drop, List.length_take]; rfl)) ?_; (with_reducible refine (laws_toKeeperHostS.calls k _ _ l0 t237 _ ?side1 ?side2 A29.out).mono ?_); (case side1 => exact Kd.C_below HR0.out (by repeat (first | (with_reducible first | exact HB.out | apply below_alloc | apply pw_below_drewN | apply below_drew1) | exact HB.out))); (case side2 => exact HC0.out); rintro e wv18 ⟨vq9_, rfl, ho0, hb⟩; refine ⟨_, rfl, ?_⟩; have hkW := (show Kept wv17 _ (fun k_ => False) from by repeat (first | (with_reducible first | exact Kept.refl _ _ | apply Kept.alloc | apply Kept.drewN | apply Kept.drew) | exact Kept.refl _ _)); have hk2 := Kept.below hkW hb; obtain ⟨Aq9_, cq9_, rfl⟩ := Kd.S_slice ho0; obtain ⟨okq9_, hoo0, hi0⟩ := lk_S ho0 (a := wv17.heap.size) (b := w.heap.size) hkW.1 (Nat.le_trans HB.out.size hkW.1); have n0_ := Aside0.mk (Kd.S_kept HOq1_.out hk2 (fun _ _ hs_ => hs_.elim)); have n1_ := Aside0.mk (Kd.R_kept HOq2_.out hk2 (fun _ _ hs_ => hs_.elim)); have n2_ := Aside0.mk (Kd.R_kept HOq3_.out hk2 (fun _ _ hs_ => hs_.elim)); have n3_ := Aside0.mk (Kd.S_kept HOq4_.out hk2 (fun _ _ hs_ => hs_.elim)); have n4_ := Aside0.mk (Kd.R_kept HOq5_.out hk2 (fun _ _ hs_ => hs_.elim)); have n5_ := Aside0.mk (Kd.R_kept HOq6_.out hk2 (fun _ _ hs_ => hs_.elim)); have n6_ := Aside0.mk (Kd.S_kept HOq7_.out hk2 (fun _ _ hs_ => hs_.elim)); have n7_ := Aside0.mk (Kd.R_kept HOq8_.out hk2 (fun _ _ hs_ => hs_.elim)); have n8_ := Aside0.mk (below_step (by repeat (first | (with_reducible first | exact HB.out | apply below_alloc | apply pw_below_drewN | apply below_drew1) | exact HB.out)) hb); have n9_ := Aside0.mk ((hk2.1 : wv17.heap.size ≤ wv18.heap.size)); have n10_ := Aside0.mk (hoo0); have n11_ := Aside0.mk (hi0); clear HOq1_; clear HOq2_; clear HOq3_; clear HOq4_; clear HOq5_; clear HOq6_; clear HOq7_; clear HOq8_; clear HB; have HOq1_ := n0_; have HOq2_ := n1_; have HOq3_ := n2_; have HOq4_ := n3_; have HOq5_ := n4_; have HOq6_ := n5_; have HOq7_ := n6_; have HOq8_ := n7_; have HB := n8_; have HL18 := n9_; have HOq9_ := n10_; have HIq9_ := n11_; clear n0_ n1_ n2_ n3_ n4_ n5_ n6_ n7_ n8_ n9_ n10_ n11_; (try clear hb); (try clear hkW); (try clear hk2); (try clear hkp); (try clear hoo0); (try clear hi0); (try clear ho0)) | ((with_reducible refine gate_callee (f := 39) rfl ?_); refine goesL_ (some 76) rfl rfl Try.func39 (by kernel_rfl) rfl #[.slice A1 l1.length c1] rfl (by (try simp only [List.map_toArray, List.map_cons, List.map_nil]); first | done | rfl | (simp only [List.length_drop, List.length_take]; rfl)) ?_; (with_reducible refine (laws_toIntS.calls k _ _ l1 t240 _ ?side1 ?side2 A30.out).mono ?_); (case side1 => exact Kd.C_below HR1.out (by repeat (first | (with_reducible first | exact HB.out | apply below_alloc | apply pw_below_drewN | apply below_drew1) | exact HB.out))); (case side2 => exact HC1.out); rintro e wv19 ⟨vq10_, rfl, ho0, hb⟩; refine ⟨_, rfl, ?_⟩; have hkW := (show Kept wv18 _ (fun k_ => False) from by repeat (first | (with_reducible first | exact Kept.refl _ _ | apply Kept.alloc | apply Kept.drewN | apply Kept.drew) | exact Kept.refl _ _)); have hk2 := Kept.below hkW hb; obtain ⟨Aq10_, cq10_, rfl⟩ := Kd.R_slice ho0; obtain ⟨okq10_, hoo0, hi0⟩ := lk_R ho0 (a := wv18.heap.size) (b := w.heap.size) hkW.1 (Nat.le_trans HB.out.size hkW.1); have n0_ := Aside0.mk (Kd.S_kept HOq1_.out hk2 (fun _ _ hs_ => hs_.elim)); have n1_ := Aside0.mk (Kd.R_kept HOq2_.out hk2 (fun _ _ hs_ => hs_.elim)); have n2_ := Aside0.mk (Kd.R_kept HOq3_.out hk2 (fun _ _ hs_ => hs_.elim)); have n3_ := Aside0.mk (Kd.S_kept HOq4_.out hk2 (fun _ _ hs_ => hs_.elim)); have n4_ := Aside0.mk (Kd.R_kept HOq5_.out hk2 (fun _ _ hs_ => hs_.elim)); have n5_ := Aside0.mk (Kd.R_kept HOq6_.out hk2 (fun _ _ hs_ => hs_.elim)); have n6_ := Aside0.mk (Kd.S_kept HOq7_.out hk2 (fun _ _ hs_ => hs_.elim)); have n7_ := Aside0.mk (Kd.R_kept HOq8_.out hk2 (fun _ _ hs_ => hs_.elim)); have n8_ := Aside0.mk (Kd.S_kept HOq9_.out hk2 (fun _ _ hs_ => hs_.elim)); have n9_ := Aside0.mk (below_step (by repeat (first | (with_reducible first | exact HB.out | apply below_alloc | apply pw_below_drewN | apply below_drew1) | exact HB.out)) hb); have n10_ := Aside0.mk ((hk2.1 : wv18.heap.size ≤ wv19.heap.size)); have n11_ := Aside0.mk (hoo0); have n12_ := Aside0.mk (hi0); clear HOq1_; clear HOq2_; clear HOq3_; clear HOq4_; clear HOq5_; clear HOq6_; clear HOq7_; clear HOq8_; clear HOq9_; clear HB; have HOq1_ := n0_; have HOq2_ := n1_; have HOq3_ := n2_; have HOq4_ := n3_; have HOq5_ := n4_; have HOq6_ := n5_; have HOq7_ := n6_; have HOq8_ := n7_; have HOq9_ := n8_; have HB := n9_; have HL19 := n10_; have HOq10_ := n11_; have HIq10_ := n12_; clear n0_ n1_ n2_ n3_ n4_ n5_ n6_ n7_ n8_ n9_ n10_ n11_ n12_; (try clear hb); (try clear hkW); (try clear hk2); (try clear hkp); (try clear hoo0); (try clear hi0); (try clear ho0)) | ((with_reducible refine gate_callee (f := 40) rfl ?_); refine goesL_ (some 77) rfl rfl Try.func40 (by kernel_rfl) rfl #[.slice Aq9_ t237.length cq9_, .slice Aq10_ t240.length cq10_] rfl (by (try simp only [List.map_toArray, List.map_cons, List.map_nil]); first | done | rfl | (simp only [List.length_drop, List.length_take]; rfl)) ?_; (with_reducible refine (impl_StolenShares.calls k _ _ t237 _ _ t240 t243 _ ?side1 ?side2 ?side3 ?side4 A31.out).mono ?_); (case side1 => exact (Kd.S_reads' (Kd.S_kept HOq9_.out (show Kept wv19 _ (fun k_ => False) from by repeat (first | (with_reducible first | exact Kept.refl _ _ | apply Kept.alloc | apply Kept.drewN | apply Kept.drew) | exact Kept.refl _ _)) (fun _ _ hs_ => hs_.elim))).2.2); (case side2 => have h1_ := (Kd.S_reads' HOq9_.out).1; have h2_ := (Kd.S_reads' HOq9_.out).2.1; omega); (case side3 => exact (Kd.R_reads' (Kd.R_kept HOq10_.out (show Kept wv19 _ (fun k_ => False) from by repeat (first | (with_reducible first | exact Kept.refl _ _ | apply Kept.alloc | apply Kept.drewN | apply Kept.drew) | exact Kept.refl _ _)) (fun _ _ hs_ => hs_.elim))).2.2); (case side4 => have h1_ := (Kd.R_reads' HOq10_.out).1; have h2_ := (Kd.R_reads' HOq10_.out).2.1; omega); rintro e wv20 ⟨vq11_, rfl, ho0, hb⟩; refine ⟨_, rfl, ?_⟩; have hkW := (show Kept wv19 _ (fun k_ => False) from by repeat (first | (with_reducible first | exact Kept.refl _ _ | apply Kept.alloc | apply Kept.drewN | apply Kept.drew) | exact Kept.refl _ _)); have hk2 := Kept.below hkW hb; obtain ⟨Aq11_, cq11_, rfl⟩ := Kd.R_slice ho0; obtain ⟨okq11_, hoo0, hi0⟩ := lk_R ho0 (a := wv19.heap.size) (b := w.heap.size) hkW.1 (Nat.le_trans HB.out.size hkW.1); have n0_ := Aside0.mk (Kd.S_kept HOq1_.out hk2 (fun _ _ hs_ => hs_.elim)); have n1_ := Aside0.mk (Kd.R_kept HOq2_.out hk2 (fun _ _ hs_ => hs_.elim)); have n2_ := Aside0.mk (Kd.R_kept HOq3_.out hk2 (fun _ _ hs_ => hs_.elim)); have n3_ := Aside0.mk (Kd.S_kept HOq4_.out hk2 (fun _ _ hs_ => hs_.elim)); have n4_ := Aside0.mk (Kd.R_kept HOq5_.out hk2 (fun _ _ hs_ => hs_.elim)); have n5_ := Aside0.mk (Kd.R_kept HOq6_.out hk2 (fun _ _ hs_ => hs_.elim)); have n6_ := Aside0.mk (Kd.S_kept HOq7_.out hk2 (fun _ _ hs_ => hs_.elim)); have n7_ := Aside0.mk (Kd.R_kept HOq8_.out hk2 (fun _ _ hs_ => hs_.elim)); have n8_ := Aside0.mk (Kd.S_kept HOq9_.out hk2 (fun _ _ hs_ => hs_.elim)); have n9_ := Aside0.mk (Kd.R_kept HOq10_.out hk2 (fun _ _ hs_ => hs_.elim)); have n10_ := Aside0.mk (below_step (by repeat (first | (with_reducible first | exact HB.out | apply below_alloc | apply pw_below_drewN | apply below_drew1) | exact HB.out)) hb); have n11_ := Aside0.mk ((hk2.1 : wv19.heap.size ≤ wv20.heap.size)); have n12_ := Aside0.mk (hoo0); have n13_ := Aside0.mk (hi0); clear HOq1_; clear HOq2_; clear HOq3_; clear HOq4_; clear HOq5_; clear HOq6_; clear HOq7_; clear HOq8_; clear HOq9_; clear HOq10_; clear HB; have HOq1_ := n0_; have HOq2_ := n1_; have HOq3_ := n2_; have HOq4_ := n3_; have HOq5_ := n4_; have HOq6_ := n5_; have HOq7_ := n6_; have HOq8_ := n7_; have HOq9_ := n8_; have HOq10_ := n9_; have HB := n10_; have HL20 := n11_; have HOq11_ := n12_; have HIq11_ := n13_; clear n0_ n1_ n2_ n3_ n4_ n5_ n6_ n7_ n8_ n9_ n10_ n11_ n12_ n13_; (try clear hb); (try clear hkW); (try clear hk2); (try clear hkp); (try clear hoo0); (try clear hi0); (try clear ho0)) | ((with_reducible refine gate_callee (f := 41) rfl ?_); refine goesL_ (some 80) rfl rfl Try.func41 (by kernel_rfl) rfl #[.slice Aq11_ t243.length cq11_, .slice Aq3_ t208.length cq3_] rfl (by (try simp only [List.map_toArray, List.map_cons, List.map_nil]); first | done | rfl | (simp only [List.length_drop, List.length_take]; rfl)) ?_; (with_reducible refine (laws_eqShareS.calls k _ _ t243 _ _ t208 true _ ?side1 ?side2 ?side3 ?side4 A32.out).mono ?_); (case side1 => exact (Kd.R_reads' (Kd.R_kept HOq11_.out (show Kept wv20 _ (fun k_ => False) from by repeat (first | (with_reducible first | exact Kept.refl _ _ | apply Kept.alloc | apply Kept.drewN | apply Kept.drew) | exact Kept.refl _ _)) (fun _ _ hs_ => hs_.elim))).2.2); (case side2 => have h1_ := (Kd.R_reads' HOq11_.out).1; have h2_ := (Kd.R_reads' HOq11_.out).2.1; omega); (case side3 => exact (Kd.R_reads' (Kd.R_kept HOq3_.out (show Kept wv20 _ (fun k_ => False) from by repeat (first | (with_reducible first | exact Kept.refl _ _ | apply Kept.alloc | apply Kept.drewN | apply Kept.drew) | exact Kept.refl _ _)) (fun _ _ hs_ => hs_.elim))).2.2); (case side4 => have h1_ := (Kd.R_reads' HOq3_.out).1; have h2_ := (Kd.R_reads' HOq3_.out).2.1; omega); rintro e wv21 ⟨rfl, hb⟩; refine ⟨_, rfl, ?_⟩; have hkW := (show Kept wv20 _ (fun k_ => False) from by repeat (first | (with_reducible first | exact Kept.refl _ _ | apply Kept.alloc | apply Kept.drewN | apply Kept.drew) | exact Kept.refl _ _)); have hk2 := Kept.below hkW hb; have n0_ := Aside0.mk (Kd.S_kept HOq1_.out hk2 (fun _ _ hs_ => hs_.elim)); have n1_ := Aside0.mk (Kd.R_kept HOq2_.out hk2 (fun _ _ hs_ => hs_.elim)); have n2_ := Aside0.mk (Kd.R_kept HOq3_.out hk2 (fun _ _ hs_ => hs_.elim)); have n3_ := Aside0.mk (Kd.S_kept HOq4_.out hk2 (fun _ _ hs_ => hs_.elim)); have n4_ := Aside0.mk (Kd.R_kept HOq5_.out hk2 (fun _ _ hs_ => hs_.elim)); have n5_ := Aside0.mk (Kd.R_kept HOq6_.out hk2 (fun _ _ hs_ => hs_.elim)); have n6_ := Aside0.mk (Kd.S_kept HOq7_.out hk2 (fun _ _ hs_ => hs_.elim)); have n7_ := Aside0.mk (Kd.R_kept HOq8_.out hk2 (fun _ _ hs_ => hs_.elim)); have n8_ := Aside0.mk (Kd.S_kept HOq9_.out hk2 (fun _ _ hs_ => hs_.elim)); have n9_ := Aside0.mk (Kd.R_kept HOq10_.out hk2 (fun _ _ hs_ => hs_.elim)); have n10_ := Aside0.mk (Kd.R_kept HOq11_.out hk2 (fun _ _ hs_ => hs_.elim)); have n11_ := Aside0.mk (below_step (by repeat (first | (with_reducible first | exact HB.out | apply below_alloc | apply pw_below_drewN | apply below_drew1) | exact HB.out)) hb); have n12_ := Aside0.mk ((hk2.1 : wv20.heap.size ≤ wv21.heap.size)); clear HOq1_; clear HOq2_; clear HOq3_; clear HOq4_; clear HOq5_; clear HOq6_; clear HOq7_; clear HOq8_; clear HOq9_; clear HOq10_; clear HOq11_; clear HB; have HOq1_ := n0_; have HOq2_ := n1_; have HOq3_ := n2_; have HOq4_ := n3_; have HOq5_ := n4_; have HOq6_ := n5_; have HOq7_ := n6_; have HOq8_ := n7_; have HOq9_ := n8_; have HOq10_ := n9_; have HOq11_ := n10_; have HB := n11_; have HL21 := n12_; clear n0_ n1_ n2_ n3_ n4_ n5_ n6_ n7_ n8_ n9_ n10_ n11_ n12_; (try clear hb); (try clear hkW); (try clear hk2); (try clear hkp)) | ((with_reducible refine gate_callee (f := 47) rfl ?_); refine goesL_ (some 84) rfl rfl Try.func47 (by kernel_rfl) rfl #[.slice Aq6_ t235.length cq6_, .int .i64 1] rfl (by (try simp only [List.map_toArray, List.map_cons, List.map_nil]); first | done | (rw [show t235.length = t217.length from (Kd.R_reads' HOq6_.out).1.symm] <;> rfl) | rfl | (simp only [List.length_drop, List.length_take]; rfl)) ?_; (with_reducible refine (laws_heldShareS.calls k _ _ t235 1 t247 _ ?side1 ?side2 A34.out).mono ?_); (case side1 => exact (Kd.R_reads' (Kd.R_kept HOq6_.out (show Kept wv21 _ (fun k_ => False) from by repeat (first | (with_reducible first | exact Kept.refl _ _ | apply Kept.alloc | apply Kept.drewN | apply Kept.drew) | exact Kept.refl _ _)) (fun _ _ hs_ => hs_.elim))).2.2); (case side2 => have h1_ := (Kd.R_reads' HOq6_.out).1; have h2_ := (Kd.R_reads' HOq6_.out).2.1; omega); rintro e wv22 ⟨rfl, hd⟩; have hb := hd.below; clear hd; refine ⟨_, rfl, ?_⟩; have hkW := (show Kept wv21 _ (fun k_ => False) from by repeat (first | (with_reducible first | exact Kept.refl _ _ | apply Kept.alloc | apply Kept.drewN | apply Kept.drew) | exact Kept.refl _ _)); have hk2 := Kept.below hkW hb; have n0_ := Aside0.mk (Kd.S_kept HOq1_.out hk2 (fun _ _ hs_ => hs_.elim)); have n1_ := Aside0.mk (Kd.R_kept HOq2_.out hk2 (fun _ _ hs_ => hs_.elim)); have n2_ := Aside0.mk (Kd.R_kept HOq3_.out hk2 (fun _ _ hs_ => hs_.elim)); have n3_ := Aside0.mk (Kd.S_kept HOq4_.out hk2 (fun _ _ hs_ => hs_.elim)); have n4_ := Aside0.mk (Kd.R_kept HOq5_.out hk2 (fun _ _ hs_ => hs_.elim)); have n5_ := Aside0.mk (Kd.R_kept HOq6_.out hk2 (fun _ _ hs_ => hs_.elim)); have n6_ := Aside0.mk (Kd.S_kept HOq7_.out hk2 (fun _ _ hs_ => hs_.elim)); have n7_ := Aside0.mk (Kd.R_kept HOq8_.out hk2 (fun _ _ hs_ => hs_.elim)); have n8_ := Aside0.mk (Kd.S_kept HOq9_.out hk2 (fun _ _ hs_ => hs_.elim)); have n9_ := Aside0.mk (Kd.R_kept HOq10_.out hk2 (fun _ _ hs_ => hs_.elim)); have n10_ := Aside0.mk (Kd.R_kept HOq11_.out hk2 (fun _ _ hs_ => hs_.elim)); have n11_ := Aside0.mk (below_step (by repeat (first | (with_reducible first | exact HB.out | apply below_alloc | apply pw_below_drewN | apply below_drew1) | exact HB.out)) hb); have n12_ := Aside0.mk ((hk2.1 : wv21.heap.size ≤ wv22.heap.size)); clear HOq1_; clear HOq2_; clear HOq3_; clear HOq4_; clear HOq5_; clear HOq6_; clear HOq7_; clear HOq8_; clear HOq9_; clear HOq10_; clear HOq11_; clear HB; have HOq1_ := n0_; have HOq2_ := n1_; have HOq3_ := n2_; have HOq4_ := n3_; have HOq5_ := n4_; have HOq6_ := n5_; have HOq7_ := n6_; have HOq8_ := n7_; have HOq9_ := n8_; have HOq10_ := n9_; have HOq11_ := n10_; have HB := n11_; have HL22 := n12_; clear n0_ n1_ n2_ n3_ n4_ n5_ n6_ n7_ n8_ n9_ n10_ n11_ n12_; (try clear hb); (try clear hkW); (try clear hk2); (try clear hkp)))
                          go_ret
                          exact ⟨by first | rfl | (simp [*] <;> rfl), by repeat (first | (with_reducible first | exact HB.out | apply below_alloc | apply pw_below_drewN | apply below_drew1) | exact HB.out)⟩
                        · rw [if_neg c36] at H
                          have c36b0 : (t247 == t234) = false := beq_eq_false_iff_ne.mpr c36
                          have c36b1 : (t247 != t234) = true := bne_iff_ne.mpr c36
                          exact absurd ((Option.some.inj H).trans hT.out) (by decide)
                    · replace c33 := Bool.eq_false_iff.mpr c33
                      subst c33
                      have H1 : (some false) = some r := by rw [if_neg (show ¬ (false = true) by decide)] at H; exact H
                      clear H
                      have H := H1
                      clear H1
                      exact absurd ((Option.some.inj H).trans hT.out) (by decide)
                  · rw [if_neg c28] at H
                    have c28b0 : (t236 == t234) = false := beq_eq_false_iff_ne.mpr c28
                    have c28b1 : (t236 != t234) = true := bne_iff_ne.mpr c28
                    exact absurd ((Option.some.inj H).trans hT.out) (by decide)
              · replace c24 := Bool.eq_false_iff.mpr c24
                subst c24
                have H1 : (some false) = some r := by rw [if_neg (show ¬ (false = true) by decide)] at H; exact H
                clear H
                have H := H1
                clear H1
                exact absurd ((Option.some.inj H).trans hT.out) (by decide)
          · replace c19 := Bool.eq_false_iff.mpr c19
            subst c19
            have H1 : (some false) = some r := by rw [if_neg (show ¬ (false = true) by decide)] at H; exact H
            clear H
            have H := H1
            clear H1
            exact absurd ((Option.some.inj H).trans hT.out) (by decide)
        · replace c16 := Bool.eq_false_iff.mpr c16
          subst c16
          have H1 : (some false) = some r := by rw [if_neg (show ¬ (false = true) by decide)] at H; exact H
          clear H
          have H := H1
          clear H1
          exact absurd ((Option.some.inj H).trans hT.out) (by decide)
      · replace c13 := Bool.eq_false_iff.mpr c13
        subst c13
        have H1 : (some false) = some r := by rw [if_neg (show ¬ (false = true) by decide)] at H; exact H
        clear H
        have H := H1
        clear H1
        exact absurd ((Option.some.inj H).trans hT.out) (by decide)

end Go.Proofs.Ytjngmadmdkkcmaa.PFnExactStolenShares
