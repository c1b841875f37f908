-- Made by a program of this session, after the kit's print of the translation. Lean checks it.
import Derived.Test.YtjngmadmdkkcmaaPFnExactReplaceHostx0
import Derived.Test.YtjngmadmdkkcmaaPFnExactReplaceHostx7
import Derived.Test.YtjngmadmdkkcmaaPFnExactReplaceHostx8
import Derived.Test.YtjngmadmdkkcmaaPFnExactReplaceHostx9
namespace Go.Proofs.Ytjngmadmdkkcmaa.PFnExactReplaceHost
open Go.RowKit Go.Proofs.YtjngmadmdkkcmaaW.PrintWords Go.Proofs.YtjngmadmdkkcmaaW.PrintLast Go.Proofs.YtjngmadmdkkcmaaW.PrintMore
attribute [local go_sem] max2_int min2_int max_two min_two max_three min_three max_four min_four   -- for this text's walks alone
set_option linter.unusedVariables false
set_option linter.unusedSimpArgs false

/-! ### impl_copyHosts: function 93 -/
def impl_copyHosts.l0 : Nat → List (S31) → List (S31) → Int → Int → Option ((List (S31)))
  | 0, _, _, _, _ => none
  | k + 1, x3, x7, x8, x9 => if x9 < x8 then (if 0 ≤ x9 then (if x9 < (x7.length : Int) then ((impl_copyHost.f ((rd_T31 x7 x9).f0.f0.f0) ((rd_T31 x7 x9).f0.f0.f1) ((rd_T31 x7 x9).f0.f1) ((rd_T31 x7 x9).f0.f2) ((rd_T31 x7 x9).f0.f3) ((rd_T31 x7 x9).f1) ((rd_T31 x7 x9).f2)).bind fun bt340 => (if x3.length < 1954687338268 then (impl_copyHosts.l0 k (x3 ++ [(⟨(⟨(⟨bt340.1, bt340.2.1⟩ : S26), bt340.2.2.1, bt340.2.2.2.1, bt340.2.2.2.2.1⟩ : S28), bt340.2.2.2.2.2.1, bt340.2.2.2.2.2.2⟩ : S31)]) x7 x8 (wrap64 (x9 + 1))) else (none))) else (none)) else (none)) else (some x3)
def impl_copyHosts.f (k : Nat) (l0 : List (S31)) : Option ((List (S31))) := impl_copyHosts.l0 k (([] : List (S31))) l0 (l0.length : Int) 0
theorem impl_copyHosts.mono_l : ∀ k, (∀ y0 y1 y2 y3, LeO (impl_copyHosts.l0 k y0 y1 y2 y3) (impl_copyHosts.l0 (k + 1) y0 y1 y2 y3))
  | 0 => fun _ _ _ _ r h => by simp [impl_copyHosts.l0] at h
  | k + 1 => by
    have ih0 := impl_copyHosts.mono_l k
    · intro y0 y1 y2 y3
      unfold impl_copyHosts.l0
      repeat' first
      | (with_reducible exact ih0 _ _ _ _)
      | (with_reducible exact LeO.refl _)
      | (with_reducible exact LeO.none _)
      | (with_reducible refine LeO.ite ?_ ?_)
      | (with_reducible refine LeO.bind ?_ (fun _ => ?_))
      | exact ih0 _ _ _ _
      | exact LeO.none _
      | refine LeO.ite ?_ ?_
      | refine LeO.bind ?_ (fun _ => ?_)
theorem impl_copyHosts.mono : ∀ a0 k, LeO (impl_copyHosts.f k a0) (impl_copyHosts.f (k + 1) a0) := by
  intro a0 k
  have ih0 := impl_copyHosts.mono_l k
  unfold impl_copyHosts.f
  repeat' first
      | (with_reducible exact ih0 _ _ _ _)
      | (with_reducible exact LeO.refl _)
      | (with_reducible exact LeO.none _)
      | (with_reducible refine LeO.ite ?_ ?_)
      | (with_reducible refine LeO.bind ?_ (fun _ => ?_))
      | exact ih0 _ _ _ _
      | exact LeO.none _
      | refine LeO.ite ?_ ?_
      | refine LeO.bind ?_ (fun _ => ?_)
set_option maxHeartbeats 8000000 in
set_option maxRecDepth 100000 in
theorem impl_copyHosts.calls (k : Nat) (A0 : Option Addr) (c0 : Nat) (l0 : List (S31)) (r : List (S31)) (w : World) (hr0 : Kd.C k31 w A0 l0.length l0) (hc0 : l0.length ≤ c0) (h : impl_copyHosts.f k l0 = some r) :
    Calls Try.prog 93 #[.slice A0 l0.length c0] w fun e w' => ∃ v0_ : Value, e = .returned (v0_) ∧ Kd.S k31 31 w' w.heap.size (fun _ => True) v0_ r ∧ Below w.heap.size w w' := by
  have hu31 := Try.underlying31
  have HR0 := Aside0.mk hr0
  have HC0 := Aside0.mk hc0
  clear hr0 hc0
  have HB := Aside0.mk (Below.refl w.heap.size w)
  have H : (impl_copyHosts.l0 k (([] : List (S31))) l0 (l0.length : Int) 0) = some r := h
  clear h
  obtain ⟨y335, hy335⟩ : ∃ y_ : List (S31), y_ = (([] : List (S31))) := ⟨_, rfl⟩
  replace H : (impl_copyHosts.l0 k y335 l0 (l0.length : Int) 0) = some r := by first | (rw [hy335]; with_reducible exact H) | (have H2_ := (Option.bind_some _ _).symm.trans H; rw [hy335]; with_reducible exact H2_) | (have H2_ := (Option.bind_some _ _).symm.trans H; with_reducible exact H2_) | with_reducible exact H | (rw [hy335]; exact H) | exact H
  have Ny335 := Aside0.mk hy335
  clear hy335
  have H' := Aside0.mk H
  clear H
  go_enter Try.func93, Try.ntmps93
  go_wp2_with (first | ((with_reducible refine gate_dst (N := 6) rfl ?_); refine Kd.S_lit k31 _ 31 ?hg (N := 6) ?hd (xs := ([] : List (S31))) (inner := []) (ok := fun _ => True) (okp := fun _ => True) ?hr ?hp (fun _ hk => hk) trivial (Below.refl _ _) (Nat.le_refl _) (by simp) ?_; (case hd => rfl); (case hg => rfl); (case hr => first | (go_simp; done) | (go_simp; rfl)); (case hp => exact (Reps.none _ _)); intro v336 w2 ho3 hb hg_ hnew_; clear hg_ hnew_; (first | rw [← Ny335.out] at ho3 | (simp only [Int.reduceToNat] at ho3; rw [← Ny335.out] at ho3)); have n0_ := Aside0.mk (Kd.S_lower ho3 (below_size (by repeat (first | (with_reducible first | exact HB.out | apply below_alloc | apply pw_below_drewN | apply below_drew1) | exact HB.out)))); have n1_ := Aside0.mk (below_step (by repeat (first | (with_reducible first | exact HB.out | apply below_alloc | apply pw_below_drewN | apply below_drew1) | exact HB.out)) hb); clear HB; have HO337 := n0_; have HB := n1_; clear n0_ n1_; clear hb ho3))
  go_loopg [3, 9] k (fun kq v3 v9 w' => ∃ (x3_1 : List (S31)) (x9_1 : Int), v9 = .int .i64 x9_1 ∧ Aside0 (impl_copyHosts.l0 kq x3_1 l0 (l0.length : Int) x9_1 = some r) ∧ Aside0 (kq ≤ k) ∧ Aside0 (Kd.S k31 31 w' w.heap.size (fun _ => True) v3 x3_1) ∧ Aside0 (Below w.heap.size w w'))
  case atStart => exact ⟨(y335), (0), (by first | rfl | (simp; done) | (simp [*]; done)), H', ⟨Nat.le_refl _⟩, ⟨by (with_reducible repeat (first | apply Kd.S_alloc | apply Kd.S_drewN | apply Kd.S_drew)); exact HO337.out⟩, ⟨by repeat (first | (with_reducible first | exact HB.out | apply below_alloc | apply pw_below_drewN | apply below_drew1) | exact HB.out)⟩⟩
  case round =>
    clear H'
    try clear p2
    obtain ⟨x3_1, x9_1, rfl, HA, HK1, HO_3, HB⟩ := hrel
    cases gk with
    | zero => exact absurd HA.out (by simp [impl_copyHosts.l0])
    | succ k1 =>
      have H := HA.out
      clear HA
      simp only [impl_copyHosts.l0] at H
      by_cases c4 : x9_1 < (l0.length : Int)
      · rw [if_pos c4] at H
        have c4b0 : decide (x9_1 < (l0.length : Int)) = true := decide_eq_true c4
        clear c4
        by_cases c5 : 0 ≤ x9_1
        · rw [if_pos c5] at H
          have c5b0 : decide (0 ≤ x9_1) = true := decide_eq_true c5
          clear c5
          by_cases c6 : x9_1 < (l0.length : Int)
          · rw [if_pos c6] at H
            have c6b0 : decide (x9_1 < (l0.length : Int)) = true := decide_eq_true c6
            clear c6
            replace H := Option.bind_eq_some_iff.mp H
            obtain ⟨⟨t340, t341, t342, t343, t344, t345, t348⟩, A70, H⟩ := H
            replace H : (if x3_1.length < 1954687338268 then (impl_copyHosts.l0 k1 (x3_1 ++ [(⟨(⟨(⟨t340, t341⟩ : S26), t342, t343, t344⟩ : S28), t345, t348⟩ : S31)]) l0 (l0.length : Int) (wrap64 (x9_1 + 1))) else (none)) = some r := H
            have A7 := Aside0.mk A70
            clear A70
            by_cases c8 : x3_1.length < 1954687338268
            · rw [if_pos c8] at H
              have LMc8 := Aside0.mk c8
              clear c8
              obtain ⟨y349, hy349⟩ : ∃ y_ : List (S31), y_ = (x3_1 ++ [(⟨(⟨(⟨t340, t341⟩ : S26), t342, t343, t344⟩ : S28), t345, t348⟩ : S31)]) := ⟨_, rfl⟩
              replace H : (impl_copyHosts.l0 k1 y349 l0 (l0.length : Int) (wrap64 (x9_1 + 1))) = some r := by first | (rw [hy349]; with_reducible exact H) | (have H2_ := (Option.bind_some _ _).symm.trans H; rw [hy349]; with_reducible exact H2_) | (have H2_ := (Option.bind_some _ _).symm.trans H; with_reducible exact H2_) | with_reducible exact H | (rw [hy349]; exact H) | exact H
              have Ny349 := Aside0.mk hy349
              clear hy349
              have H' := Aside0.mk H
              clear H
              have p338 : 0 ≤ (x9_1 : Int) := of_decide_eq_true (by first | (with_reducible assumption) | assumption)
              have q338 : x9_1 < (l0.length : Int) := of_decide_eq_true (by first | (with_reducible assumption) | assumption)
              obtain ⟨ad338, A338_5, c338_5, e338, hx338_0, hx338_1, hx338_2, hx338_3, hx338_4, hx338_5, hx338_6, hl338_5, hi338_5⟩ := at_T31 HR0.out x9_1 p338 q338
              cases e338
              replace hx338_0 := (HB.out.cell (World.block_lt_of_cell? w _ hx338_0)).trans hx338_0
              replace hx338_1 := (HB.out.cell (World.block_lt_of_cell? w _ hx338_1)).trans hx338_1
              replace hx338_2 := (HB.out.cell (World.block_lt_of_cell? w _ hx338_2)).trans hx338_2
              replace hx338_3 := (HB.out.cell (World.block_lt_of_cell? w _ hx338_3)).trans hx338_3
              replace hx338_4 := (HB.out.cell (World.block_lt_of_cell? w _ hx338_4)).trans hx338_4
              replace hx338_5 := (HB.out.cell (World.block_lt_of_cell? w _ hx338_5)).trans hx338_5
              replace hx338_6 := (HB.out.cell (World.block_lt_of_cell? w _ hx338_6)).trans hx338_6
              have HR338_5 := Aside0.mk hi338_5
              have HC338_5 := Aside0.mk hl338_5
              clear hi338_5 hl338_5
              replace p338 := eq_true p338
              replace q338 := eq_true q338
              go_wp2_with (first | ((with_reducible refine gate_dst (N := 5) rfl ?_); refine box_event ?hg (N := 5) ?hd (cs := #[.int .i64 0, .int .i64 0, .int .i64 0, .int .i64 0, .int .i64 0, .slice none 0 0, .int .i64 0]) (t := 31) ?hr ?_; (case hd => rfl); (case hg => rfl); (case hr => first | (go_simp; done) | (go_simp; rfl)); intro gb339 hg w9 hbox hb; have n0_ := Aside0.mk (Kd.S_below (Kd.S_elderB (by (with_reducible repeat (first | apply Kd.S_alloc | apply Kd.S_drewN | apply Kd.S_drew)); exact HO_3.out) gb339 (Nat.le_of_eq hg.symm)) hb); have n1_ := Aside0.mk (below_step (by repeat (first | (with_reducible first | exact HB.out | apply below_alloc | apply pw_below_drewN | apply below_drew1) | exact HB.out)) hb); have n2_ := Aside0.mk (hbox); have n3_ := Aside0.mk ((by rw [hg]; exact (below_size (by repeat (first | (with_reducible first | exact HB.out | apply below_alloc | apply pw_below_drewN | apply below_drew1) | exact HB.out))) : w.heap.size ≤ gb339)); have n4_ := Aside0.mk ((by rw [hg]; exact (below_size (by repeat (first | (with_reducible first | exact HB.out | apply below_alloc | apply pw_below_drewN | apply below_drew1) | exact HB.out))) : w.heap.size ≤ gb339)); clear HO_3; clear HB; have HO_3 := n0_; have HB := n1_; have BK339 := n2_; have GW339 := n3_; have GE339 := n4_; clear n0_ n1_ n2_ n3_ n4_; clear hb hbox hg; have hcz10_0 : w9.cell? ⟨gb339, 0, none⟩ = some (.int .i64 0) := (blk_cell BK339.out 0).trans rfl; have hcz10_1 : w9.cell? ⟨gb339, 1, none⟩ = some (.int .i64 0) := (blk_cell BK339.out 1).trans rfl; have hcz10_2 : w9.cell? ⟨gb339, 2, none⟩ = some (.int .i64 0) := (blk_cell BK339.out 2).trans rfl; have hcz10_3 : w9.cell? ⟨gb339, 3, none⟩ = some (.int .i64 0) := (blk_cell BK339.out 3).trans rfl; have hcz10_4 : w9.cell? ⟨gb339, 4, none⟩ = some (.int .i64 0) := (blk_cell BK339.out 4).trans rfl; have hcz10_5 : w9.cell? ⟨gb339, 5, none⟩ = some (.slice none 0 0) := (blk_cell BK339.out 5).trans rfl; have hcz10_6 : w9.cell? ⟨gb339, 6, none⟩ = some (.int .i64 0) := (blk_cell BK339.out 6).trans rfl; have hfz10_0 := blk_frozen BK339.out 0; have hfz10_1 := blk_frozen BK339.out 1; have hfz10_2 := blk_frozen BK339.out 2; have hfz10_3 := blk_frozen BK339.out 3; have hfz10_4 := blk_frozen BK339.out 4; have hfz10_5 := blk_frozen BK339.out 5; have hfz10_6 := blk_frozen BK339.out 6) | ((with_reducible refine gate_callee (f := 61) rfl ?_); refine goesL_ (some 15) rfl rfl Try.func61 (by kernel_rfl) rfl #[.agg #[.int .i64 ((rd_T31 l0 x9_1).f0.f0.f0), .int .i64 ((rd_T31 l0 x9_1).f0.f0.f1), .int .i64 ((rd_T31 l0 x9_1).f0.f1), .int .i64 ((rd_T31 l0 x9_1).f0.f2), .int .i64 ((rd_T31 l0 x9_1).f0.f3), .slice A338_5 ((rd_T31 l0 x9_1).f1).length c338_5, .int .i64 ((rd_T31 l0 x9_1).f2)]] rfl (by (try simp only [List.map_toArray, List.map_cons, List.map_nil]); first | done | rfl | (simp only [List.length_drop, List.length_take]; rfl)) ?_; (with_reducible refine (impl_copyHost.calls ((rd_T31 l0 x9_1).f0.f0.f0) ((rd_T31 l0 x9_1).f0.f0.f1) ((rd_T31 l0 x9_1).f0.f1) ((rd_T31 l0 x9_1).f0.f2) ((rd_T31 l0 x9_1).f0.f3) _ _ ((rd_T31 l0 x9_1).f1) ((rd_T31 l0 x9_1).f2) t340 t341 t342 t343 t344 t345 t348 _ ?side1 ?side2 A7.out).mono ?_); (case side1 => exact Kd.C_below HR338_5.out (by repeat (first | (with_reducible first | exact HB.out | apply below_alloc | apply pw_below_drewN | apply below_drew1 | refine below_set ?_ GE339.out) | exact HB.out))); (case side2 => exact HC338_5.out); rintro e w11 ⟨v346, rfl, ho0, hb⟩; refine ⟨_, rfl, ?_⟩; have n0_ := Aside0.mk (Kd.S_elder' (by (with_reducible repeat (first | apply Kd.S_alloc | apply Kd.S_drewN | apply Kd.S_drew)); exact (Kd.S_mono (Kd.S_far (p := ⟨gb339, 6, none⟩) (Kd.S_far (p := ⟨gb339, 5, none⟩) (Kd.S_far (p := ⟨gb339, 4, none⟩) (Kd.S_far (p := ⟨gb339, 3, none⟩) (Kd.S_far (p := ⟨gb339, 2, none⟩) (Kd.S_far (p := ⟨gb339, 1, none⟩) (Kd.S_far (p := ⟨gb339, 0, none⟩) (Kd.S_mono HO_3.out (fun k_ hk => (⟨hk, hk.2⟩ : _ ∧ k_ ≠ gb339))) (fun _ hk => hk.2) (.int .i64 ((rd_T31 l0 x9_1).f0.f0.f0))) (fun _ hk => hk.2) (.int .i64 ((rd_T31 l0 x9_1).f0.f0.f1))) (fun _ hk => hk.2) (.int .i64 ((rd_T31 l0 x9_1).f0.f1))) (fun _ hk => hk.2) (.int .i64 ((rd_T31 l0 x9_1).f0.f2))) (fun _ hk => hk.2) (.int .i64 ((rd_T31 l0 x9_1).f0.f3))) (fun _ hk => hk.2) (.slice A338_5 ((rd_T31 l0 x9_1).f1).length c338_5)) (fun _ hk => hk.2) (.int .i64 ((rd_T31 l0 x9_1).f2))) (fun _ h_ => h_.1))) (Kd.R_base ho0) hb); have n1_ := Aside0.mk (Kd.R_lower ho0 (below_size (by repeat (first | (with_reducible first | exact HB.out | apply below_alloc | apply pw_below_drewN | apply below_drew1 | refine below_set ?_ GE339.out) | exact HB.out)))); have n2_ := Aside0.mk (blk_below (g := gb339) (o := .cells #[.int .i64 ((rd_T31 l0 x9_1).f0.f0.f0), .int .i64 ((rd_T31 l0 x9_1).f0.f0.f1), .int .i64 ((rd_T31 l0 x9_1).f0.f1), .int .i64 ((rd_T31 l0 x9_1).f0.f2), .int .i64 ((rd_T31 l0 x9_1).f0.f3), .slice A338_5 ((rd_T31 l0 x9_1).f1).length c338_5, .int .i64 ((rd_T31 l0 x9_1).f2)] 31 (0, 0)) (by (with_reducible repeat (first | refine blk_drewN ?_ _ | refine blk_drew ?_ | refine blk_alloc ?_ _)); refine blk_put (cs := #[.int .i64 ((rd_T31 l0 x9_1).f0.f0.f0), .int .i64 ((rd_T31 l0 x9_1).f0.f0.f1), .int .i64 ((rd_T31 l0 x9_1).f0.f1), .int .i64 ((rd_T31 l0 x9_1).f0.f2), .int .i64 ((rd_T31 l0 x9_1).f0.f3), .slice A338_5 ((rd_T31 l0 x9_1).f1).length c338_5, .int .i64 0]) ?_ 6 _ rfl; (with_reducible repeat (first | refine blk_drewN ?_ _ | refine blk_drew ?_ | refine blk_alloc ?_ _)); refine blk_put (cs := #[.int .i64 ((rd_T31 l0 x9_1).f0.f0.f0), .int .i64 ((rd_T31 l0 x9_1).f0.f0.f1), .int .i64 ((rd_T31 l0 x9_1).f0.f1), .int .i64 ((rd_T31 l0 x9_1).f0.f2), .int .i64 ((rd_T31 l0 x9_1).f0.f3), .slice none 0 0, .int .i64 0]) ?_ 5 _ rfl; (with_reducible repeat (first | refine blk_drewN ?_ _ | refine blk_drew ?_ | refine blk_alloc ?_ _)); refine blk_put (cs := #[.int .i64 ((rd_T31 l0 x9_1).f0.f0.f0), .int .i64 ((rd_T31 l0 x9_1).f0.f0.f1), .int .i64 ((rd_T31 l0 x9_1).f0.f1), .int .i64 ((rd_T31 l0 x9_1).f0.f2), .int .i64 0, .slice none 0 0, .int .i64 0]) ?_ 4 _ rfl; (with_reducible repeat (first | refine blk_drewN ?_ _ | refine blk_drew ?_ | refine blk_alloc ?_ _)); refine blk_put (cs := #[.int .i64 ((rd_T31 l0 x9_1).f0.f0.f0), .int .i64 ((rd_T31 l0 x9_1).f0.f0.f1), .int .i64 ((rd_T31 l0 x9_1).f0.f1), .int .i64 0, .int .i64 0, .slice none 0 0, .int .i64 0]) ?_ 3 _ rfl; (with_reducible repeat (first | refine blk_drewN ?_ _ | refine blk_drew ?_ | refine blk_alloc ?_ _)); refine blk_put (cs := #[.int .i64 ((rd_T31 l0 x9_1).f0.f0.f0), .int .i64 ((rd_T31 l0 x9_1).f0.f0.f1), .int .i64 0, .int .i64 0, .int .i64 0, .slice none 0 0, .int .i64 0]) ?_ 2 _ rfl; (with_reducible repeat (first | refine blk_drewN ?_ _ | refine blk_drew ?_ | refine blk_alloc ?_ _)); refine blk_put (cs := #[.int .i64 ((rd_T31 l0 x9_1).f0.f0.f0), .int .i64 0, .int .i64 0, .int .i64 0, .int .i64 0, .slice none 0 0, .int .i64 0]) ?_ 1 _ rfl; (with_reducible repeat (first | refine blk_drewN ?_ _ | refine blk_drew ?_ | refine blk_alloc ?_ _)); refine blk_put (cs := #[.int .i64 0, .int .i64 0, .int .i64 0, .int .i64 0, .int .i64 0, .slice none 0 0, .int .i64 0]) ?_ 0 _ rfl; (with_reducible repeat (first | refine blk_drewN ?_ _ | refine blk_drew ?_ | refine blk_alloc ?_ _)); exact BK339.out) hb); have n3_ := Aside0.mk (below_step (by repeat (first | (with_reducible first | exact HB.out | apply below_alloc | apply pw_below_drewN | apply below_drew1 | refine below_set ?_ GE339.out) | exact HB.out)) hb); clear HO_3; clear BK339; clear HB; have HO_3 := n0_; have HO347 := n1_; have BK339 := n2_; have HB := n3_; clear n0_ n1_ n2_ n3_; (try clear hb); (try clear hb2); (try clear hk); (try clear hi); (try clear ho0); obtain ⟨Ao13, co13, eo13⟩ := Kd.R_slice HO347.out; subst eo13) | ((with_reducible refine gate_builtin (b := .append) (xs := #[.tmp 13, .tmp 16]) rfl ?_); at_builtin; refine Kd.S_append k31 (w0 := w) w.heap.size rfl (.tmp 13) (.tmp 16) 63 31 (.agg #[(.int .i64 0), (.int .i64 0), (.int .i64 0), (.int .i64 0), (.int .i64 0), (.slice none 0 0), (.int .i64 0)]) 72 rfl Try.underlying63 info31 rfl (by decide) (by omega) u3 x3_1 (⟨(⟨(⟨t340, t341⟩ : S26), t342, t343, t344⟩ : S28), t345, t348⟩ : S31) [.int .i64 t340, .int .i64 t341, .int .i64 t342, .int .i64 t343, .int .i64 t344, .slice Ao13 t345.length co13, .int .i64 t348] (fun k_ => k_ ≠ gb339) (fun k_ => some k_ = (.slice Ao13 t345.length co13 : Value).ownBlock) rfl rfl ?aP (fun k_ hk_ => ((Kd.R_mono (ok' := fun k_ => ((fun k_ => k_ ≠ gb339)) k_ ∧ some k_ ≠ (u3 : Value).ownBlock) (Kd.R_types (Kd.R_apart' (HO347.out) (Kd.S_typed HO_3.out) (by decide)) BK339.out (by decide)) (fun k_ hk => ⟨hk.2, hk.1.2⟩))).1 k_ hk_.symm) ?aF ?aO ?aB ?aS ?aL ?_; (case aP => exact k31_mkM _ _ _ (⟨(⟨(⟨t340, t341⟩ : S26), t342, t343, t344⟩ : S28), t345, t348⟩ : S31) (Kd.R_mono (Kd.R_tight rfl (Kd.R_mono (ok' := fun k_ => ((fun k_ => k_ ≠ gb339)) k_ ∧ some k_ ≠ (u3 : Value).ownBlock) (Kd.R_types (Kd.R_apart' (HO347.out) (Kd.S_typed HO_3.out) (by decide)) BK339.out (by decide)) (fun k_ hk => ⟨hk.2, hk.1.2⟩))) (fun _ h_ => h_))); (case aB => exact (by repeat (first | (with_reducible first | exact HB.out | apply below_alloc | apply pw_below_drewN | apply below_drew1 | refine below_set ?_ GE339.out) | exact HB.out))); (case aF => exact (fun k_ hk => Kd.freshB (g := gb339) (o := .cells #[.int .i64 ((rd_T31 l0 x9_1).f0.f0.f0), .int .i64 ((rd_T31 l0 x9_1).f0.f0.f1), .int .i64 ((rd_T31 l0 x9_1).f0.f1), .int .i64 ((rd_T31 l0 x9_1).f0.f2), .int .i64 ((rd_T31 l0 x9_1).f0.f3), .slice A338_5 ((rd_T31 l0 x9_1).f1).length c338_5, .int .i64 ((rd_T31 l0 x9_1).f2)] 31 (0, 0)) (by (with_reducible repeat (first | refine blk_drewN ?_ _ | refine blk_drew ?_ | refine blk_alloc ?_ _)); exact BK339.out) k_ hk)); (case aO => exact (by (with_reducible repeat (first | apply Kd.S_alloc | apply Kd.S_drewN | apply Kd.S_drew)); exact Kd.S_mono HO_3.out (fun k_ hk => ⟨hk.1.2, fun e_ => hk.2 e_⟩))); (case aS => exact (below_size (by repeat (first | (with_reducible first | exact HB.out | apply below_alloc | apply pw_below_drewN | apply below_drew1 | refine below_set ?_ GE339.out) | exact HB.out)))); (case aL => have := LMc8.out; omega); intro v350 w12 ho hb hg hat; rw [← Ny349.out] at ho; have n0_ := Aside0.mk (blk_grown (g := gb339) (o := .cells #[.int .i64 ((rd_T31 l0 x9_1).f0.f0.f0), .int .i64 ((rd_T31 l0 x9_1).f0.f0.f1), .int .i64 ((rd_T31 l0 x9_1).f0.f1), .int .i64 ((rd_T31 l0 x9_1).f0.f2), .int .i64 ((rd_T31 l0 x9_1).f0.f3), .slice A338_5 ((rd_T31 l0 x9_1).f1).length c338_5, .int .i64 ((rd_T31 l0 x9_1).f2)] 31 (0, 0)) (by (with_reducible repeat (first | refine blk_drewN ?_ _ | refine blk_drew ?_ | refine blk_alloc ?_ _)); exact BK339.out) hg (Kd.S_away HO_3.out (fun _ hk => hk.1.2))); have n1_ := Aside0.mk (hb); have n2_ := Aside0.mk (ho); clear BK339; clear HB; clear HO_3; clear HO347; have BK339 := n0_; have HB := n1_; have HO351 := n2_; clear n0_ n1_ n2_; clear ho hb hg hat))
              go_roundg k1
              case measure => have := HK1.out; omega
              case rel => exact ⟨(y349), (wrap64 (x9_1 + 1)), (by first | rfl | (simp; done) | (simp [*]; done)), H', ⟨by have := HK1.out; omega⟩, ⟨by (with_reducible repeat (first | apply Kd.S_alloc | apply Kd.S_drewN | apply Kd.S_drew)); exact Kd.S_mono HO351.out (fun _ hk => trivial)⟩, ⟨by repeat (first | (with_reducible first | exact HB.out | apply below_alloc | apply pw_below_drewN | apply below_drew1 | refine below_set ?_ GE339.out) | exact HB.out)⟩⟩
            · rw [if_neg c8] at H
              exact absurd H (by simp)
          · rw [if_neg c6] at H
            exact absurd H (by simp)
        · rw [if_neg c5] at H
          exact absurd H (by simp)
      · rw [if_neg c4] at H
        have c4b0 : decide (x9_1 < (l0.length : Int)) = false := decide_eq_false c4
        clear c4
        obtain rfl := Option.some.inj H
        go_wp2
        go_ret
        exact ⟨_, by first | rfl | (simp [errW_none, errW_some] <;> rfl) | (simp [*, errW_none, errW_some] <;> rfl), by (with_reducible repeat (first | apply Kd.S_alloc | apply Kd.S_drewN | apply Kd.S_drew)); exact HO_3.out, by repeat (first | (with_reducible first | exact HB.out | apply below_alloc | apply pw_below_drewN | apply below_drew1) | exact HB.out)⟩

/-! ### impl_has: function 95 -/
def impl_has.l0 : Nat → Int → List Int → Int → Int → Option (Bool)
  | 0, _, _, _, _ => none
  | k + 1, x1, x7, x8, x9 => if x9 < x8 then (if 0 ≤ x9 then (if x9 < (x7.length : Int) then (if (rd x7 x9) = x1 then (some true) else (impl_has.l0 k x1 x7 x8 (wrap64 (x9 + 1)))) else (none)) else (none)) else (some false)
def impl_has.f (k : Nat) (l0 : List Int) (a1 : Int) : Option (Bool) := impl_has.l0 k a1 l0 (l0.length : Int) 0
theorem impl_has.mono_l : ∀ k, (∀ y0 y1 y2 y3, LeO (impl_has.l0 k y0 y1 y2 y3) (impl_has.l0 (k + 1) y0 y1 y2 y3))
  | 0 => fun _ _ _ _ r h => by simp [impl_has.l0] at h
  | k + 1 => by
    have ih0 := impl_has.mono_l k
    · intro y0 y1 y2 y3
      unfold impl_has.l0
      repeat' first
      | (with_reducible exact ih0 _ _ _ _)
      | (with_reducible exact LeO.refl _)
      | (with_reducible exact LeO.none _)
      | (with_reducible refine LeO.ite ?_ ?_)
      | (with_reducible refine LeO.bind ?_ (fun _ => ?_))
      | exact ih0 _ _ _ _
      | exact LeO.none _
      | refine LeO.ite ?_ ?_
      | refine LeO.bind ?_ (fun _ => ?_)
theorem impl_has.mono : ∀ a0 a1 k, LeO (impl_has.f k a0 a1) (impl_has.f (k + 1) a0 a1) := by
  intro a0 a1 k
  have ih0 := impl_has.mono_l k
  unfold impl_has.f
  repeat' first
      | (with_reducible exact ih0 _ _ _ _)
      | (with_reducible exact LeO.refl _)
      | (with_reducible exact LeO.none _)
      | (with_reducible refine LeO.ite ?_ ?_)
      | (with_reducible refine LeO.bind ?_ (fun _ => ?_))
      | exact ih0 _ _ _ _
      | exact LeO.none _
      | refine LeO.ite ?_ ?_
      | refine LeO.bind ?_ (fun _ => ?_)
set_option maxHeartbeats 8000000 in
set_option maxRecDepth 100000 in
theorem impl_has.calls (k : Nat) (A0 : Option Addr) (c0 : Nat) (l0 : List Int) (a1 : Int) (r : Bool) (w : World) (hr0 : Kd.C (Kd.int .i64) w A0 l0.length l0) (hc0 : l0.length ≤ c0) (h : impl_has.f k l0 a1 = some r) :
    Calls Try.prog 95 #[.slice A0 l0.length c0, .int .i64 a1] w fun e w' => e = .returned (.bool r) ∧ Drawn0 w w' := by
  have HR0 := Aside0.mk hr0
  have HC0 := Aside0.mk hc0
  clear hr0 hc0
  have H : (impl_has.l0 k a1 l0 (l0.length : Int) 0) = some r := h
  clear h
  have H' := Aside0.mk H
  clear H
  go_enter Try.func95, Try.ntmps95
  go_wp2
  go_loopg [9] k (fun kq v9 w' => ∃ (x9_1 : Int), v9 = .int .i64 x9_1 ∧ Aside0 (impl_has.l0 kq a1 l0 (l0.length : Int) x9_1 = some r) ∧ Aside0 (kq ≤ k) ∧ Drawn0 w w')
  case atStart => exact ⟨(0), (by first | rfl | (simp; done) | (simp [*]; done)), H', ⟨Nat.le_refl _⟩, by repeat (first | exact Drawn0.refl _ | apply Drawn0.step)⟩
  case round =>
    clear H'
    try clear p2
    obtain ⟨x9_1, rfl, HA, HK1, ⟨m1, rfl⟩⟩ := hrel
    cases gk with
    | zero => exact absurd HA.out (by simp [impl_has.l0])
    | succ k1 =>
      have H := HA.out
      clear HA
      simp only [impl_has.l0] at H
      by_cases c3 : x9_1 < (l0.length : Int)
      · rw [if_pos c3] at H
        have c3b0 : decide (x9_1 < (l0.length : Int)) = true := decide_eq_true c3
        clear c3
        by_cases c4 : 0 ≤ x9_1
        · rw [if_pos c4] at H
          have c4b0 : decide (0 ≤ x9_1) = true := decide_eq_true c4
          clear c4
          by_cases c5 : x9_1 < (l0.length : Int)
          · rw [if_pos c5] at H
            have c5b0 : decide (x9_1 < (l0.length : Int)) = true := decide_eq_true c5
            clear c5
            by_cases c6 : (rd l0 x9_1) = a1
            · rw [if_pos c6] at H
              have c6b0 : ((rd l0 x9_1) == a1) = true := beq_iff_eq.mpr c6
              have c6b1 : ((rd l0 x9_1) != a1) = false := bne_eq_false_iff_eq.mpr c6
              clear c6
              obtain rfl := Option.some.inj H
              have p352 : 0 ≤ (x9_1 : Int) := of_decide_eq_true (by first | (with_reducible assumption) | assumption)
              have q352 : x9_1 < (l0.length : Int) := of_decide_eq_true (by first | (with_reducible assumption) | assumption)
              obtain ⟨ad352, e352, hx352_0⟩ := Kd.at_int HR0.out x9_1 p352 q352
              cases e352
              replace p352 := eq_true p352
              replace q352 := eq_true q352
              go_wp2
              go_ret
              exact ⟨by first | rfl | (simp; done) | (simp [*]; done), by repeat (first | exact Drawn0.refl _ | apply Drawn0.step)⟩
            · rw [if_neg c6] at H
              have c6b0 : ((rd l0 x9_1) == a1) = false := beq_eq_false_iff_ne.mpr c6
              have c6b1 : ((rd l0 x9_1) != a1) = true := bne_iff_ne.mpr c6
              have H' := Aside0.mk H
              clear H
              have p352 : 0 ≤ (x9_1 : Int) := of_decide_eq_true (by first | (with_reducible assumption) | assumption)
              have q352 : x9_1 < (l0.length : Int) := of_decide_eq_true (by first | (with_reducible assumption) | assumption)
              obtain ⟨ad352, e352, hx352_0⟩ := Kd.at_int HR0.out x9_1 p352 q352
              cases e352
              replace p352 := eq_true p352
              replace q352 := eq_true q352
              go_wp2
              go_roundg k1
              case measure => have := HK1.out; omega
              case rel => exact ⟨(wrap64 (x9_1 + 1)), (by first | rfl | (simp; done) | (simp [*]; done)), H', ⟨by have := HK1.out; omega⟩, by repeat (first | exact Drawn0.refl _ | apply Drawn0.step)⟩
          · rw [if_neg c5] at H
            exact absurd H (by simp)
        · rw [if_neg c4] at H
          exact absurd H (by simp)
      · rw [if_neg c3] at H
        have c3b0 : decide (x9_1 < (l0.length : Int)) = false := decide_eq_false c3
        clear c3
        obtain rfl := Option.some.inj H
        go_wp2
        go_ret
        exact ⟨by first | rfl | (simp; done) | (simp [*]; done), by repeat (first | exact Drawn0.refl _ | apply Drawn0.step)⟩

/-! ### impl_ReplaceHost: function 58 -/
mutual
def impl_ReplaceHost.j0 : Nat → List (S31) → Int → List Int → List (S31) → Bool → Option ((List (S31)) × Bool)
  | 0, _, _, _, _, _ => none
  | k + 1, x0, x1, x2, x8, x28 => if x28 = true then (some (x8, false)) else (impl_ReplaceHost.l0 k x0 x1 x2 x8 x2 (x2.length : Int) 0)
def impl_ReplaceHost.l0 : Nat → List (S31) → Int → List Int → List (S31) → List Int → Int → Int → Option ((List (S31)) × Bool)
  | 0, _, _, _, _, _, _, _ => none
  | k + 1, x0, x1, x2, x8, x30, x31, x32 => if x32 < x31 then (if 0 ≤ x32 then (if x32 < (x30.length : Int) then (if (rd x30 x32) < 0 then (some (x8, false)) else (if (rd x30 x32) ≥ (x0.length : Int) then (some (x8, false)) else (impl_ReplaceHost.l0 k x0 x1 x2 x8 x30 x31 (wrap64 (x32 + 1))))) else (none)) else (none)) else (if 0 ≤ x1 then (if x1 < (x0.length : Int) then ((impl_StolenShares.f k x0 x2).bind fun t360 => ((impl_Interpolate.f k t360 ((rd_T31 x0 x1).f0.f0.f0)).bind fun bt363 => (if bt363.2 = true then ((impl_StartHost.f ((rd_T31 x0 x1).f0.f0.f0) bt363.1 ((rd_T31 x0 x1).f0.f1) ((rd_T31 x0 x1).f0.f2) ((rd_T31 x0 x1).f0.f3)).bind fun bt365 => (if x1 < (x8.length : Int) then (some ((x8.set (x1 : Int).toNat (⟨(⟨(⟨bt365.1, bt365.2.1⟩ : S26), bt365.2.2.1, bt365.2.2.2.1, bt365.2.2.2.2.1⟩ : S28), bt365.2.2.2.2.2.1, bt365.2.2.2.2.2.2⟩ : S31)), true)) else (none))) else (some (x8, false))))) else (none)) else (none))
end
def impl_ReplaceHost.f (k : Nat) (l0 : List (S31)) (a1 : Int) (l2 : List Int) : Option ((List (S31)) × Bool) := (impl_copyHosts.f k l0).bind fun t353 => (if a1 < 0 then (impl_ReplaceHost.j0 k l0 a1 l2 t353 true) else (if a1 ≥ (l0.length : Int) then (impl_ReplaceHost.j0 k l0 a1 l2 t353 true) else ((impl_has.f k l2 a1).bind fun t356 => (impl_ReplaceHost.j0 k l0 a1 l2 t353 t356))))
theorem impl_ReplaceHost.mono_l : ∀ k, (∀ y0 y1 y2 y3 y4, LeO (impl_ReplaceHost.j0 k y0 y1 y2 y3 y4) (impl_ReplaceHost.j0 (k + 1) y0 y1 y2 y3 y4)) ∧ (∀ y0 y1 y2 y3 y4 y5 y6, LeO (impl_ReplaceHost.l0 k y0 y1 y2 y3 y4 y5 y6) (impl_ReplaceHost.l0 (k + 1) y0 y1 y2 y3 y4 y5 y6))
  | 0 => ⟨fun _ _ _ _ _ r h => by simp [impl_ReplaceHost.j0] at h, fun _ _ _ _ _ _ _ r h => by simp [impl_ReplaceHost.l0] at h⟩
  | k + 1 => by
    obtain ⟨ih0, ih1⟩ := impl_ReplaceHost.mono_l k
    refine ⟨?_, ?_⟩
    · intro y0 y1 y2 y3 y4
      unfold impl_ReplaceHost.j0
      repeat' first
      | (with_reducible exact ih0 _ _ _ _ _)
      | (with_reducible exact ih1 _ _ _ _ _ _ _)
      | (with_reducible exact impl_Interpolate.mono _ _ _)
      | (with_reducible exact impl_StolenShares.mono _ _ _)
      | (with_reducible exact impl_copyHosts.mono _ _)
      | (with_reducible exact impl_has.mono _ _ _)
      | (with_reducible exact LeO.refl _)
      | (with_reducible exact LeO.none _)
      | (with_reducible refine LeO.ite ?_ ?_)
      | (with_reducible refine LeO.bind ?_ (fun _ => ?_))
      | exact ih0 _ _ _ _ _
      | exact ih1 _ _ _ _ _ _ _
      | exact impl_Interpolate.mono _ _ _
      | exact impl_StolenShares.mono _ _ _
      | exact impl_copyHosts.mono _ _
      | exact impl_has.mono _ _ _
      | exact LeO.none _
      | refine LeO.ite ?_ ?_
      | refine LeO.bind ?_ (fun _ => ?_)
    · intro y0 y1 y2 y3 y4 y5 y6
      unfold impl_ReplaceHost.l0
      repeat' first
      | (with_reducible exact ih0 _ _ _ _ _)
      | (with_reducible exact ih1 _ _ _ _ _ _ _)
      | (with_reducible exact impl_Interpolate.mono _ _ _)
      | (with_reducible exact impl_StolenShares.mono _ _ _)
      | (with_reducible exact impl_copyHosts.mono _ _)
      | (with_reducible exact impl_has.mono _ _ _)
      | (with_reducible exact LeO.refl _)
      | (with_reducible exact LeO.none _)
      | (with_reducible refine LeO.ite ?_ ?_)
      | (with_reducible refine LeO.bind ?_ (fun _ => ?_))
      | exact ih0 _ _ _ _ _
      | exact ih1 _ _ _ _ _ _ _
      | exact impl_Interpolate.mono _ _ _
      | exact impl_StolenShares.mono _ _ _
      | exact impl_copyHosts.mono _ _
      | exact impl_has.mono _ _ _
      | exact LeO.none _
      | refine LeO.ite ?_ ?_
      | refine LeO.bind ?_ (fun _ => ?_)
theorem impl_ReplaceHost.mono : ∀ a0 a1 a2 k, LeO (impl_ReplaceHost.f k a0 a1 a2) (impl_ReplaceHost.f (k + 1) a0 a1 a2) := by
  intro a0 a1 a2 k
  obtain ⟨ih0, ih1⟩ := impl_ReplaceHost.mono_l k
  unfold impl_ReplaceHost.f
  repeat' first
      | (with_reducible exact ih0 _ _ _ _ _)
      | (with_reducible exact ih1 _ _ _ _ _ _ _)
      | (with_reducible exact impl_Interpolate.mono _ _ _)
      | (with_reducible exact impl_StolenShares.mono _ _ _)
      | (with_reducible exact impl_copyHosts.mono _ _)
      | (with_reducible exact impl_has.mono _ _ _)
      | (with_reducible exact LeO.refl _)
      | (with_reducible exact LeO.none _)
      | (with_reducible refine LeO.ite ?_ ?_)
      | (with_reducible refine LeO.bind ?_ (fun _ => ?_))
      | exact ih0 _ _ _ _ _
      | exact ih1 _ _ _ _ _ _ _
      | exact impl_Interpolate.mono _ _ _
      | exact impl_StolenShares.mono _ _ _
      | exact impl_copyHosts.mono _ _
      | exact impl_has.mono _ _ _
      | exact LeO.none _
      | refine LeO.ite ?_ ?_
      | refine LeO.bind ?_ (fun _ => ?_)
def impl_ReplaceHost.T11 : Bool × List (List Nat × List Nat) := (true, [([], []), ([], []), ([0, 1], [0, 1]), ([], []), ([3], [3]), ([4], [4]), ([2, 5, 2], [2, 5]), ([6], [6]), ([7], [7]), ([7], [7]), ([8, 6, 0, 1, 2, 3, 4, 5, 6, 7, 8], [8]), ([9, 10, 0, 1, 2, 3, 4, 5, 6, 7, 8, 9, 10], [9])])
def impl_ReplaceHost.B11 : List Nat := [0, 0, 3, 0, 8, 24, 63, 127, 255, 255, 511, 2047]
theorem impl_ReplaceHost.tab11 : rtab .any (opsOf Try.f58 11) = impl_ReplaceHost.T11 := by kernel_rfl
theorem impl_ReplaceHost.bits11 : waitsOk impl_ReplaceHost.T11.2 impl_ReplaceHost.B11 = true := by kernel_rfl
set_option maxHeartbeats 8000000 in
set_option maxRecDepth 100000 in
theorem impl_ReplaceHost.calls (k : Nat) (A0 : Option Addr) (c0 : Nat) (l0 : List (S31)) (a1 : Int) (A2 : Option Addr) (c2 : Nat) (l2 : List Int) (r1 : List (S31)) (r2 : Bool) (w : World) (hr0 : Kd.C k31 w A0 l0.length l0) (hc0 : l0.length ≤ c0) (hr2 : Kd.C (Kd.int .i64) w A2 l2.length l2) (hc2 : l2.length ≤ c2) (h : impl_ReplaceHost.f k l0 a1 l2 = some (r1, r2)) :
    Calls Try.prog 58 #[.slice A0 l0.length c0, .int .i64 a1, .slice A2 l2.length c2] w fun e w' => ∃ v0_ : Value, e = .returned (.tuple #[v0_, .bool r2]) ∧ Kd.S k31 31 w' w.heap.size (fun _ => True) v0_ r1 ∧ Below w.heap.size w w' := by
  have hu28 := Try.underlying28
  have hu31 := Try.underlying31
  have HR0 := Aside0.mk hr0
  have HC0 := Aside0.mk hc0
  clear hr0 hc0
  have HR2 := Aside0.mk hr2
  have HC2 := Aside0.mk hc2
  clear hr2 hc2
  have HB := Aside0.mk (Below.refl w.heap.size w)
  have H : ((impl_copyHosts.f k l0).bind fun t353 => (if a1 < 0 then (impl_ReplaceHost.j0 k l0 a1 l2 t353 true) else (if a1 ≥ (l0.length : Int) then (impl_ReplaceHost.j0 k l0 a1 l2 t353 true) else ((impl_has.f k l2 a1).bind fun t356 => (impl_ReplaceHost.j0 k l0 a1 l2 t353 t356))))) = some (r1, r2) := h
  clear h
  replace H := Option.bind_eq_some_iff.mp H
  obtain ⟨t353, A40, H⟩ := H
  replace H : (if a1 < 0 then (impl_ReplaceHost.j0 k l0 a1 l2 t353 true) else (if a1 ≥ (l0.length : Int) then (impl_ReplaceHost.j0 k l0 a1 l2 t353 true) else ((impl_has.f k l2 a1).bind fun t356 => (impl_ReplaceHost.j0 k l0 a1 l2 t353 t356)))) = some (r1, r2) := H
  have A4 := Aside0.mk A40
  clear A40
  have HC5 := Aside0.mk H
  clear H
  go_enter Try.func58, Try.ntmps58
  go_upto_region 2 with (first | ((with_reducible refine gate_callee (f := 93) rfl ?_); refine goesL_ (some 15) rfl rfl Try.func93 (by kernel_rfl) rfl #[.slice A0 l0.length c0] rfl (by (try simp only [List.map_toArray, List.map_cons, List.map_nil]); first | done | rfl | (simp only [List.length_drop, List.length_take]; rfl)) ?_; (with_reducible refine (impl_copyHosts.calls k _ _ l0 t353 _ ?side1 ?side2 A4.out).mono ?_); (case side1 => repeat (first | exact HR0.out | (with_reducible refine Kd.C_alloc ?_ _) | (with_reducible refine Kd.C_drewN ?_ _) | (with_reducible refine Kd.C_drew ?_))); (case side2 => exact HC0.out); rintro e w6 ⟨v354, rfl, ho0, hb⟩; refine ⟨_, rfl, ?_⟩; have n0_ := Aside0.mk (Kd.S_lower ho0 (below_size (by repeat (first | (with_reducible first | exact HB.out | apply below_alloc | apply pw_below_drewN | apply below_drew1) | exact HB.out)))); have n1_ := Aside0.mk (below_step (by repeat (first | (with_reducible first | exact HB.out | apply below_alloc | apply pw_below_drewN | apply below_drew1) | exact HB.out)) hb); clear HB; have HO355 := n0_; have HB := n1_; clear n0_ n1_; (try clear hb); (try clear hb2); (try clear hk); (try clear hi); (try clear ho0)))
  (try simp only [Act.put, List.setIfInBounds_toArray, List.set_cons_zero, List.set_cons_succ])
  go_cut [28] (fun v28 wc => ∃ (kq : Nat) (x28_4 : Bool), v28 = .bool x28_4 ∧ Aside0 (impl_ReplaceHost.j0 kq l0 a1 l2 t353 x28_4 = some (r1, r2)) ∧ Aside0 (kq ≤ k) ∧ Aside0 (Kd.S k31 31 wc w.heap.size (fun _ => True) v354 t353) ∧ Aside0 (Below w.heap.size w wc))
  case first =>
    have H := HC5.out
    clear HC5
    by_cases c7 : a1 < 0
    · rw [if_pos c7] at H
      have c7b0 : decide (a1 < 0) = true := decide_eq_true c7
      clear c7
      (first | rw [c7b0] | (simp only [i64_w, i32_w]; rw [c7b0]) | skip)
      have H' := Aside0.mk H
      clear H
      go_wp2
      go_meet
      case rel => exact ⟨_, (true), (by first | rfl | (simp; done) | (simp [*]; done)), H', ⟨by first | omega | exact Nat.le_refl _⟩, ⟨by (with_reducible repeat (first | apply Kd.S_alloc | apply Kd.S_drewN | apply Kd.S_drew)); exact HO355.out⟩, ⟨by repeat (first | (with_reducible first | exact HB.out | apply below_alloc | apply pw_below_drewN | apply below_drew1) | exact HB.out)⟩⟩
    · rw [if_neg c7] at H
      have c7b0 : decide (a1 < 0) = false := decide_eq_false c7
      clear c7
      (first | rw [c7b0] | (simp only [i64_w, i32_w]; rw [c7b0]) | skip)
      by_cases c8 : a1 ≥ (l0.length : Int)
      · rw [if_pos c8] at H
        have c8b0 : decide ((l0.length : Int) ≤ a1) = true := decide_eq_true c8
        clear c8
        have H' := Aside0.mk H
        clear H
        go_wp2
        go_meet
        case rel => exact ⟨_, (true), (by first | rfl | (simp; done) | (simp [*]; done)), H', ⟨by first | omega | exact Nat.le_refl _⟩, ⟨by (with_reducible repeat (first | apply Kd.S_alloc | apply Kd.S_drewN | apply Kd.S_drew)); exact HO355.out⟩, ⟨by repeat (first | (with_reducible first | exact HB.out | apply below_alloc | apply pw_below_drewN | apply below_drew1) | exact HB.out)⟩⟩
      · rw [if_neg c8] at H
        have c8b0 : decide ((l0.length : Int) ≤ a1) = false := decide_eq_false c8
        clear c8
        replace H := Option.bind_eq_some_iff.mp H
        obtain ⟨t356, A90, H⟩ := H
        replace H : (impl_ReplaceHost.j0 k l0 a1 l2 t353 t356) = some (r1, r2) := H
        have A9 := Aside0.mk A90
        clear A90
        have H' := Aside0.mk H
        clear H
        go_wp2_with (first | (go_at_call 95; (with_reducible refine (impl_has.calls k _ _ l2 a1 t356 _ ?side1 ?side2 A9.out).mono ?_); (case side1 => repeat (first | exact (Kd.C_below HR2.out HB.out) | (with_reducible refine Kd.C_alloc ?_ _) | (with_reducible refine Kd.C_drewN ?_ _) | (with_reducible refine Kd.C_drew ?_))); (case side2 => exact HC2.out); rintro e w' ⟨rfl, ⟨nd, rfl⟩⟩))
        go_meet
        case rel => exact ⟨_, (t356), (by first | rfl | (simp; done) | (simp [*]; done)), H', ⟨by first | omega | exact Nat.le_refl _⟩, ⟨by (with_reducible repeat (first | apply Kd.S_alloc | apply Kd.S_drewN | apply Kd.S_drew)); exact HO355.out⟩, ⟨by repeat (first | (with_reducible first | exact HB.out | apply below_alloc | apply pw_below_drewN | apply below_drew1) | exact HB.out)⟩⟩
  case rest =>
    clear HC5
    try clear c2
    try clear p2
    try clear c5
    try clear c7
    try clear c7b0
    try clear c8
    try clear c8b0
    try clear c9
    obtain ⟨kq, x28_4, rfl, HA, HJ4, HO_8, HB⟩ := hcut
    cases kq with
    | zero => exact absurd HA.out (by simp [impl_ReplaceHost.j0])
    | succ kj4 =>
      have H := HA.out
      clear HA
      simp only [impl_ReplaceHost.j0] at H
      by_cases c10 : x28_4 = true
      · subst c10
        have H1 : (some (t353, false)) = some (r1, r2) := by rw [if_pos rfl] at H; exact H
        clear H
        have H := H1
        clear H1
        simp only [Option.some.injEq, Prod.mk.injEq] at H
        obtain ⟨rfl, rfl⟩ := H
        go_wp2
        go_ret2
        exact ⟨_, by first | rfl | (simp [errW_none, errW_some] <;> rfl) | (simp [*, errW_none, errW_some] <;> rfl), by (with_reducible repeat (first | apply Kd.S_alloc | apply Kd.S_drewN | apply Kd.S_drew)); exact HO_8.out, by repeat (first | (with_reducible first | exact HB.out | apply below_alloc | apply pw_below_drewN | apply below_drew1) | exact HB.out)⟩
      · replace c10 := Bool.eq_false_iff.mpr c10
        subst c10
        have H1 : (impl_ReplaceHost.l0 kj4 l0 a1 l2 t353 l2 (l2.length : Int) 0) = some (r1, r2) := by rw [if_neg (show ¬ (false = true) by decide)] at H; exact H
        clear H
        have H := H1
        clear H1
        have H' := Aside0.mk H
        clear H
        go_wp2
        go_loopg [32] kj4 (fun kq v32 w' => ∃ (x32_2 : Int), v32 = .int .i64 x32_2 ∧ Aside0 (impl_ReplaceHost.l0 kq l0 a1 l2 t353 l2 (l2.length : Int) x32_2 = some (r1, r2)) ∧ Aside0 (kq ≤ kj4) ∧ Aside0 (Kd.S k31 31 w' w.heap.size (fun _ => True) v354 t353) ∧ Aside0 (Below w.heap.size w w'))
        case atStart => exact ⟨(0), (by first | rfl | (simp; done) | (simp [*]; done)), H', ⟨Nat.le_refl _⟩, ⟨by (with_reducible repeat (first | apply Kd.S_alloc | apply Kd.S_drewN | apply Kd.S_drew)); exact HO_8.out⟩, ⟨by repeat (first | (with_reducible first | exact HB.out | apply below_alloc | apply pw_below_drewN | apply below_drew1) | exact HB.out)⟩⟩
        case round =>
          clear H'
          try clear c1
          try clear c2
          try clear p2
          try clear c5
          try clear c7
          try clear c7b0
          try clear c8
          try clear c8b0
          try clear c9
          try clear c10
          try clear p2
          obtain ⟨x32_2, rfl, HA, HK2, HO_8, HB⟩ := hrel
          cases gk with
          | zero => exact absurd HA.out (by simp [impl_ReplaceHost.l0])
          | succ k2 =>
            have H := HA.out
            clear HA
            simp only [impl_ReplaceHost.l0] at H
            by_cases c11 : x32_2 < (l2.length : Int)
            · rw [if_pos c11] at H
              have c11b0 : decide (x32_2 < (l2.length : Int)) = true := decide_eq_true c11
              clear c11
              by_cases c12 : 0 ≤ x32_2
              · rw [if_pos c12] at H
                have c12b0 : decide (0 ≤ x32_2) = true := decide_eq_true c12
                clear c12
                by_cases c13 : x32_2 < (l2.length : Int)
                · rw [if_pos c13] at H
                  have c13b0 : decide (x32_2 < (l2.length : Int)) = true := decide_eq_true c13
                  clear c13
                  by_cases c14 : (rd l2 x32_2) < 0
                  · rw [if_pos c14] at H
                    have c14b0 : decide ((rd l2 x32_2) < 0) = true := decide_eq_true c14
                    clear c14
                    simp only [Option.some.injEq, Prod.mk.injEq] at H
                    obtain ⟨rfl, rfl⟩ := H
                    have p357 : 0 ≤ (x32_2 : Int) := of_decide_eq_true (by first | (with_reducible assumption) | assumption)
                    have q357 : x32_2 < (l2.length : Int) := of_decide_eq_true (by first | (with_reducible assumption) | assumption)
                    obtain ⟨ad357, e357, hx357_0⟩ := Kd.at_int HR2.out x32_2 p357 q357
                    cases e357
                    replace hx357_0 := (HB.out.cell (World.block_lt_of_cell? w _ hx357_0)).trans hx357_0
                    replace p357 := eq_true p357
                    replace q357 := eq_true q357
                    go_wp2
                    go_ret2
                    exact ⟨_, by first | rfl | (simp [errW_none, errW_some] <;> rfl) | (simp [*, errW_none, errW_some] <;> rfl), by (with_reducible repeat (first | apply Kd.S_alloc | apply Kd.S_drewN | apply Kd.S_drew)); exact HO_8.out, by repeat (first | (with_reducible first | exact HB.out | apply below_alloc | apply pw_below_drewN | apply below_drew1) | exact HB.out)⟩
                  · rw [if_neg c14] at H
                    have c14b0 : decide ((rd l2 x32_2) < 0) = false := decide_eq_false c14
                    clear c14
                    by_cases c15 : (rd l2 x32_2) ≥ (l0.length : Int)
                    · rw [if_pos c15] at H
                      have c15b0 : decide ((l0.length : Int) ≤ (rd l2 x32_2)) = true := decide_eq_true c15
                      clear c15
                      simp only [Option.some.injEq, Prod.mk.injEq] at H
                      obtain ⟨rfl, rfl⟩ := H
                      have p357 : 0 ≤ (x32_2 : Int) := of_decide_eq_true (by first | (with_reducible assumption) | assumption)
                      have q357 : x32_2 < (l2.length : Int) := of_decide_eq_true (by first | (with_reducible assumption) | assumption)
                      obtain ⟨ad357, e357, hx357_0⟩ := Kd.at_int HR2.out x32_2 p357 q357
                      cases e357
                      replace hx357_0 := (HB.out.cell (World.block_lt_of_cell? w _ hx357_0)).trans hx357_0
                      replace p357 := eq_true p357
                      replace q357 := eq_true q357
                      go_wp2
                      go_ret2
                      exact ⟨_, by first | rfl | (simp [errW_none, errW_some] <;> rfl) | (simp [*, errW_none, errW_some] <;> rfl), by (with_reducible repeat (first | apply Kd.S_alloc | apply Kd.S_drewN | apply Kd.S_drew)); exact HO_8.out, by repeat (first | (with_reducible first | exact HB.out | apply below_alloc | apply pw_below_drewN | apply below_drew1) | exact HB.out)⟩
                    · rw [if_neg c15] at H
                      have c15b0 : decide ((l0.length : Int) ≤ (rd l2 x32_2)) = false := decide_eq_false c15
                      clear c15
                      have H' := Aside0.mk H
                      clear H
                      have p357 : 0 ≤ (x32_2 : Int) := of_decide_eq_true (by first | (with_reducible assumption) | assumption)
                      have q357 : x32_2 < (l2.length : Int) := of_decide_eq_true (by first | (with_reducible assumption) | assumption)
                      obtain ⟨ad357, e357, hx357_0⟩ := Kd.at_int HR2.out x32_2 p357 q357
                      cases e357
                      replace hx357_0 := (HB.out.cell (World.block_lt_of_cell? w _ hx357_0)).trans hx357_0
                      replace p357 := eq_true p357
                      replace q357 := eq_true q357
                      go_wp2
                      go_roundg k2
                      case measure => have := HJ4.out; have := HK2.out; omega
                      case rel => exact ⟨(wrap64 (x32_2 + 1)), (by first | rfl | (simp; done) | (simp [*]; done)), H', ⟨by have := HJ4.out; have := HK2.out; omega⟩, ⟨by (with_reducible repeat (first | apply Kd.S_alloc | apply Kd.S_drewN | apply Kd.S_drew)); exact HO_8.out⟩, ⟨by repeat (first | (with_reducible first | exact HB.out | apply below_alloc | apply pw_below_drewN | apply below_drew1) | exact HB.out)⟩⟩
                · rw [if_neg c13] at H
                  exact absurd H (by simp)
              · rw [if_neg c12] at H
                exact absurd H (by simp)
            · rw [if_neg c11] at H
              have c11b0 : decide (x32_2 < (l2.length : Int)) = false := decide_eq_false c11
              clear c11
              by_cases c16 : 0 ≤ a1
              · rw [if_pos c16] at H
                have c16b0 : decide (0 ≤ a1) = true := decide_eq_true c16
                clear c16
                by_cases c17 : a1 < (l0.length : Int)
                · rw [if_pos c17] at H
                  have c17b0 : decide (a1 < (l0.length : Int)) = true := decide_eq_true c17
                  clear c17
                  replace H := Option.bind_eq_some_iff.mp H
                  obtain ⟨t360, A180, H⟩ := H
                  replace H : ((impl_Interpolate.f k2 t360 ((rd_T31 l0 a1).f0.f0.f0)).bind fun bt363 => (if bt363.2 = true then ((impl_StartHost.f ((rd_T31 l0 a1).f0.f0.f0) bt363.1 ((rd_T31 l0 a1).f0.f1) ((rd_T31 l0 a1).f0.f2) ((rd_T31 l0 a1).f0.f3)).bind fun bt365 => (if a1 < (t353.length : Int) then (some ((t353.set (a1 : Int).toNat (⟨(⟨(⟨bt365.1, bt365.2.1⟩ : S26), bt365.2.2.1, bt365.2.2.2.1, bt365.2.2.2.2.1⟩ : S28), bt365.2.2.2.2.2.1, bt365.2.2.2.2.2.2⟩ : S31)), true)) else (none))) else (some (t353, false)))) = some (r1, r2) := H
                  have A18 := Aside0.mk A180
                  clear A180
                  replace H := Option.bind_eq_some_iff.mp H
                  obtain ⟨⟨t363, t364⟩, A190, H⟩ := H
                  replace H : (if t364 = true then ((impl_StartHost.f ((rd_T31 l0 a1).f0.f0.f0) t363 ((rd_T31 l0 a1).f0.f1) ((rd_T31 l0 a1).f0.f2) ((rd_T31 l0 a1).f0.f3)).bind fun bt365 => (if a1 < (t353.length : Int) then (some ((t353.set (a1 : Int).toNat (⟨(⟨(⟨bt365.1, bt365.2.1⟩ : S26), bt365.2.2.1, bt365.2.2.2.1, bt365.2.2.2.2.1⟩ : S28), bt365.2.2.2.2.2.1, bt365.2.2.2.2.2.2⟩ : S31)), true)) else (none))) else (some (t353, false))) = some (r1, r2) := H
                  have A19 := Aside0.mk A190
                  clear A190
                  have HC20 := Aside0.mk H
                  clear H
                  have p358 : 0 ≤ (a1 : Int) := of_decide_eq_true (by first | (with_reducible assumption) | assumption)
                  have q358 : a1 < (l0.length : Int) := of_decide_eq_true (by first | (with_reducible assumption) | assumption)
                  obtain ⟨ad358, A358_5, c358_5, e358, hx358_0, hx358_1, hx358_2, hx358_3, hx358_4, hx358_5, hx358_6, hl358_5, hi358_5⟩ := at_T31 HR0.out a1 p358 q358
                  cases e358
                  replace hx358_0 := (HB.out.cell (World.block_lt_of_cell? w _ hx358_0)).trans hx358_0
                  replace hx358_1 := (HB.out.cell (World.block_lt_of_cell? w _ hx358_1)).trans hx358_1
                  replace hx358_2 := (HB.out.cell (World.block_lt_of_cell? w _ hx358_2)).trans hx358_2
                  replace hx358_3 := (HB.out.cell (World.block_lt_of_cell? w _ hx358_3)).trans hx358_3
                  replace hx358_4 := (HB.out.cell (World.block_lt_of_cell? w _ hx358_4)).trans hx358_4
                  replace hx358_5 := (HB.out.cell (World.block_lt_of_cell? w _ hx358_5)).trans hx358_5
                  replace hx358_6 := (HB.out.cell (World.block_lt_of_cell? w _ hx358_6)).trans hx358_6
                  have HR358_5 := Aside0.mk hi358_5
                  have HC358_5 := Aside0.mk hl358_5
                  clear hi358_5 hl358_5
                  replace p358 := eq_true p358
                  replace q358 := eq_true q358
                  try go_wp2_with (first | ((with_reducible refine gate_dst (N := 11) rfl ?_); (try (refine gate_guard (by rfl) ?_; dsimp only)); refine box_event ?hg (N := 11) ?hd (cs := #[.int .i64 0, .int .i64 0, .int .i64 0, .int .i64 0, .int .i64 0]) (t := 28) ?hr ?_; (case hd => rfl); (case hg => rfl); (case hr => first | (go_simp; done) | (go_simp; rfl)); intro gb359 hg w21 hbox hb; have n0_ := Aside0.mk (Kd.S_below (Kd.S_elderB (by (with_reducible repeat (first | apply Kd.S_alloc | apply Kd.S_drewN | apply Kd.S_drew)); exact HO_8.out) gb359 (Nat.le_of_eq hg.symm)) hb); have n1_ := Aside0.mk (below_step (by repeat (first | (with_reducible first | exact HB.out | apply below_alloc | apply pw_below_drewN | apply below_drew1) | exact HB.out)) hb); have n2_ := Aside0.mk (hbox); have n3_ := Aside0.mk ((by rw [hg]; exact (below_size (by repeat (first | (with_reducible first | exact HB.out | apply below_alloc | apply pw_below_drewN | apply below_drew1) | exact HB.out))) : w.heap.size ≤ gb359)); have n4_ := Aside0.mk ((by rw [hg]; exact (below_size (by repeat (first | (with_reducible first | exact HB.out | apply below_alloc | apply pw_below_drewN | apply below_drew1) | exact HB.out))) : w.heap.size ≤ gb359)); clear HO_8; clear HB; have HO_8 := n0_; have HB := n1_; have BK359 := n2_; have GW359 := n3_; have GE359 := n4_; clear n0_ n1_ n2_ n3_ n4_; clear hb hbox hg; have hcz22_0 : w21.cell? ⟨gb359, 0, none⟩ = some (.int .i64 0) := (blk_cell BK359.out 0).trans rfl; have hcz22_1 : w21.cell? ⟨gb359, 1, none⟩ = some (.int .i64 0) := (blk_cell BK359.out 1).trans rfl; have hcz22_2 : w21.cell? ⟨gb359, 2, none⟩ = some (.int .i64 0) := (blk_cell BK359.out 2).trans rfl; have hcz22_3 : w21.cell? ⟨gb359, 3, none⟩ = some (.int .i64 0) := (blk_cell BK359.out 3).trans rfl; have hcz22_4 : w21.cell? ⟨gb359, 4, none⟩ = some (.int .i64 0) := (blk_cell BK359.out 4).trans rfl; have hfz22_0 := blk_frozen BK359.out 0; have hfz22_1 := blk_frozen BK359.out 1; have hfz22_2 := blk_frozen BK359.out 2; have hfz22_3 := blk_frozen BK359.out 3; have hfz22_4 := blk_frozen BK359.out 4))
                  have n0_ : Aside0 (Kd.S k31 31 (((((w21.setCell ⟨gb359, 0, none⟩ (.int .i64 ((rd_T31 l0 a1).f0.f0.f0))).setCell ⟨gb359, 1, none⟩ (.int .i64 ((rd_T31 l0 a1).f0.f0.f1))).setCell ⟨gb359, 2, none⟩ (.int .i64 ((rd_T31 l0 a1).f0.f1))).setCell ⟨gb359, 3, none⟩ (.int .i64 ((rd_T31 l0 a1).f0.f2))).setCell ⟨gb359, 4, none⟩ (.int .i64 ((rd_T31 l0 a1).f0.f3))) w.heap.size (fun k_ => k_ ≠ gb359) v354 t353) := ⟨by (with_reducible repeat (first | apply Kd.S_alloc | apply Kd.S_drewN | apply Kd.S_drew)); exact Kd.S_mono (Kd.S_far (p := ⟨gb359, 4, none⟩) (Kd.S_far (p := ⟨gb359, 3, none⟩) (Kd.S_far (p := ⟨gb359, 2, none⟩) (Kd.S_far (p := ⟨gb359, 1, none⟩) (Kd.S_far (p := ⟨gb359, 0, none⟩) (Kd.S_mono HO_8.out (fun k_ hk => (⟨hk, hk.2⟩ : _ ∧ k_ ≠ gb359))) (fun _ hk => hk.2) (.int .i64 ((rd_T31 l0 a1).f0.f0.f0))) (fun _ hk => hk.2) (.int .i64 ((rd_T31 l0 a1).f0.f0.f1))) (fun _ hk => hk.2) (.int .i64 ((rd_T31 l0 a1).f0.f1))) (fun _ hk => hk.2) (.int .i64 ((rd_T31 l0 a1).f0.f2))) (fun _ hk => hk.2) (.int .i64 ((rd_T31 l0 a1).f0.f3))) (fun _ hk => hk.1.2)⟩
                  have n1_ : Aside0 ((((((w21.setCell ⟨gb359, 0, none⟩ (.int .i64 ((rd_T31 l0 a1).f0.f0.f0))).setCell ⟨gb359, 1, none⟩ (.int .i64 ((rd_T31 l0 a1).f0.f0.f1))).setCell ⟨gb359, 2, none⟩ (.int .i64 ((rd_T31 l0 a1).f0.f1))).setCell ⟨gb359, 3, none⟩ (.int .i64 ((rd_T31 l0 a1).f0.f2))).setCell ⟨gb359, 4, none⟩ (.int .i64 ((rd_T31 l0 a1).f0.f3))).heap[gb359]? = some (.cells #[.int .i64 ((rd_T31 l0 a1).f0.f0.f0), .int .i64 ((rd_T31 l0 a1).f0.f0.f1), .int .i64 ((rd_T31 l0 a1).f0.f1), .int .i64 ((rd_T31 l0 a1).f0.f2), .int .i64 ((rd_T31 l0 a1).f0.f3)] 28 (0, 0))) := ⟨by (with_reducible repeat (first | refine blk_drewN ?_ _ | refine blk_drew ?_ | refine blk_alloc ?_ _)); refine blk_put (cs := #[.int .i64 ((rd_T31 l0 a1).f0.f0.f0), .int .i64 ((rd_T31 l0 a1).f0.f0.f1), .int .i64 ((rd_T31 l0 a1).f0.f1), .int .i64 ((rd_T31 l0 a1).f0.f2), .int .i64 0]) ?_ 4 _ rfl; (with_reducible repeat (first | refine blk_drewN ?_ _ | refine blk_drew ?_ | refine blk_alloc ?_ _)); refine blk_put (cs := #[.int .i64 ((rd_T31 l0 a1).f0.f0.f0), .int .i64 ((rd_T31 l0 a1).f0.f0.f1), .int .i64 ((rd_T31 l0 a1).f0.f1), .int .i64 0, .int .i64 0]) ?_ 3 _ rfl; (with_reducible repeat (first | refine blk_drewN ?_ _ | refine blk_drew ?_ | refine blk_alloc ?_ _)); refine blk_put (cs := #[.int .i64 ((rd_T31 l0 a1).f0.f0.f0), .int .i64 ((rd_T31 l0 a1).f0.f0.f1), .int .i64 0, .int .i64 0, .int .i64 0]) ?_ 2 _ rfl; (with_reducible repeat (first | refine blk_drewN ?_ _ | refine blk_drew ?_ | refine blk_alloc ?_ _)); refine blk_put (cs := #[.int .i64 ((rd_T31 l0 a1).f0.f0.f0), .int .i64 0, .int .i64 0, .int .i64 0, .int .i64 0]) ?_ 1 _ rfl; (with_reducible repeat (first | refine blk_drewN ?_ _ | refine blk_drew ?_ | refine blk_alloc ?_ _)); refine blk_put (cs := #[.int .i64 0, .int .i64 0, .int .i64 0, .int .i64 0, .int .i64 0]) ?_ 0 _ rfl; (with_reducible repeat (first | refine blk_drewN ?_ _ | refine blk_drew ?_ | refine blk_alloc ?_ _)); exact BK359.out⟩
                  have n2_ : Aside0 (Below w.heap.size w (((((w21.setCell ⟨gb359, 0, none⟩ (.int .i64 ((rd_T31 l0 a1).f0.f0.f0))).setCell ⟨gb359, 1, none⟩ (.int .i64 ((rd_T31 l0 a1).f0.f0.f1))).setCell ⟨gb359, 2, none⟩ (.int .i64 ((rd_T31 l0 a1).f0.f1))).setCell ⟨gb359, 3, none⟩ (.int .i64 ((rd_T31 l0 a1).f0.f2))).setCell ⟨gb359, 4, none⟩ (.int .i64 ((rd_T31 l0 a1).f0.f3)))) := ⟨by repeat (first | (with_reducible first | exact HB.out | apply below_alloc | apply pw_below_drewN | apply below_drew1 | refine below_set ?_ GE359.out) | exact HB.out)⟩
                  (try clear HO_8)
                  (try clear BK359)
                  (try clear HB)
                  generalize (((((w21.setCell ⟨gb359, 0, none⟩ (.int .i64 ((rd_T31 l0 a1).f0.f0.f0))).setCell ⟨gb359, 1, none⟩ (.int .i64 ((rd_T31 l0 a1).f0.f0.f1))).setCell ⟨gb359, 2, none⟩ (.int .i64 ((rd_T31 l0 a1).f0.f1))).setCell ⟨gb359, 3, none⟩ (.int .i64 ((rd_T31 l0 a1).f0.f2))).setCell ⟨gb359, 4, none⟩ (.int .i64 ((rd_T31 l0 a1).f0.f3))) = w23 at n0_ n1_ n2_ ⊢
                  have HO_8 := n0_
                  have BK359 := n1_
                  have HB := n2_
                  clear n0_ n1_ n2_
                  have n0_ := Aside0.mk (Kd.S_drew HO_8.out)
                  have n1_ := Aside0.mk (blk_drew BK359.out)
                  have n2_ := Aside0.mk (below_drew1 HB.out)
                  clear HO_8
                  clear BK359
                  clear HB
                  have HO_8 := n0_
                  have BK359 := n1_
                  have HB := n2_
                  clear n0_ n1_ n2_
                  refine start_ (n := 12) (S := fun w' => w'.cell? ⟨gb359, 0, none⟩ = some (.int .i64 ((rd_T31 l0 a1).f0.f0.f0)) ∧ w'.cell? ⟨gb359, 1, none⟩ = some (.int .i64 ((rd_T31 l0 a1).f0.f0.f1)) ∧ w'.cell? ⟨gb359, 2, none⟩ = some (.int .i64 ((rd_T31 l0 a1).f0.f1)) ∧ w'.cell? ⟨gb359, 3, none⟩ = some (.int .i64 ((rd_T31 l0 a1).f0.f2)) ∧ w'.cell? ⟨gb359, 4, none⟩ = some (.int .i64 ((rd_T31 l0 a1).f0.f3))) (ds := []) #[false, false, false, false, false, false, false, false, false, false, false, false] (by kernel_rfl) rfl rfl ⟨(blk_cell BK359.out 0).trans rfl, (blk_cell BK359.out 1).trans rfl, (blk_cell BK359.out 2).trans rfl, (blk_cell BK359.out 3).trans rfl, (blk_cell BK359.out 4).trans rfl⟩ (fun hHeld => ?_); refine with_tabW impl_ReplaceHost.tab11 impl_ReplaceHost.bits11 (fun HT_ HW_ => ?_)
                  generalize w23.drew = w24 at HO_8 BK359 HB hHeld ⊢
                  refine pure_ (i := 0) (N := some 52) (v := ?_) (a' := ?_) #[true, false, false, false, false, false, false, false, false, false, false, false] rfl rfl (any_of HT_.out (by kernel_rfl)) (fun _ _ _ h => h) (Or.inl ⟨by rfl, ?_⟩) ?_ ?_
                  rotate_left
                  · intro w'
                    go_simp
                    with_reducible rfl
                  rotate_left
                  · simp only [Act.put, List.setIfInBounds_toArray, List.set_cons_zero, List.set_cons_succ, i64_w, i32_w]
                    rfl
                  refine pure_ (i := 1) (N := some 53) (v := ?_) (a' := ?_) #[true, true, false, false, false, false, false, false, false, false, false, false] rfl rfl (any_of HT_.out (by kernel_rfl)) (fun _ _ _ h => h) (Or.inl ⟨by rfl, ?_⟩) ?_ ?_
                  rotate_left
                  · intro w'
                    go_simp
                    with_reducible rfl
                  rotate_left
                  · simp only [Act.put, List.setIfInBounds_toArray, List.set_cons_zero, List.set_cons_succ, i64_w, i32_w]
                    rfl
                  refine pure_ (i := 3) (N := some 55) (v := ?_) (a' := ?_) #[true, true, false, true, false, false, false, false, false, false, false, false] rfl rfl (any_of HT_.out (by kernel_rfl)) (fun _ _ _ h => h) (Or.inl ⟨by rfl, ?_⟩) ?_ ?_
                  rotate_left
                  · intro w'
                    go_simp
                    with_reducible rfl
                  rotate_left
                  · simp only [Act.put, List.setIfInBounds_toArray, List.set_cons_zero, List.set_cons_succ, i64_w, i32_w]
                    rfl
                  refine pure_ (i := 4) (N := some 56) (v := ?_) (a' := ?_) #[true, true, false, true, true, false, false, false, false, false, false, false] rfl rfl (any_of HT_.out (by kernel_rfl)) (fun _ _ _ h => h) (Or.inl ⟨by rfl, ?_⟩) ?_ ?_
                  rotate_left
                  · intro w'
                    go_simp
                    with_reducible rfl
                  rotate_left
                  · simp only [Act.put, List.setIfInBounds_toArray, List.set_cons_zero, List.set_cons_succ, i64_w, i32_w]
                    rfl
                  refine take_ (i := 5) (N := some 57) (v := ?_) (a' := ?_) #[true, true, false, true, true, true, false, false, false, false, false, false] rfl rfl (take_ofW HT_.out HW_.out (by kernel_rfl)) (fun _ _ _ h => h) (Or.inl ⟨by rfl, ?_⟩) hHeld ?_ ?_
                  rotate_left
                  · rintro w' ⟨s0, s1, s2, s3, s4⟩
                    go_simp
                    with_reducible rfl
                  rotate_left
                  · simp only [Act.put, List.setIfInBounds_toArray, List.set_cons_zero, List.set_cons_succ, i64_w, i32_w]
                    rfl
                  refine one_ (i := 2) (N := some 54) #[true, true, true, true, true, true, false, false, false, false, false, false] rfl rfl (one_of HT_.out (by kernel_rfl)) (by decide) (fun K hK => ?_)
                  refine goes_ Try.func40 (by kernel_rfl) rfl #[.slice (some ad358) l0.length c0, .slice A2 l2.length c2] (by rfl) rfl rfl (by (try simp only [List.map_toArray, List.map_cons, List.map_nil]); first | done | rfl | (simp only [List.length_drop, List.length_take]; rfl)) ?_
                  with_reducible refine (impl_StolenShares.calls k2 _ _ l0 _ _ l2 t360 _ ?side1 ?side2 ?side3 ?side4 A18.out).mono ?_
                  (case side1 => repeat (first | exact (Kd.C_below HR0.out HB.out) | (with_reducible refine Kd.C_alloc ?_ _) | (with_reducible refine Kd.C_drewN ?_ _) | (with_reducible refine Kd.C_drew ?_)))
                  (case side2 => exact HC0.out)
                  (case side3 => repeat (first | exact (Kd.C_below HR2.out HB.out) | (with_reducible refine Kd.C_alloc ?_ _) | (with_reducible refine Kd.C_drewN ?_ _) | (with_reducible refine Kd.C_drew ?_)))
                  (case side4 => exact HC2.out)
                  rintro e w25 ⟨v361, rfl, ho0, hb⟩
                  refine ⟨_, rfl, ?_⟩
                  have n0_ := Aside0.mk (Kd.S_below (by (with_reducible repeat (first | apply Kd.S_alloc | apply Kd.S_drewN | apply Kd.S_drew)); exact HO_8.out) hb)
                  have n1_ := Aside0.mk (Kd.R_lower ho0 (below_size (by repeat (first | (with_reducible first | exact HB.out | apply below_alloc | apply pw_below_drewN | apply below_drew1 | refine below_set ?_ GE359.out) | exact HB.out))))
                  have n2_ := Aside0.mk (blk_below (g := gb359) (o := .cells #[.int .i64 ((rd_T31 l0 a1).f0.f0.f0), .int .i64 ((rd_T31 l0 a1).f0.f0.f1), .int .i64 ((rd_T31 l0 a1).f0.f1), .int .i64 ((rd_T31 l0 a1).f0.f2), .int .i64 ((rd_T31 l0 a1).f0.f3)] 28 (0, 0)) (by (with_reducible repeat (first | refine blk_drewN ?_ _ | refine blk_drew ?_ | refine blk_alloc ?_ _)); exact BK359.out) hb)
                  have n3_ := Aside0.mk (below_step (by repeat (first | (with_reducible first | exact HB.out | apply below_alloc | apply pw_below_drewN | apply below_drew1 | refine below_set ?_ GE359.out) | exact HB.out)) hb)
                  clear HO_8
                  clear BK359
                  clear HB
                  have HO_8 := n0_
                  have HO362 := n1_
                  have BK359 := n2_
                  have HB := n3_
                  clear n0_ n1_ n2_ n3_
                  (try clear hb)
                  (try clear hb2)
                  (try clear hk)
                  (try clear hi)
                  (try clear ho0)
                  obtain ⟨Ao26, co26, eo26⟩ := Kd.R_slice HO362.out
                  (first | subst eo26 | (injection eo26 with f1_ f2_ f3_; have f4_ := f1_.symm; have f5_ := f3_.symm; clear f1_ f2_ f3_; subst f4_; subst f5_))
                  refine hK.out _ _ ⟨(blk_cell BK359.out 0).trans rfl, (blk_cell BK359.out 1).trans rfl, (blk_cell BK359.out 2).trans rfl, (blk_cell BK359.out 3).trans rfl, (blk_cell BK359.out 4).trans rfl⟩ (fun hHeld => ?_)
                  clear hK K
                  refine norm_ (a' := ?_) ?_ ?_
                  rotate_left
                  · show Act.put _ (some 54) _ = _
                    simp only [Act.put, List.setIfInBounds_toArray, List.set_cons_zero, List.set_cons_succ, i64_w, i32_w]
                    rfl
                  refine one_ (i := 6) (N := some 58) #[true, true, true, true, true, true, true, false, false, false, false, false] rfl rfl (one_of HT_.out (by kernel_rfl)) (by decide) (fun K hK => ?_)
                  refine goes_ Try.func88 (by kernel_rfl) rfl #[.slice Ao26 t360.length co26, .int .i64 ((rd_T31 l0 a1).f0.f0.f0)] (by rfl) rfl rfl (by (try simp only [List.map_toArray, List.map_cons, List.map_nil]); first | done | rfl | (simp only [List.length_drop, List.length_take]; rfl)) ?_
                  with_reducible refine (impl_Interpolate.calls k2 _ _ t360 ((rd_T31 l0 a1).f0.f0.f0) t363 t364 _ ?side1 ?side2 A19.out).mono ?_
                  (case side1 => repeat (first | exact (Kd.R_reads' HO362.out).2.2 | (with_reducible refine Kd.C_alloc ?_ _) | (with_reducible refine Kd.C_drewN ?_ _) | (with_reducible refine Kd.C_drew ?_)))
                  (case side2 => exact (Kd.R_reads' HO362.out).2.1)
                  rintro e w27 ⟨rfl, hb⟩
                  refine ⟨_, rfl, ?_⟩
                  have n0_ := Aside0.mk (Kd.S_below (by (with_reducible repeat (first | apply Kd.S_alloc | apply Kd.S_drewN | apply Kd.S_drew)); exact HO_8.out) hb)
                  have n1_ := Aside0.mk (Kd.R_below (by (with_reducible repeat (first | apply Kd.R_alloc | apply Kd.R_drewN | apply Kd.R_drew)); exact HO362.out) hb)
                  have n2_ := Aside0.mk (blk_below (g := gb359) (o := .cells #[.int .i64 ((rd_T31 l0 a1).f0.f0.f0), .int .i64 ((rd_T31 l0 a1).f0.f0.f1), .int .i64 ((rd_T31 l0 a1).f0.f1), .int .i64 ((rd_T31 l0 a1).f0.f2), .int .i64 ((rd_T31 l0 a1).f0.f3)] 28 (0, 0)) (by (with_reducible repeat (first | refine blk_drewN ?_ _ | refine blk_drew ?_ | refine blk_alloc ?_ _)); exact BK359.out) hb)
                  have n3_ := Aside0.mk (below_step (by repeat (first | (with_reducible first | exact HB.out | apply below_alloc | apply pw_below_drewN | apply below_drew1 | refine below_set ?_ GE359.out) | exact HB.out)) hb)
                  clear HO_8
                  clear HO362
                  clear BK359
                  clear HB
                  have HO_8 := n0_
                  have HO362 := n1_
                  have BK359 := n2_
                  have HB := n3_
                  clear n0_ n1_ n2_ n3_
                  (try clear hb)
                  (try clear hb2)
                  (try clear hk)
                  (try clear hi)
                  refine hK.out _ _ ⟨(blk_cell BK359.out 0).trans rfl, (blk_cell BK359.out 1).trans rfl, (blk_cell BK359.out 2).trans rfl, (blk_cell BK359.out 3).trans rfl, (blk_cell BK359.out 4).trans rfl⟩ (fun hHeld => ?_)
                  clear hK K
                  refine norm_ (a' := ?_) ?_ ?_
                  rotate_left
                  · show Act.put _ (some 58) _ = _
                    simp only [Act.put, List.setIfInBounds_toArray, List.set_cons_zero, List.set_cons_succ, i64_w, i32_w]
                    rfl
                  refine pure_ (i := 7) (N := some 51) (v := ?_) (a' := ?_) #[true, true, true, true, true, true, true, true, false, false, false, false] rfl rfl (any_of HT_.out (by kernel_rfl)) (fun _ _ _ h => h) (Or.inl ⟨by rfl, ?_⟩) ?_ ?_
                  rotate_left
                  · intro w'
                    go_simp
                    with_reducible rfl
                  rotate_left
                  · simp only [Act.put, List.setIfInBounds_toArray, List.set_cons_zero, List.set_cons_succ, i64_w, i32_w]
                    rfl
                  refine pure_ (i := 8) (N := some 59) (v := ?_) (a' := ?_) #[true, true, true, true, true, true, true, true, true, false, false, false] rfl rfl (any_of HT_.out (by kernel_rfl)) (fun _ _ _ h => h) (Or.inl ⟨by rfl, ?_⟩) ?_ ?_
                  rotate_left
                  · intro w'
                    go_simp
                    with_reducible rfl
                  rotate_left
                  · simp only [Act.put, List.setIfInBounds_toArray, List.set_cons_zero, List.set_cons_succ, i64_w, i32_w]
                    rfl
                  refine pure_ (i := 9) (N := some 60) (v := ?_) (a' := ?_) #[true, true, true, true, true, true, true, true, true, true, false, false] rfl rfl (any_of HT_.out (by kernel_rfl)) (fun _ _ _ h => h) (Or.inl ⟨by rfl, ?_⟩) ?_ ?_
                  rotate_left
                  · intro w'
                    go_simp
                    with_reducible rfl
                  rotate_left
                  · simp only [Act.put, List.setIfInBounds_toArray, List.set_cons_zero, List.set_cons_succ, i64_w, i32_w]
                    rfl
                  refine pure_ (i := 10) (N := some 12) (v := ?_) (a' := ?_) #[true, true, true, true, true, true, true, true, true, true, true, false] rfl rfl (any_of HT_.out (by kernel_rfl)) (fun _ _ _ h => h) (Or.inl ⟨by rfl, ?_⟩) ?_ ?_
                  rotate_left
                  · intro w'
                    go_simp
                    with_reducible rfl
                  rotate_left
                  · simp only [Act.put, List.setIfInBounds_toArray, List.set_cons_zero, List.set_cons_succ, i64_w, i32_w]
                    rfl
                  refine pure_ (i := 11) (N := some 13) (v := ?_) (a' := ?_) #[true, true, true, true, true, true, true, true, true, true, true, true] rfl rfl (any_of HT_.out (by kernel_rfl)) (fun _ _ _ h => h) (Or.inl ⟨by rfl, ?_⟩) ?_ ?_
                  rotate_left
                  · intro w'
                    go_simp
                    with_reducible rfl
                  rotate_left
                  · simp only [Act.put, List.setIfInBounds_toArray, List.set_cons_zero, List.set_cons_succ, i64_w, i32_w]
                    rfl
                  refine done_ (done_of HT_.out (by kernel_rfl)) ?_
                  go_upto_if 62 with (fail)
                  have H := HC20.out
                  clear HC20
                  by_cases c28 : t364 = true
                  · subst c28
                    have H1 : ((impl_StartHost.f ((rd_T31 l0 a1).f0.f0.f0) t363 ((rd_T31 l0 a1).f0.f1) ((rd_T31 l0 a1).f0.f2) ((rd_T31 l0 a1).f0.f3)).bind fun bt365 => (if a1 < (t353.length : Int) then (some ((t353.set (a1 : Int).toNat (⟨(⟨(⟨bt365.1, bt365.2.1⟩ : S26), bt365.2.2.1, bt365.2.2.2.1, bt365.2.2.2.2.1⟩ : S28), bt365.2.2.2.2.2.1, bt365.2.2.2.2.2.2⟩ : S31)), true)) else (none))) = some (r1, r2) := by rw [if_pos rfl] at H; exact H
                    clear H
                    have H := H1
                    clear H1
                    replace H := Option.bind_eq_some_iff.mp H
                    obtain ⟨⟨t365, t366, t367, t368, t369, t370, t373⟩, A290, H⟩ := H
                    replace H : (if a1 < (t353.length : Int) then (some ((t353.set (a1 : Int).toNat (⟨(⟨(⟨t365, t366⟩ : S26), t367, t368, t369⟩ : S28), t370, t373⟩ : S31)), true)) else (none)) = some (r1, r2) := H
                    have A29 := Aside0.mk A290
                    clear A290
                    by_cases c30 : a1 < (t353.length : Int)
                    · rw [if_pos c30] at H
                      have c30b0 : decide (a1 < (t353.length : Int)) = true := decide_eq_true c30
                      clear c30
                      (first | rw [c30b0] | (simp only [i64_w, i32_w]; rw [c30b0]) | skip)
                      obtain ⟨y374, hy374⟩ : ∃ y_ : List (S31), y_ = (t353.set (a1 : Int).toNat (⟨(⟨(⟨t365, t366⟩ : S26), t367, t368, t369⟩ : S28), t370, t373⟩ : S31)) := ⟨_, rfl⟩
                      replace H : (some (y374, true)) = some (r1, r2) := by first | (rw [hy374]; with_reducible exact H) | (have H2_ := (Option.bind_some _ _).symm.trans H; rw [hy374]; with_reducible exact H2_) | (have H2_ := (Option.bind_some _ _).symm.trans H; with_reducible exact H2_) | with_reducible exact H | (rw [hy374]; exact H) | exact H
                      have Ny374 := Aside0.mk hy374
                      clear hy374
                      simp only [Option.some.injEq, Prod.mk.injEq] at H
                      obtain ⟨rfl, rfl⟩ := H
                      have hcz32_0 : w27.cell? ⟨gb359, 0, none⟩ = some (.int .i64 ((rd_T31 l0 a1).f0.f0.f0)) := (blk_cell BK359.out 0).trans rfl
                      have hcz32_1 : w27.cell? ⟨gb359, 1, none⟩ = some (.int .i64 ((rd_T31 l0 a1).f0.f0.f1)) := (blk_cell BK359.out 1).trans rfl
                      have hcz32_2 : w27.cell? ⟨gb359, 2, none⟩ = some (.int .i64 ((rd_T31 l0 a1).f0.f1)) := (blk_cell BK359.out 2).trans rfl
                      have hcz32_3 : w27.cell? ⟨gb359, 3, none⟩ = some (.int .i64 ((rd_T31 l0 a1).f0.f2)) := (blk_cell BK359.out 3).trans rfl
                      have hcz32_4 : w27.cell? ⟨gb359, 4, none⟩ = some (.int .i64 ((rd_T31 l0 a1).f0.f3)) := (blk_cell BK359.out 4).trans rfl
                      have hfz32_0 := blk_frozen BK359.out 0
                      have hfz32_1 := blk_frozen BK359.out 1
                      have hfz32_2 := blk_frozen BK359.out 2
                      have hfz32_3 := blk_frozen BK359.out 3
                      have hfz32_4 := blk_frozen BK359.out 4
                      go_wp2_with (first | ((with_reducible refine gate_callee (f := 17) rfl ?_); refine goesL_ (some 70) rfl rfl Try.func17 (by kernel_rfl) rfl #[.agg #[.int .i64 ((rd_T31 l0 a1).f0.f0.f0), .int .i64 t363, .int .i64 ((rd_T31 l0 a1).f0.f1), .int .i64 ((rd_T31 l0 a1).f0.f2), .int .i64 ((rd_T31 l0 a1).f0.f3)]] rfl (by (try simp only [List.map_toArray, List.map_cons, List.map_nil]); first | done | rfl | (simp only [List.length_drop, List.length_take]; rfl)) ?_; (with_reducible refine (impl_StartHost.calls ((rd_T31 l0 a1).f0.f0.f0) t363 ((rd_T31 l0 a1).f0.f1) ((rd_T31 l0 a1).f0.f2) ((rd_T31 l0 a1).f0.f3) t365 t366 t367 t368 t369 t370 t373 _ A29.out).mono ?_); rintro e w33 ⟨v371, rfl, ho0, hb⟩; refine ⟨_, rfl, ?_⟩; have n0_ := Aside0.mk (Kd.S_elder' (by (with_reducible repeat (first | apply Kd.S_alloc | apply Kd.S_drewN | apply Kd.S_drew)); exact (Kd.S_mono (Kd.S_far (p := ⟨gb359, 1, none⟩) (Kd.S_mono HO_8.out (fun k_ hk => (⟨hk, hk⟩ : _ ∧ k_ ≠ gb359))) (fun _ hk => hk.2) (.int .i64 t363)) (fun _ h_ => h_.1))) (Kd.R_base ho0) hb); have n1_ := Aside0.mk (Kd.R_below (by (with_reducible repeat (first | apply Kd.R_alloc | apply Kd.R_drewN | apply Kd.R_drew)); exact (Kd.R_mono (Kd.R_far (p := ⟨gb359, 1, none⟩) (Kd.R_types HO362.out BK359.out (by decide)) (fun _ hk => hk.2) (.int .i64 t363)) (fun _ h_ => h_.1))) hb); have n2_ := Aside0.mk (Kd.R_lower (Kd.R_newB ho0 (g := gb359) (o := .cells #[.int .i64 ((rd_T31 l0 a1).f0.f0.f0), .int .i64 t363, .int .i64 ((rd_T31 l0 a1).f0.f1), .int .i64 ((rd_T31 l0 a1).f0.f2), .int .i64 ((rd_T31 l0 a1).f0.f3)] 28 (0, 0)) (by (with_reducible repeat (first | refine blk_drewN ?_ _ | refine blk_drew ?_ | refine blk_alloc ?_ _)); refine blk_put (cs := #[.int .i64 ((rd_T31 l0 a1).f0.f0.f0), .int .i64 ((rd_T31 l0 a1).f0.f0.f1), .int .i64 ((rd_T31 l0 a1).f0.f1), .int .i64 ((rd_T31 l0 a1).f0.f2), .int .i64 ((rd_T31 l0 a1).f0.f3)]) ?_ 1 _ rfl; (with_reducible repeat (first | refine blk_drewN ?_ _ | refine blk_drew ?_ | refine blk_alloc ?_ _)); exact BK359.out)) (below_size (by repeat (first | (with_reducible first | exact HB.out | apply below_alloc | apply pw_below_drewN | apply below_drew1 | refine below_set ?_ GE359.out) | exact HB.out)))); have n3_ := Aside0.mk (blk_below (g := gb359) (o := .cells #[.int .i64 ((rd_T31 l0 a1).f0.f0.f0), .int .i64 t363, .int .i64 ((rd_T31 l0 a1).f0.f1), .int .i64 ((rd_T31 l0 a1).f0.f2), .int .i64 ((rd_T31 l0 a1).f0.f3)] 28 (0, 0)) (by (with_reducible repeat (first | refine blk_drewN ?_ _ | refine blk_drew ?_ | refine blk_alloc ?_ _)); refine blk_put (cs := #[.int .i64 ((rd_T31 l0 a1).f0.f0.f0), .int .i64 ((rd_T31 l0 a1).f0.f0.f1), .int .i64 ((rd_T31 l0 a1).f0.f1), .int .i64 ((rd_T31 l0 a1).f0.f2), .int .i64 ((rd_T31 l0 a1).f0.f3)]) ?_ 1 _ rfl; (with_reducible repeat (first | refine blk_drewN ?_ _ | refine blk_drew ?_ | refine blk_alloc ?_ _)); exact BK359.out) hb); have n4_ := Aside0.mk (below_step (by repeat (first | (with_reducible first | exact HB.out | apply below_alloc | apply pw_below_drewN | apply below_drew1 | refine below_set ?_ GE359.out) | exact HB.out)) hb); clear HO_8; clear HO362; clear BK359; clear HB; have HO_8 := n0_; have HO362 := n1_; have HO372 := n2_; have BK359 := n3_; have HB := n4_; clear n0_ n1_ n2_ n3_ n4_; (try clear hb); (try clear hb2); (try clear hk); (try clear hi); (try clear ho0); have p31 : 0 ≤ (a1 : Int) := of_decide_eq_true (by first | (with_reducible assumption) | assumption); have q31 : (a1 : Int) < ((t353.length : Int) : Int) := of_decide_eq_true (by first | (with_reducible assumption) | assumption); obtain ⟨go31, co31, eo31, gb31, gl31, cl31, HG31⟩ := Kd.S_form HO_8.out (by omega); (first | cases eo31 | (injection eo31 with ea_ en_ ec_; (first | subst ea_ | (injection ea_ with ea_; subst ea_)); subst ec_; clear en_)); have GB31 := Aside0.mk gb31; have GG31 := Aside0.mk HG31; clear gb31 gl31 HG31; obtain ⟨_, ce31, hcl31, hM31, hcc31, hfr31, _, _⟩ := Kd.S_elem HO_8.out z31 (a1 : Int) p31 q31; obtain ⟨ve31_5, rfl, ge31_5⟩ := k31_openM hM31; have hx31_0 : w33.cell? ⟨go31, (a1 : Int).toNat * 7, none⟩ = some (.int .i64 ((rd_T31 t353 a1).f0.f0.f0)) := hcc31 0 _ rfl; have hx31_1 : w33.cell? ⟨go31, (a1 : Int).toNat * 7 + 1, none⟩ = some (.int .i64 ((rd_T31 t353 a1).f0.f0.f1)) := hcc31 1 _ rfl; have hx31_2 : w33.cell? ⟨go31, (a1 : Int).toNat * 7 + 2, none⟩ = some (.int .i64 ((rd_T31 t353 a1).f0.f1)) := hcc31 2 _ rfl; have hx31_3 : w33.cell? ⟨go31, (a1 : Int).toNat * 7 + 3, none⟩ = some (.int .i64 ((rd_T31 t353 a1).f0.f2)) := hcc31 3 _ rfl; have hx31_4 : w33.cell? ⟨go31, (a1 : Int).toNat * 7 + 4, none⟩ = some (.int .i64 ((rd_T31 t353 a1).f0.f3)) := hcc31 4 _ rfl; have hx31_5 : w33.cell? ⟨go31, (a1 : Int).toNat * 7 + 5, none⟩ = some (ve31_5) := hcc31 5 _ rfl; have hx31_6 : w33.cell? ⟨go31, (a1 : Int).toNat * 7 + 6, none⟩ = some (.int .i64 ((rd_T31 t353 a1).f2)) := hcc31 6 _ rfl; have hf31_0 : w33.frozen? ⟨go31, (a1 : Int).toNat * 7, none⟩ = false := hfr31 0; have hf31_1 : w33.frozen? ⟨go31, (a1 : Int).toNat * 7 + 1, none⟩ = false := hfr31 1; have hf31_2 : w33.frozen? ⟨go31, (a1 : Int).toNat * 7 + 2, none⟩ = false := hfr31 2; have hf31_3 : w33.frozen? ⟨go31, (a1 : Int).toNat * 7 + 3, none⟩ = false := hfr31 3; have hf31_4 : w33.frozen? ⟨go31, (a1 : Int).toNat * 7 + 4, none⟩ = false := hfr31 4; have hf31_5 : w33.frozen? ⟨go31, (a1 : Int).toNat * 7 + 5, none⟩ = false := hfr31 5; have hf31_6 : w33.frozen? ⟨go31, (a1 : Int).toNat * 7 + 6, none⟩ = false := hfr31 6; clear hcl31 hcc31 hfr31 hM31; replace p31 := eq_true p31; replace q31 := eq_true q31; have HX34 := Aside0.mk (show Kd.S k31 31 w33 w.heap.size (fun k_ => ((fun k_ => k_ ≠ gb359)) k_ ∧ ¬ ((fun k_ => some k_ = (v371 : Value).ownBlock)) k_) (.slice (some ⟨go31, 0, none⟩) t353.length co31) t353 from (by (with_reducible repeat (first | apply Kd.S_alloc | apply Kd.S_drewN | apply Kd.S_drew)); exact Kd.S_mono HO_8.out (fun k_ hk => ⟨hk.1, fun e_ => hk.2 e_⟩))); obtain ⟨oki34, ce34, hcl34, hM34, hcc34, hfr34, hoki34, hH34⟩ := Kd.S_elem HX34.out z31 (a1 : Int) (of_decide_eq_true (by first | (with_reducible assumption) | assumption)) (by have h_ : (a1 : Int) < ((t353.length : Int) : Int) := of_decide_eq_true (by first | (with_reducible assumption) | assumption); first | exact h_ | (have e_ := (Kd.S_reads' HO_8.out).1; omega) | simpa using h_); obtain ⟨ve34_5, rfl, ge34_5⟩ := k31_openM hM34; have HP34 := Kd.S_seg hH34 (of_decide_eq_true (by first | (with_reducible assumption) | assumption)) (by have h_ : (a1 : Int) < ((t353.length : Int) : Int) := of_decide_eq_true (by first | (with_reducible assumption) | assumption); first | exact h_ | (have e_ := (Kd.S_reads' HO_8.out).1; omega) | simpa using h_) (seg := [.int .i64 t365, .int .i64 t366, .int .i64 t367, .int .i64 t368, .int .i64 t369, v371, .int .i64 t373]) (j := 0) (show 7 ≤ 7 from by decide) (x' := (⟨(⟨(⟨t365, t366⟩ : S26), t367, t368, t369⟩ : S28), t370, t373⟩ : S31)) (k31_mkM _ _ _ (⟨(⟨(⟨t365, t366⟩ : S26), t367, t368, t369⟩ : S28), t370, t373⟩ : S31) (Kd.R_mono (Kd.R_tight rfl (Kd.R_mono (ok' := fun k_ => ((fun k_ => k_ ≠ gb359)) k_ ∧ k_ ≠ go31) (Kd.R_apart' (HO372.out) (Kd.S_typed HO_8.out) (by decide)) (fun k_ hk => ⟨hk.1.2, fun e_ => (hk.2) (by rw [e_]; rfl)⟩))) (fun _ h_ => Or.inr (h_)))) (fun _ hk => hk) (fun k_ hk_ => ((Kd.R_mono (ok' := fun k_ => ((fun k_ => k_ ≠ gb359)) k_ ∧ k_ ≠ go31) (Kd.R_apart' (HO372.out) (Kd.S_typed HO_8.out) (by decide)) (fun k_ hk => ⟨hk.1.2, fun e_ => (hk.2) (by rw [e_]; rfl)⟩))).1 k_ hk_.symm); have hx34_0 := hcc34 0 _ rfl; (try simp only [show (k31).sz = 7 from rfl, Nat.mul_one, Nat.add_zero] at hx34_0); have hf34_0 := hfr34 0; (try simp only [show (k31).sz = 7 from rfl, Nat.mul_one, Nat.add_zero] at hf34_0); have hx34_1 := hcc34 1 _ rfl; (try simp only [show (k31).sz = 7 from rfl, Nat.mul_one, Nat.add_zero] at hx34_1); have hf34_1 := hfr34 1; (try simp only [show (k31).sz = 7 from rfl, Nat.mul_one, Nat.add_zero] at hf34_1); have hx34_2 := hcc34 2 _ rfl; (try simp only [show (k31).sz = 7 from rfl, Nat.mul_one, Nat.add_zero] at hx34_2); have hf34_2 := hfr34 2; (try simp only [show (k31).sz = 7 from rfl, Nat.mul_one, Nat.add_zero] at hf34_2); have hx34_3 := hcc34 3 _ rfl; (try simp only [show (k31).sz = 7 from rfl, Nat.mul_one, Nat.add_zero] at hx34_3); have hf34_3 := hfr34 3; (try simp only [show (k31).sz = 7 from rfl, Nat.mul_one, Nat.add_zero] at hf34_3); have hx34_4 := hcc34 4 _ rfl; (try simp only [show (k31).sz = 7 from rfl, Nat.mul_one, Nat.add_zero] at hx34_4); have hf34_4 := hfr34 4; (try simp only [show (k31).sz = 7 from rfl, Nat.mul_one, Nat.add_zero] at hf34_4); have hx34_5 := hcc34 5 _ rfl; (try simp only [show (k31).sz = 7 from rfl, Nat.mul_one, Nat.add_zero] at hx34_5); have hf34_5 := hfr34 5; (try simp only [show (k31).sz = 7 from rfl, Nat.mul_one, Nat.add_zero] at hf34_5); have hx34_6 := hcc34 6 _ rfl; (try simp only [show (k31).sz = 7 from rfl, Nat.mul_one, Nat.add_zero] at hx34_6); have hf34_6 := hfr34 6; (try simp only [show (k31).sz = 7 from rfl, Nat.mul_one, Nat.add_zero] at hf34_6); clear hcl34 hcc34 hfr34 hM34 hoki34 hH34) | ((with_reducible refine gate_store (t := 31) (p := 71) rfl ?_); refine store_event (t := 31) (p := 71) (v := ?vo_w35) (w1 := (((((((w33.setCell ⟨go31, (a1 : Int).toNat * 7, none⟩ (.int .i64 t365)).setCell ⟨go31, (a1 : Int).toNat * 7 + 1, none⟩ (.int .i64 t366)).setCell ⟨go31, (a1 : Int).toNat * 7 + 2, none⟩ (.int .i64 t367)).setCell ⟨go31, (a1 : Int).toNat * 7 + 3, none⟩ (.int .i64 t368)).setCell ⟨go31, (a1 : Int).toNat * 7 + 4, none⟩ (.int .i64 t369)).setCell ⟨go31, (a1 : Int).toNat * 7 + 5, none⟩ (v371)).setCell ⟨go31, (a1 : Int).toNat * 7 + 6, none⟩ (.int .i64 t373))) ?hg ?ho ?hn ?hr ?_; (case ho => rfl); (case hg => rfl); (case hn => rfl); (case hr => first | (go_simp; done) | (go_simp; rfl) | (obtain ⟨Aq_, cq_, eq_⟩ := Kd.R_slice HO372.out; subst eq_; first | (go_simp; done) | (go_simp; rfl)) | (obtain ⟨Aq_, cq_, eq_⟩ := Kd.S_slice HO372.out; subst eq_; first | (go_simp; done) | (go_simp; rfl))); intro w35 hw; have hg : w33.grownBy w35 (some go31) := (by rw [hw]; exact HP34.2); have hp_ : Kd.S k31 31 w35 w.heap.size (fun k_ => k_ ≠ gb359) (.slice (some ⟨go31, 0, none⟩) t353.length co31) y374 := (by rw [hw, Ny374.out]; exact HP34.1); clear HP34; have n0_ := Aside0.mk (hp_); have n1_ := Aside0.mk (blk_grown (g := gb359) (o := .cells #[.int .i64 ((rd_T31 l0 a1).f0.f0.f0), .int .i64 t363, .int .i64 ((rd_T31 l0 a1).f0.f1), .int .i64 ((rd_T31 l0 a1).f0.f2), .int .i64 ((rd_T31 l0 a1).f0.f3)] 28 (0, 0)) (by (with_reducible repeat (first | refine blk_drewN ?_ _ | refine blk_drew ?_ | refine blk_alloc ?_ _)); exact BK359.out) hg (Kd.S_ne HO_8.out BK359.out (by decide))); have n2_ := Aside0.mk (Kd.R_over' (v := (.slice (some ⟨go31, 0, none⟩) t353.length co31)) (by (with_reducible repeat (first | apply Kd.R_alloc | apply Kd.R_drewN | apply Kd.R_drew)); exact HO362.out) (Kd.S_typed HO_8.out) (by decide) hg); have n3_ := Aside0.mk ((by rw [hw]; exact below_set (below_set (below_set (below_set (below_set (below_set (below_set (HB.out) GB31.out) GB31.out) GB31.out) GB31.out) GB31.out) GB31.out) GB31.out : Below w.heap.size w w35)); clear HO_8; clear BK359; clear HO362; clear HB; clear HO372; have HO_8 := n0_; have BK359 := n1_; have HO362 := n2_; have HB := n3_; clear n0_ n1_ n2_ n3_; clear hg hw hp_))
                      go_ret2
                      exact ⟨_, by first | rfl | (simp [errW_none, errW_some] <;> rfl) | (simp [*, errW_none, errW_some] <;> rfl), by (with_reducible repeat (first | apply Kd.S_alloc | apply Kd.S_drewN | apply Kd.S_drew)); exact Kd.S_mono HO_8.out (fun _ hk => trivial), by repeat (first | (with_reducible first | exact HB.out | apply below_alloc | apply pw_below_drewN | apply below_drew1 | refine below_set ?_ GE359.out) | exact HB.out)⟩
                    · rw [if_neg c30] at H
                      exact absurd H (by simp)
                  · replace c28 := Bool.eq_false_iff.mpr c28
                    subst c28
                    have H1 : (some (t353, false)) = some (r1, r2) := by rw [if_neg (show ¬ (false = true) by decide)] at H; exact H
                    clear H
                    have H := H1
                    clear H1
                    simp only [Option.some.injEq, Prod.mk.injEq] at H
                    obtain ⟨rfl, rfl⟩ := H
                    go_wp2
                    go_ret2
                    exact ⟨_, by first | rfl | (simp [errW_none, errW_some] <;> rfl) | (simp [*, errW_none, errW_some] <;> rfl), by (with_reducible repeat (first | apply Kd.S_alloc | apply Kd.S_drewN | apply Kd.S_drew)); exact Kd.S_mono HO_8.out (fun _ hk => trivial), by repeat (first | (with_reducible first | exact HB.out | apply below_alloc | apply pw_below_drewN | apply below_drew1 | refine below_set ?_ GE359.out) | exact HB.out)⟩
                · rw [if_neg c17] at H
                  exact absurd H (by simp)
              · rw [if_neg c16] at H
                exact absurd H (by simp)

end Go.Proofs.Ytjngmadmdkkcmaa.PFnExactReplaceHost
