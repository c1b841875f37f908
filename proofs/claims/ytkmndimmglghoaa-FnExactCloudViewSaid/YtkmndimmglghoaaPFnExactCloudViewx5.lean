-- Made by a program of this session, after the kit's print of the translation. Lean checks it.
import Derived.Test.YtkmndimmglghoaaPFnExactCloudViewx0
import Derived.Test.YtkmndimmglghoaaPFnExactCloudViewx2
import Derived.Test.YtkmndimmglghoaaPFnExactCloudViewx3
import Derived.Test.YtkmndimmglghoaaPFnExactCloudViewx4
namespace Go.Proofs.Ytkmndimmglghoaa.PFnExactCloudView
open Go.RowKit Go.Proofs.YtkmndimmglghoaaW.PrintWords Go.Proofs.YtkmndimmglghoaaW.PrintLast Go.Proofs.YtkmndimmglghoaaW.PrintMore
attribute [local go_sem] max2_int min2_int max_two min_two max_three min_three max_four min_four   -- for this text's walks alone
set_option linter.unusedVariables false
set_option linter.unusedSimpArgs false

/-! ### laws_eqCloud: function 32 -/
def laws_eqCloud.f (k : Nat) (l0_0 : List (S114)) (a0_1 : Int) (l0_2 : List (S161)) (l0_3 : List (S71)) (l1_0 : List (S114)) (a1_1 : Int) (l1_2 : List (S161)) (l1_3 : List (S71)) : Option (Bool) := (laws_eqLogEntryS.f k l0_0 l1_0).bind fun t211 => (if t211 = true then ((laws_eqEpochBoxes.f k a0_1 l0_2 a1_1 l1_2).bind fun t212 => (if t212 = true then ((laws_eqSealedBundleS.f k l0_3 l1_3).bind fun t213 => (if t213 = true then (some true) else (some false))) else (some false))) else (some false))
theorem laws_eqCloud.mono : ∀ a0 a1 a2 a3 a4 a5 a6 a7 k, LeO (laws_eqCloud.f k a0 a1 a2 a3 a4 a5 a6 a7) (laws_eqCloud.f (k + 1) a0 a1 a2 a3 a4 a5 a6 a7) := by
  intro a0 a1 a2 a3 a4 a5 a6 a7 k
  unfold laws_eqCloud.f
  repeat' first
      | (with_reducible exact laws_eqEpochBoxes.mono _ _ _ _ _)
      | (with_reducible exact laws_eqLogEntryS.mono _ _ _)
      | (with_reducible exact laws_eqSealedBundleS.mono _ _ _)
      | (with_reducible exact LeO.refl _)
      | (with_reducible exact LeO.none _)
      | (with_reducible refine LeO.ite ?_ ?_)
      | (with_reducible refine LeO.bind ?_ (fun _ => ?_))
      | exact laws_eqEpochBoxes.mono _ _ _ _ _
      | exact laws_eqLogEntryS.mono _ _ _
      | exact laws_eqSealedBundleS.mono _ _ _
      | exact LeO.none _
      | refine LeO.ite ?_ ?_
      | refine LeO.bind ?_ (fun _ => ?_)
set_option maxHeartbeats 8000000 in
set_option maxRecDepth 100000 in
theorem laws_eqCloud.calls (k : Nat) (A0_0 : Option Addr) (c0_0 : Nat) (l0_0 : List (S114)) (a0_1 : Int) (A0_2 : Option Addr) (c0_2 : Nat) (l0_2 : List (S161)) (A0_3 : Option Addr) (c0_3 : Nat) (l0_3 : List (S71)) (A1_0 : Option Addr) (c1_0 : Nat) (l1_0 : List (S114)) (a1_1 : Int) (A1_2 : Option Addr) (c1_2 : Nat) (l1_2 : List (S161)) (A1_3 : Option Addr) (c1_3 : Nat) (l1_3 : List (S71)) (r : Bool) (w : World) (hr0_0 : Kd.C k114 w A0_0 l0_0.length l0_0) (hc0_0 : l0_0.length ≤ c0_0) (hr0_2 : Kd.C k161 w A0_2 l0_2.length l0_2) (hc0_2 : l0_2.length ≤ c0_2) (hr0_3 : Kd.C k71 w A0_3 l0_3.length l0_3) (hc0_3 : l0_3.length ≤ c0_3) (hr1_0 : Kd.C k114 w A1_0 l1_0.length l1_0) (hc1_0 : l1_0.length ≤ c1_0) (hr1_2 : Kd.C k161 w A1_2 l1_2.length l1_2) (hc1_2 : l1_2.length ≤ c1_2) (hr1_3 : Kd.C k71 w A1_3 l1_3.length l1_3) (hc1_3 : l1_3.length ≤ c1_3) (h : laws_eqCloud.f k l0_0 a0_1 l0_2 l0_3 l1_0 a1_1 l1_2 l1_3 = some r) :
    Calls Try.prog 32 #[.agg #[.slice A0_0 l0_0.length c0_0, .int .i64 a0_1, .slice A0_2 l0_2.length c0_2, .slice A0_3 l0_3.length c0_3], .agg #[.slice A1_0 l1_0.length c1_0, .int .i64 a1_1, .slice A1_2 l1_2.length c1_2, .slice A1_3 l1_3.length c1_3]] w fun e w' => e = .returned (.bool r) ∧ Below w.heap.size w w' := by
  have hu62 := Try.underlying62
  have hu49 := Try.underlying49
  have HR0_0 := Aside0.mk hr0_0
  have HC0_0 := Aside0.mk hc0_0
  clear hr0_0 hc0_0
  have HR0_2 := Aside0.mk hr0_2
  have HC0_2 := Aside0.mk hc0_2
  clear hr0_2 hc0_2
  have HR0_3 := Aside0.mk hr0_3
  have HC0_3 := Aside0.mk hc0_3
  clear hr0_3 hc0_3
  have HR1_0 := Aside0.mk hr1_0
  have HC1_0 := Aside0.mk hc1_0
  clear hr1_0 hc1_0
  have HR1_2 := Aside0.mk hr1_2
  have HC1_2 := Aside0.mk hc1_2
  clear hr1_2 hc1_2
  have HR1_3 := Aside0.mk hr1_3
  have HC1_3 := Aside0.mk hc1_3
  clear hr1_3 hc1_3
  have HB := Aside0.mk (Below.refl w.heap.size w)
  have H : ((laws_eqLogEntryS.f k l0_0 l1_0).bind fun t211 => (if t211 = true then ((laws_eqEpochBoxes.f k a0_1 l0_2 a1_1 l1_2).bind fun t212 => (if t212 = true then ((laws_eqSealedBundleS.f k l0_3 l1_3).bind fun t213 => (if t213 = true then (some true) else (some false))) else (some false))) else (some false))) = some r := h
  clear h
  replace H := Option.bind_eq_some_iff.mp H
  obtain ⟨t211, A30, H⟩ := H
  replace H : (if t211 = true then ((laws_eqEpochBoxes.f k a0_1 l0_2 a1_1 l1_2).bind fun t212 => (if t212 = true then ((laws_eqSealedBundleS.f k l0_3 l1_3).bind fun t213 => (if t213 = true then (some true) else (some false))) else (some false))) else (some false)) = some r := H
  have A3 := Aside0.mk A30
  clear A30
  have HC4 := Aside0.mk H
  clear H
  go_enter Try.func32, Try.ntmps32
  go_upto_if 10 with (first | ((with_reducible refine gate_dst (N := 2) rfl ?_); refine box_event ?hg (N := 2) ?hd (cs := #[.slice A0_0 l0_0.length c0_0, .int .i64 a0_1, .slice A0_2 l0_2.length c0_2, .slice A0_3 l0_3.length c0_3]) (t := 62) ?hr ?_; (case hd => rfl); (case hg => rfl); (case hr => first | (go_simp; done) | (go_simp; rfl)); intro gb209 hg w5 hbox hb; have n0_ := Aside0.mk (below_step (by repeat (first | (with_reducible first | exact HB.out | apply below_alloc | apply pw_below_drewN | apply below_drew1) | exact HB.out)) hb); have n1_ := Aside0.mk (hbox); have n2_ := Aside0.mk ((by rw [hg]; exact (below_size (by repeat (first | (with_reducible first | exact HB.out | apply below_alloc | apply pw_below_drewN | apply below_drew1) | exact HB.out))) : w.heap.size ≤ gb209)); have n3_ := Aside0.mk ((by rw [hg]; exact (below_size (by repeat (first | (with_reducible first | exact HB.out | apply below_alloc | apply pw_below_drewN | apply below_drew1) | exact HB.out))) : w.heap.size ≤ gb209)); clear HB; have HB := n0_; have BK209 := n1_; have GW209 := n2_; have GE209 := n3_; clear n0_ n1_ n2_ n3_; clear hb hbox hg) | ((with_reducible refine gate_dst (N := 3) rfl ?_); refine box_event ?hg (N := 3) ?hd (cs := #[.slice A1_0 l1_0.length c1_0, .int .i64 a1_1, .slice A1_2 l1_2.length c1_2, .slice A1_3 l1_3.length c1_3]) (t := 62) ?hr ?_; (case hd => rfl); (case hg => rfl); (case hr => first | (go_simp; done) | (go_simp; rfl)); intro gb210 hg w6 hbox hb; have n0_ := Aside0.mk (blk_below (g := gb209) (o := .cells #[.slice A0_0 l0_0.length c0_0, .int .i64 a0_1, .slice A0_2 l0_2.length c0_2, .slice A0_3 l0_3.length c0_3] 62 (0, 0)) (by (with_reducible repeat (first | refine blk_drewN ?_ _ | refine blk_drew ?_ | refine blk_alloc ?_ _)); exact BK209.out) hb); have n1_ := Aside0.mk (below_step (by repeat (first | (with_reducible first | exact HB.out | apply below_alloc | apply pw_below_drewN | apply below_drew1 | refine below_set ?_ GE209.out) | exact HB.out)) hb); have n2_ := Aside0.mk (hbox); have n3_ := Aside0.mk ((by rw [hg]; exact (below_size (by repeat (first | (with_reducible first | exact HB.out | apply below_alloc | apply pw_below_drewN | apply below_drew1 | refine below_set ?_ GE209.out) | exact HB.out))) : w.heap.size ≤ gb210)); have n4_ := Aside0.mk ((by rw [hg]; exact (below_size (by repeat (first | (with_reducible first | exact HB.out | apply below_alloc | apply pw_below_drewN | apply below_drew1 | refine below_set ?_ GE209.out) | exact HB.out))) : w.heap.size ≤ gb210)); have n5_ := Aside0.mk ((by rw [hg]; exact Nat.ne_of_lt (blk_lt (g := gb209) (o := .cells #[.slice A0_0 l0_0.length c0_0, .int .i64 a0_1, .slice A0_2 l0_2.length c0_2, .slice A0_3 l0_3.length c0_3] 62 (0, 0)) (by (with_reducible repeat (first | refine blk_drewN ?_ _ | refine blk_drew ?_ | refine blk_alloc ?_ _)); exact BK209.out)) : gb209 ≠ gb210)); have n6_ := Aside0.mk ((by rw [hg]; exact Nat.ne_of_gt (blk_lt (g := gb209) (o := .cells #[.slice A0_0 l0_0.length c0_0, .int .i64 a0_1, .slice A0_2 l0_2.length c0_2, .slice A0_3 l0_3.length c0_3] 62 (0, 0)) (by (with_reducible repeat (first | refine blk_drewN ?_ _ | refine blk_drew ?_ | refine blk_alloc ?_ _)); exact BK209.out)) : gb210 ≠ gb209)); clear BK209; clear HB; have BK209 := n0_; have HB := n1_; have BK210 := n2_; have GW210 := n3_; have GE210 := n4_; have NB209_210 := n5_; have NB210_209 := n6_; clear n0_ n1_ n2_ n3_ n4_ n5_ n6_; clear hb hbox hg; have hnb7 := NB209_210.out; have hnc7 := NB210_209.out; have hcz8_0 : w6.cell? ⟨gb209, 0, none⟩ = some (.slice A0_0 l0_0.length c0_0) := (blk_cell BK209.out 0).trans rfl; have hcz8_1 : w6.cell? ⟨gb209, 1, none⟩ = some (.int .i64 a0_1) := (blk_cell BK209.out 1).trans rfl; have hcz8_2 : w6.cell? ⟨gb209, 2, none⟩ = some (.slice A0_2 l0_2.length c0_2) := (blk_cell BK209.out 2).trans rfl; have hcz8_3 : w6.cell? ⟨gb209, 3, none⟩ = some (.slice A0_3 l0_3.length c0_3) := (blk_cell BK209.out 3).trans rfl; have hfz8_0 := blk_frozen BK209.out 0; have hfz8_1 := blk_frozen BK209.out 1; have hfz8_2 := blk_frozen BK209.out 2; have hfz8_3 := blk_frozen BK209.out 3; have hcz9_0 : w6.cell? ⟨gb210, 0, none⟩ = some (.slice A1_0 l1_0.length c1_0) := (blk_cell BK210.out 0).trans rfl; have hcz9_1 : w6.cell? ⟨gb210, 1, none⟩ = some (.int .i64 a1_1) := (blk_cell BK210.out 1).trans rfl; have hcz9_2 : w6.cell? ⟨gb210, 2, none⟩ = some (.slice A1_2 l1_2.length c1_2) := (blk_cell BK210.out 2).trans rfl; have hcz9_3 : w6.cell? ⟨gb210, 3, none⟩ = some (.slice A1_3 l1_3.length c1_3) := (blk_cell BK210.out 3).trans rfl; have hfz9_0 := blk_frozen BK210.out 0; have hfz9_1 := blk_frozen BK210.out 1; have hfz9_2 := blk_frozen BK210.out 2; have hfz9_3 := blk_frozen BK210.out 3) | ((with_reducible refine gate_callee (f := 27) rfl ?_); refine goesL_ (some 9) rfl rfl Try.func27 (by kernel_rfl) rfl #[.slice A0_0 l0_0.length c0_0, .slice A1_0 l1_0.length c1_0] rfl (by (try simp only [List.map_toArray, List.map_cons, List.map_nil]); first | done | rfl | (simp only [List.length_drop, List.length_take]; rfl)) ?_; (with_reducible refine (laws_eqLogEntryS.calls k _ _ l0_0 _ _ l1_0 t211 _ ?side1 ?side2 ?side3 ?side4 A3.out).mono ?_); (case side1 => repeat (first | exact (Kd.C_below HR0_0.out HB.out) | (with_reducible refine Kd.C_alloc ?_ _) | (with_reducible refine Kd.C_drewN ?_ _) | (with_reducible refine Kd.C_drew ?_))); (case side2 => exact HC0_0.out); (case side3 => repeat (first | exact (Kd.C_below HR1_0.out HB.out) | (with_reducible refine Kd.C_alloc ?_ _) | (with_reducible refine Kd.C_drewN ?_ _) | (with_reducible refine Kd.C_drew ?_))); (case side4 => exact HC1_0.out); rintro e w10 ⟨rfl, hb⟩; refine ⟨_, rfl, ?_⟩; have n0_ := Aside0.mk (blk_below (g := gb209) (o := .cells #[.slice A0_0 l0_0.length c0_0, .int .i64 a0_1, .slice A0_2 l0_2.length c0_2, .slice A0_3 l0_3.length c0_3] 62 (0, 0)) (by (with_reducible repeat (first | refine blk_drewN ?_ _ | refine blk_drew ?_ | refine blk_alloc ?_ _)); exact BK209.out) hb); have n1_ := Aside0.mk (blk_below (g := gb210) (o := .cells #[.slice A1_0 l1_0.length c1_0, .int .i64 a1_1, .slice A1_2 l1_2.length c1_2, .slice A1_3 l1_3.length c1_3] 62 (0, 0)) (by (with_reducible repeat (first | refine blk_drewN ?_ _ | refine blk_drew ?_ | refine blk_alloc ?_ _)); exact BK210.out) hb); have n2_ := Aside0.mk (below_step (by repeat (first | (with_reducible first | exact HB.out | apply below_alloc | apply pw_below_drewN | apply below_drew1 | refine below_set ?_ GE209.out | refine below_set ?_ GE210.out) | exact HB.out)) hb); clear BK209; clear BK210; clear HB; have BK209 := n0_; have BK210 := n1_; have HB := n2_; clear n0_ n1_ n2_; (try clear hb); (try clear hb2); (try clear hk); (try clear hi)))
  (try simp only [Act.put, List.setIfInBounds_toArray, List.set_cons_zero, List.set_cons_succ])
  have H := HC4.out
  clear HC4
  by_cases c11 : t211 = true
  · subst c11
    have H1 : ((laws_eqEpochBoxes.f k a0_1 l0_2 a1_1 l1_2).bind fun t212 => (if t212 = true then ((laws_eqSealedBundleS.f k l0_3 l1_3).bind fun t213 => (if t213 = true then (some true) else (some false))) else (some false))) = some r := by rw [if_pos rfl] at H; exact H
    clear H
    have H := H1
    clear H1
    replace H := Option.bind_eq_some_iff.mp H
    obtain ⟨t212, A120, H⟩ := H
    replace H : (if t212 = true then ((laws_eqSealedBundleS.f k l0_3 l1_3).bind fun t213 => (if t213 = true then (some true) else (some false))) else (some false)) = some r := H
    have A12 := Aside0.mk A120
    clear A120
    have HC13 := Aside0.mk H
    clear H
    have hnb14 := NB209_210.out
    have hnc14 := NB210_209.out
    have hcz15_0 : w10.cell? ⟨gb209, 0, none⟩ = some (.slice A0_0 l0_0.length c0_0) := (blk_cell BK209.out 0).trans rfl
    have hcz15_1 : w10.cell? ⟨gb209, 1, none⟩ = some (.int .i64 a0_1) := (blk_cell BK209.out 1).trans rfl
    have hcz15_2 : w10.cell? ⟨gb209, 2, none⟩ = some (.slice A0_2 l0_2.length c0_2) := (blk_cell BK209.out 2).trans rfl
    have hcz15_3 : w10.cell? ⟨gb209, 3, none⟩ = some (.slice A0_3 l0_3.length c0_3) := (blk_cell BK209.out 3).trans rfl
    have hfz15_0 := blk_frozen BK209.out 0
    have hfz15_1 := blk_frozen BK209.out 1
    have hfz15_2 := blk_frozen BK209.out 2
    have hfz15_3 := blk_frozen BK209.out 3
    have hcz16_0 : w10.cell? ⟨gb210, 0, none⟩ = some (.slice A1_0 l1_0.length c1_0) := (blk_cell BK210.out 0).trans rfl
    have hcz16_1 : w10.cell? ⟨gb210, 1, none⟩ = some (.int .i64 a1_1) := (blk_cell BK210.out 1).trans rfl
    have hcz16_2 : w10.cell? ⟨gb210, 2, none⟩ = some (.slice A1_2 l1_2.length c1_2) := (blk_cell BK210.out 2).trans rfl
    have hcz16_3 : w10.cell? ⟨gb210, 3, none⟩ = some (.slice A1_3 l1_3.length c1_3) := (blk_cell BK210.out 3).trans rfl
    have hfz16_0 := blk_frozen BK210.out 0
    have hfz16_1 := blk_frozen BK210.out 1
    have hfz16_2 := blk_frozen BK210.out 2
    have hfz16_3 := blk_frozen BK210.out 3
    go_upto_if 16 with (first | ((with_reducible refine gate_callee (f := 26) rfl ?_); refine goesL_ (some 15) rfl rfl Try.func26 (by kernel_rfl) rfl #[.agg #[.int .i64 a0_1, .slice A0_2 l0_2.length c0_2], .agg #[.int .i64 a1_1, .slice A1_2 l1_2.length c1_2]] rfl (by (try simp only [List.map_toArray, List.map_cons, List.map_nil]); first | done | rfl | (simp only [List.length_drop, List.length_take]; rfl)) ?_; (with_reducible refine (laws_eqEpochBoxes.calls k a0_1 _ _ l0_2 a1_1 _ _ l1_2 t212 _ ?side1 ?side2 ?side3 ?side4 A12.out).mono ?_); (case side1 => repeat (first | exact (Kd.C_below HR0_2.out HB.out) | (with_reducible refine Kd.C_alloc ?_ _) | (with_reducible refine Kd.C_drewN ?_ _) | (with_reducible refine Kd.C_drew ?_))); (case side2 => exact HC0_2.out); (case side3 => repeat (first | exact (Kd.C_below HR1_2.out HB.out) | (with_reducible refine Kd.C_alloc ?_ _) | (with_reducible refine Kd.C_drewN ?_ _) | (with_reducible refine Kd.C_drew ?_))); (case side4 => exact HC1_2.out); rintro e w17 ⟨rfl, hb⟩; refine ⟨_, rfl, ?_⟩; have n0_ := Aside0.mk (blk_below (g := gb209) (o := .cells #[.slice A0_0 l0_0.length c0_0, .int .i64 a0_1, .slice A0_2 l0_2.length c0_2, .slice A0_3 l0_3.length c0_3] 62 (0, 0)) (by (with_reducible repeat (first | refine blk_drewN ?_ _ | refine blk_drew ?_ | refine blk_alloc ?_ _)); exact BK209.out) hb); have n1_ := Aside0.mk (blk_below (g := gb210) (o := .cells #[.slice A1_0 l1_0.length c1_0, .int .i64 a1_1, .slice A1_2 l1_2.length c1_2, .slice A1_3 l1_3.length c1_3] 62 (0, 0)) (by (with_reducible repeat (first | refine blk_drewN ?_ _ | refine blk_drew ?_ | refine blk_alloc ?_ _)); exact BK210.out) hb); have n2_ := Aside0.mk (below_step (by repeat (first | (with_reducible first | exact HB.out | apply below_alloc | apply pw_below_drewN | apply below_drew1 | refine below_set ?_ GE209.out | refine below_set ?_ GE210.out) | exact HB.out)) hb); clear BK209; clear BK210; clear HB; have BK209 := n0_; have BK210 := n1_; have HB := n2_; clear n0_ n1_ n2_; (try clear hb); (try clear hb2); (try clear hk); (try clear hi)))
    (try simp only [Act.put, List.setIfInBounds_toArray, List.set_cons_zero, List.set_cons_succ])
    have H := HC13.out
    clear HC13
    by_cases c18 : t212 = true
    · subst c18
      have H1 : ((laws_eqSealedBundleS.f k l0_3 l1_3).bind fun t213 => (if t213 = true then (some true) else (some false))) = some r := by rw [if_pos rfl] at H; exact H
      clear H
      have H := H1
      clear H1
      replace H := Option.bind_eq_some_iff.mp H
      obtain ⟨t213, A190, H⟩ := H
      replace H : (if t213 = true then (some true) else (some false)) = some r := H
      have A19 := Aside0.mk A190
      clear A190
      have HC20 := Aside0.mk H
      clear H
      have hnb21 := NB209_210.out
      have hnc21 := NB210_209.out
      have hcz22_0 : w17.cell? ⟨gb209, 0, none⟩ = some (.slice A0_0 l0_0.length c0_0) := (blk_cell BK209.out 0).trans rfl
      have hcz22_1 : w17.cell? ⟨gb209, 1, none⟩ = some (.int .i64 a0_1) := (blk_cell BK209.out 1).trans rfl
      have hcz22_2 : w17.cell? ⟨gb209, 2, none⟩ = some (.slice A0_2 l0_2.length c0_2) := (blk_cell BK209.out 2).trans rfl
      have hcz22_3 : w17.cell? ⟨gb209, 3, none⟩ = some (.slice A0_3 l0_3.length c0_3) := (blk_cell BK209.out 3).trans rfl
      have hfz22_0 := blk_frozen BK209.out 0
      have hfz22_1 := blk_frozen BK209.out 1
      have hfz22_2 := blk_frozen BK209.out 2
      have hfz22_3 := blk_frozen BK209.out 3
      have hcz23_0 : w17.cell? ⟨gb210, 0, none⟩ = some (.slice A1_0 l1_0.length c1_0) := (blk_cell BK210.out 0).trans rfl
      have hcz23_1 : w17.cell? ⟨gb210, 1, none⟩ = some (.int .i64 a1_1) := (blk_cell BK210.out 1).trans rfl
      have hcz23_2 : w17.cell? ⟨gb210, 2, none⟩ = some (.slice A1_2 l1_2.length c1_2) := (blk_cell BK210.out 2).trans rfl
      have hcz23_3 : w17.cell? ⟨gb210, 3, none⟩ = some (.slice A1_3 l1_3.length c1_3) := (blk_cell BK210.out 3).trans rfl
      have hfz23_0 := blk_frozen BK210.out 0
      have hfz23_1 := blk_frozen BK210.out 1
      have hfz23_2 := blk_frozen BK210.out 2
      have hfz23_3 := blk_frozen BK210.out 3
      go_upto_if 22 with (first | ((with_reducible refine gate_callee (f := 94) rfl ?_); refine goesL_ (some 21) rfl rfl Try.func94 (by kernel_rfl) rfl #[.slice A0_3 l0_3.length c0_3, .slice A1_3 l1_3.length c1_3] rfl (by (try simp only [List.map_toArray, List.map_cons, List.map_nil]); first | done | rfl | (simp only [List.length_drop, List.length_take]; rfl)) ?_; (with_reducible refine (laws_eqSealedBundleS.calls k _ _ l0_3 _ _ l1_3 t213 _ ?side1 ?side2 ?side3 ?side4 A19.out).mono ?_); (case side1 => repeat (first | exact (Kd.C_below HR0_3.out HB.out) | (with_reducible refine Kd.C_alloc ?_ _) | (with_reducible refine Kd.C_drewN ?_ _) | (with_reducible refine Kd.C_drew ?_))); (case side2 => exact HC0_3.out); (case side3 => repeat (first | exact (Kd.C_below HR1_3.out HB.out) | (with_reducible refine Kd.C_alloc ?_ _) | (with_reducible refine Kd.C_drewN ?_ _) | (with_reducible refine Kd.C_drew ?_))); (case side4 => exact HC1_3.out); rintro e w24 ⟨rfl, hb⟩; refine ⟨_, rfl, ?_⟩; have n0_ := Aside0.mk (blk_below (g := gb209) (o := .cells #[.slice A0_0 l0_0.length c0_0, .int .i64 a0_1, .slice A0_2 l0_2.length c0_2, .slice A0_3 l0_3.length c0_3] 62 (0, 0)) (by (with_reducible repeat (first | refine blk_drewN ?_ _ | refine blk_drew ?_ | refine blk_alloc ?_ _)); exact BK209.out) hb); have n1_ := Aside0.mk (blk_below (g := gb210) (o := .cells #[.slice A1_0 l1_0.length c1_0, .int .i64 a1_1, .slice A1_2 l1_2.length c1_2, .slice A1_3 l1_3.length c1_3] 62 (0, 0)) (by (with_reducible repeat (first | refine blk_drewN ?_ _ | refine blk_drew ?_ | refine blk_alloc ?_ _)); exact BK210.out) hb); have n2_ := Aside0.mk (below_step (by repeat (first | (with_reducible first | exact HB.out | apply below_alloc | apply pw_below_drewN | apply below_drew1 | refine below_set ?_ GE209.out | refine below_set ?_ GE210.out) | exact HB.out)) hb); clear BK209; clear BK210; clear HB; have BK209 := n0_; have BK210 := n1_; have HB := n2_; clear n0_ n1_ n2_; (try clear hb); (try clear hb2); (try clear hk); (try clear hi)))
      (try simp only [Act.put, List.setIfInBounds_toArray, List.set_cons_zero, List.set_cons_succ])
      have H := HC20.out
      clear HC20
      by_cases c25 : t213 = true
      · subst c25
        have H1 : (some true) = some r := by rw [if_pos rfl] at H; exact H
        clear H
        have H := H1
        clear H1
        obtain rfl := Option.some.inj H
        go_wp2
        go_ret
        exact ⟨by first | rfl | (simp [errW_none, errW_some] <;> rfl) | (simp [*, errW_none, errW_some] <;> rfl), by repeat (first | (with_reducible first | exact HB.out | apply below_alloc | apply pw_below_drewN | apply below_drew1 | refine below_set ?_ GE209.out | refine below_set ?_ GE210.out) | exact HB.out)⟩
      · replace c25 := Bool.eq_false_iff.mpr c25
        subst c25
        have H1 : (some false) = some r := by rw [if_neg (show ¬ (false = true) by decide)] at H; exact H
        clear H
        have H := H1
        clear H1
        obtain rfl := Option.some.inj H
        go_wp2
        go_ret
        exact ⟨by first | rfl | (simp [errW_none, errW_some] <;> rfl) | (simp [*, errW_none, errW_some] <;> rfl), by repeat (first | (with_reducible first | exact HB.out | apply below_alloc | apply pw_below_drewN | apply below_drew1 | refine below_set ?_ GE209.out | refine below_set ?_ GE210.out) | exact HB.out)⟩
    · replace c18 := Bool.eq_false_iff.mpr c18
      subst c18
      have H1 : (some false) = some r := by rw [if_neg (show ¬ (false = true) by decide)] at H; exact H
      clear H
      have H := H1
      clear H1
      obtain rfl := Option.some.inj H
      go_wp2
      go_ret
      exact ⟨by first | rfl | (simp [errW_none, errW_some] <;> rfl) | (simp [*, errW_none, errW_some] <;> rfl), by repeat (first | (with_reducible first | exact HB.out | apply below_alloc | apply pw_below_drewN | apply below_drew1 | refine below_set ?_ GE209.out | refine below_set ?_ GE210.out) | exact HB.out)⟩
  · replace c11 := Bool.eq_false_iff.mpr c11
    subst c11
    have H1 : (some false) = some r := by rw [if_neg (show ¬ (false = true) by decide)] at H; exact H
    clear H
    have H := H1
    clear H1
    obtain rfl := Option.some.inj H
    go_wp2
    go_ret
    exact ⟨by first | rfl | (simp [errW_none, errW_some] <;> rfl) | (simp [*, errW_none, errW_some] <;> rfl), by repeat (first | (with_reducible first | exact HB.out | apply below_alloc | apply pw_below_drewN | apply below_drew1 | refine below_set ?_ GE209.out | refine below_set ?_ GE210.out) | exact HB.out)⟩

/-! ### laws_markLogEntryS: function 44 -/
def laws_markLogEntryS.l0 : Nat → List (S114) → Int → Int → Option (Int × (List (S114)))
  | 0, _, _, _ => none
  | k + 1, x0, x1, x5 => if x5 < (x0.length : Int) then (if 0 ≤ x5 then ((some (x0.set (x5 : Int).toNat (⟨x1, (rd_T114 x0 x5).f1, (rd_T114 x0 x5).f2, (rd_T114 x0 x5).f3, (rd_T114 x0 x5).f4, (rd_T114 x0 x5).f5⟩ : S114) : List (S114))).bind fun y214 => ((some (y214.set (x5 : Int).toNat (⟨(rd_T114 y214 x5).f0, wrap64 (x1 + 1), (rd_T114 y214 x5).f2, (rd_T114 y214 x5).f3, (rd_T114 y214 x5).f4, (rd_T114 y214 x5).f5⟩ : S114) : List (S114))).bind fun y215 => ((some (y215.set (x5 : Int).toNat (⟨(rd_T114 y215 x5).f0, (rd_T114 y215 x5).f1, wrap64 ((wrap64 (x1 + 1)) + 1), (rd_T114 y215 x5).f3, (rd_T114 y215 x5).f4, (rd_T114 y215 x5).f5⟩ : S114) : List (S114))).bind fun y216 => ((some (y216.set (x5 : Int).toNat (⟨(rd_T114 y216 x5).f0, (rd_T114 y216 x5).f1, (rd_T114 y216 x5).f2, wrap64 ((wrap64 ((wrap64 (x1 + 1)) + 1)) + 1), (rd_T114 y216 x5).f4, (rd_T114 y216 x5).f5⟩ : S114) : List (S114))).bind fun y217 => ((some (y217.set (x5 : Int).toNat (⟨(rd_T114 y217 x5).f0, (rd_T114 y217 x5).f1, (rd_T114 y217 x5).f2, (rd_T114 y217 x5).f3, wrap64 ((wrap64 ((wrap64 ((wrap64 (x1 + 1)) + 1)) + 1)) + 1), (rd_T114 y217 x5).f5⟩ : S114) : List (S114))).bind fun y218 => (laws_markLogEntryS.l0 k (y218.set (x5 : Int).toNat (⟨(rd_T114 y218 x5).f0, (rd_T114 y218 x5).f1, (rd_T114 y218 x5).f2, (rd_T114 y218 x5).f3, (rd_T114 y218 x5).f4, wrap64 ((wrap64 ((wrap64 ((wrap64 ((wrap64 (x1 + 1)) + 1)) + 1)) + 1)) + 1)⟩ : S114)) (wrap64 ((wrap64 ((wrap64 ((wrap64 ((wrap64 ((wrap64 (x1 + 1)) + 1)) + 1)) + 1)) + 1)) + 1)) (wrap64 (x5 + 1)))))))) else (none)) else (some (x1, x0))
def laws_markLogEntryS.f (k : Nat) (l0 : List (S114)) (a1 : Int) : Option (Int × (List (S114))) := laws_markLogEntryS.l0 k l0 a1 0
theorem laws_markLogEntryS.mono_l : ∀ k, (∀ y0 y1 y2, LeO (laws_markLogEntryS.l0 k y0 y1 y2) (laws_markLogEntryS.l0 (k + 1) y0 y1 y2))
  | 0 => fun _ _ _ r h => by simp [laws_markLogEntryS.l0] at h
  | k + 1 => by
    have ih0 := laws_markLogEntryS.mono_l k
    · intro y0 y1 y2
      unfold laws_markLogEntryS.l0
      repeat' first
      | (with_reducible exact ih0 _ _ _)
      | (with_reducible exact LeO.refl _)
      | (with_reducible exact LeO.none _)
      | (with_reducible refine LeO.ite ?_ ?_)
      | (with_reducible refine LeO.bind ?_ (fun _ => ?_))
      | exact ih0 _ _ _
      | exact LeO.none _
      | refine LeO.ite ?_ ?_
      | refine LeO.bind ?_ (fun _ => ?_)
theorem laws_markLogEntryS.mono : ∀ a0 a1 k, LeO (laws_markLogEntryS.f k a0 a1) (laws_markLogEntryS.f (k + 1) a0 a1) := by
  intro a0 a1 k
  have ih0 := laws_markLogEntryS.mono_l k
  unfold laws_markLogEntryS.f
  repeat' first
      | (with_reducible exact ih0 _ _ _)
      | (with_reducible exact LeO.refl _)
      | (with_reducible exact LeO.none _)
      | (with_reducible refine LeO.ite ?_ ?_)
      | (with_reducible refine LeO.bind ?_ (fun _ => ?_))
      | exact ih0 _ _ _
      | exact LeO.none _
      | refine LeO.ite ?_ ?_
      | refine LeO.bind ?_ (fun _ => ?_)
set_option maxHeartbeats 8000000 in
set_option maxRecDepth 100000 in
theorem laws_markLogEntryS.calls (k : Nat) (P0_ : Nat → Prop) (u9000_ : Value) (l0 : List (S114)) (a1 : Int) (r1 : Int) (r2 : List (S114)) (w0 w : World) (hB : Below w0.heap.size w0 w) (ho0 : Kd.R k114 114 w w0.heap.size P0_ u9000_ l0) (h : laws_markLogEntryS.f k l0 a1 = some (r1, r2)) :
    Calls Try.prog 44 #[u9000_, .int .i64 a1] w fun e w' => e = .returned (.int .i64 r1) ∧ Kd.R k114 114 w' w0.heap.size (fun k_ => (P0_ k_ ∨ w.heap.size ≤ k_)) u9000_ r2 ∧ Below w0.heap.size w0 w' ∧ Kept w w' (fun k_ => P0_ k_) := by
  have HO0 := Aside0.mk (show Kd.R k114 114 w w0.heap.size (fun k_ => (P0_ k_ ∨ w.heap.size ≤ k_)) u9000_ l0 from Kd.R_mono ho0 (fun k_ hk => (.inl hk)))
  have HK := Aside0.mk (Kept.refl w (fun k_ => P0_ k_))
  have HW0 := Aside0.mk hB.size
  have HB := Aside0.mk hB
  clear hB
  have H : (laws_markLogEntryS.l0 k l0 a1 0) = some (r1, r2) := h
  clear h
  have H' := Aside0.mk H
  clear H
  go_enter Try.func44, Try.ntmps44
  go_wp2
  go_loopg [1, 5] k (fun kq v1 v5 w' => ∃ (x0_1 : List (S114)) (x1_1 : Int) (x5_1 : Int), v1 = .int .i64 x1_1 ∧ v5 = .int .i64 x5_1 ∧ Aside0 (laws_markLogEntryS.l0 kq x0_1 x1_1 x5_1 = some (r1, r2)) ∧ Aside0 (kq ≤ k) ∧ Aside0 (Kd.R k114 114 w' w0.heap.size (fun k_ => (P0_ k_ ∨ w.heap.size ≤ k_)) u9000_ x0_1) ∧ Aside0 (Kept w w' (fun k_ => P0_ k_)) ∧ Aside0 (Below w0.heap.size w0 w'))
  case atStart => exact ⟨(l0), (a1), (0), (by first | rfl | (simp; done) | (simp [*]; done)), (by first | rfl | (simp; done) | (simp [*]; done)), H', ⟨Nat.le_refl _⟩, ⟨by (with_reducible repeat (first | apply Kd.R_alloc | apply Kd.R_drewN | apply Kd.R_drew)); exact HO0.out⟩, ⟨by repeat (first | (with_reducible first | exact HK.out | apply Kept.alloc | apply Kept.drewN | apply Kept.drew) | exact HK.out)⟩, ⟨by repeat (first | (with_reducible first | exact HB.out | apply below_alloc | apply pw_below_drewN | apply below_drew1) | exact HB.out)⟩⟩
  case round =>
    clear H'
    try clear p2
    obtain ⟨x0_1, x1_1, x5_1, rfl, rfl, HA, HK1, HO_0, HK, HB⟩ := hrel
    cases gk with
    | zero => exact absurd HA.out (by simp [laws_markLogEntryS.l0])
    | succ k1 =>
      have H := HA.out
      clear HA
      simp only [laws_markLogEntryS.l0] at H
      by_cases c3 : x5_1 < (x0_1.length : Int)
      · rw [if_pos c3] at H
        have c3b0 : decide (x5_1 < (x0_1.length : Int)) = true := decide_eq_true c3
        clear c3
        by_cases c4 : 0 ≤ x5_1
        · rw [if_pos c4] at H
          have c4b0 : decide (0 ≤ x5_1) = true := decide_eq_true c4
          clear c4
          obtain ⟨y214, hy214⟩ : ∃ y_ : List (S114), y_ = (x0_1.set (x5_1 : Int).toNat (⟨x1_1, (rd_T114 x0_1 x5_1).f1, (rd_T114 x0_1 x5_1).f2, (rd_T114 x0_1 x5_1).f3, (rd_T114 x0_1 x5_1).f4, (rd_T114 x0_1 x5_1).f5⟩ : S114)) := ⟨_, rfl⟩
          replace H : ((some (y214.set (x5_1 : Int).toNat (⟨(rd_T114 y214 x5_1).f0, wrap64 (x1_1 + 1), (rd_T114 y214 x5_1).f2, (rd_T114 y214 x5_1).f3, (rd_T114 y214 x5_1).f4, (rd_T114 y214 x5_1).f5⟩ : S114) : List (S114))).bind fun y215 => ((some (y215.set (x5_1 : Int).toNat (⟨(rd_T114 y215 x5_1).f0, (rd_T114 y215 x5_1).f1, wrap64 ((wrap64 (x1_1 + 1)) + 1), (rd_T114 y215 x5_1).f3, (rd_T114 y215 x5_1).f4, (rd_T114 y215 x5_1).f5⟩ : S114) : List (S114))).bind fun y216 => ((some (y216.set (x5_1 : Int).toNat (⟨(rd_T114 y216 x5_1).f0, (rd_T114 y216 x5_1).f1, (rd_T114 y216 x5_1).f2, wrap64 ((wrap64 ((wrap64 (x1_1 + 1)) + 1)) + 1), (rd_T114 y216 x5_1).f4, (rd_T114 y216 x5_1).f5⟩ : S114) : List (S114))).bind fun y217 => ((some (y217.set (x5_1 : Int).toNat (⟨(rd_T114 y217 x5_1).f0, (rd_T114 y217 x5_1).f1, (rd_T114 y217 x5_1).f2, (rd_T114 y217 x5_1).f3, wrap64 ((wrap64 ((wrap64 ((wrap64 (x1_1 + 1)) + 1)) + 1)) + 1), (rd_T114 y217 x5_1).f5⟩ : S114) : List (S114))).bind fun y218 => (laws_markLogEntryS.l0 k1 (y218.set (x5_1 : Int).toNat (⟨(rd_T114 y218 x5_1).f0, (rd_T114 y218 x5_1).f1, (rd_T114 y218 x5_1).f2, (rd_T114 y218 x5_1).f3, (rd_T114 y218 x5_1).f4, wrap64 ((wrap64 ((wrap64 ((wrap64 ((wrap64 (x1_1 + 1)) + 1)) + 1)) + 1)) + 1)⟩ : S114)) (wrap64 ((wrap64 ((wrap64 ((wrap64 ((wrap64 ((wrap64 (x1_1 + 1)) + 1)) + 1)) + 1)) + 1)) + 1)) (wrap64 (x5_1 + 1))))))) = some (r1, r2) := by first | (rw [hy214]; with_reducible exact H) | (have H2_ := (Option.bind_some _ _).symm.trans H; rw [hy214]; with_reducible exact H2_) | (have H2_ := (Option.bind_some _ _).symm.trans H; with_reducible exact H2_) | with_reducible exact H | (rw [hy214]; exact H) | exact H
          have Ny214 := Aside0.mk hy214
          clear hy214
          obtain ⟨y215, hy215⟩ : ∃ y_ : List (S114), y_ = (y214.set (x5_1 : Int).toNat (⟨(rd_T114 y214 x5_1).f0, wrap64 (x1_1 + 1), (rd_T114 y214 x5_1).f2, (rd_T114 y214 x5_1).f3, (rd_T114 y214 x5_1).f4, (rd_T114 y214 x5_1).f5⟩ : S114)) := ⟨_, rfl⟩
          replace H : ((some (y215.set (x5_1 : Int).toNat (⟨(rd_T114 y215 x5_1).f0, (rd_T114 y215 x5_1).f1, wrap64 ((wrap64 (x1_1 + 1)) + 1), (rd_T114 y215 x5_1).f3, (rd_T114 y215 x5_1).f4, (rd_T114 y215 x5_1).f5⟩ : S114) : List (S114))).bind fun y216 => ((some (y216.set (x5_1 : Int).toNat (⟨(rd_T114 y216 x5_1).f0, (rd_T114 y216 x5_1).f1, (rd_T114 y216 x5_1).f2, wrap64 ((wrap64 ((wrap64 (x1_1 + 1)) + 1)) + 1), (rd_T114 y216 x5_1).f4, (rd_T114 y216 x5_1).f5⟩ : S114) : List (S114))).bind fun y217 => ((some (y217.set (x5_1 : Int).toNat (⟨(rd_T114 y217 x5_1).f0, (rd_T114 y217 x5_1).f1, (rd_T114 y217 x5_1).f2, (rd_T114 y217 x5_1).f3, wrap64 ((wrap64 ((wrap64 ((wrap64 (x1_1 + 1)) + 1)) + 1)) + 1), (rd_T114 y217 x5_1).f5⟩ : S114) : List (S114))).bind fun y218 => (laws_markLogEntryS.l0 k1 (y218.set (x5_1 : Int).toNat (⟨(rd_T114 y218 x5_1).f0, (rd_T114 y218 x5_1).f1, (rd_T114 y218 x5_1).f2, (rd_T114 y218 x5_1).f3, (rd_T114 y218 x5_1).f4, wrap64 ((wrap64 ((wrap64 ((wrap64 ((wrap64 (x1_1 + 1)) + 1)) + 1)) + 1)) + 1)⟩ : S114)) (wrap64 ((wrap64 ((wrap64 ((wrap64 ((wrap64 ((wrap64 (x1_1 + 1)) + 1)) + 1)) + 1)) + 1)) + 1)) (wrap64 (x5_1 + 1)))))) = some (r1, r2) := by first | (rw [hy215]; with_reducible exact H) | (have H2_ := (Option.bind_some _ _).symm.trans H; rw [hy215]; with_reducible exact H2_) | (have H2_ := (Option.bind_some _ _).symm.trans H; with_reducible exact H2_) | with_reducible exact H | (rw [hy215]; exact H) | exact H
          have Ny215 := Aside0.mk hy215
          clear hy215
          obtain ⟨y216, hy216⟩ : ∃ y_ : List (S114), y_ = (y215.set (x5_1 : Int).toNat (⟨(rd_T114 y215 x5_1).f0, (rd_T114 y215 x5_1).f1, wrap64 ((wrap64 (x1_1 + 1)) + 1), (rd_T114 y215 x5_1).f3, (rd_T114 y215 x5_1).f4, (rd_T114 y215 x5_1).f5⟩ : S114)) := ⟨_, rfl⟩
          replace H : ((some (y216.set (x5_1 : Int).toNat (⟨(rd_T114 y216 x5_1).f0, (rd_T114 y216 x5_1).f1, (rd_T114 y216 x5_1).f2, wrap64 ((wrap64 ((wrap64 (x1_1 + 1)) + 1)) + 1), (rd_T114 y216 x5_1).f4, (rd_T114 y216 x5_1).f5⟩ : S114) : List (S114))).bind fun y217 => ((some (y217.set (x5_1 : Int).toNat (⟨(rd_T114 y217 x5_1).f0, (rd_T114 y217 x5_1).f1, (rd_T114 y217 x5_1).f2, (rd_T114 y217 x5_1).f3, wrap64 ((wrap64 ((wrap64 ((wrap64 (x1_1 + 1)) + 1)) + 1)) + 1), (rd_T114 y217 x5_1).f5⟩ : S114) : List (S114))).bind fun y218 => (laws_markLogEntryS.l0 k1 (y218.set (x5_1 : Int).toNat (⟨(rd_T114 y218 x5_1).f0, (rd_T114 y218 x5_1).f1, (rd_T114 y218 x5_1).f2, (rd_T114 y218 x5_1).f3, (rd_T114 y218 x5_1).f4, wrap64 ((wrap64 ((wrap64 ((wrap64 ((wrap64 (x1_1 + 1)) + 1)) + 1)) + 1)) + 1)⟩ : S114)) (wrap64 ((wrap64 ((wrap64 ((wrap64 ((wrap64 ((wrap64 (x1_1 + 1)) + 1)) + 1)) + 1)) + 1)) + 1)) (wrap64 (x5_1 + 1))))) = some (r1, r2) := by first | (rw [hy216]; with_reducible exact H) | (have H2_ := (Option.bind_some _ _).symm.trans H; rw [hy216]; with_reducible exact H2_) | (have H2_ := (Option.bind_some _ _).symm.trans H; with_reducible exact H2_) | with_reducible exact H | (rw [hy216]; exact H) | exact H
          have Ny216 := Aside0.mk hy216
          clear hy216
          obtain ⟨y217, hy217⟩ : ∃ y_ : List (S114), y_ = (y216.set (x5_1 : Int).toNat (⟨(rd_T114 y216 x5_1).f0, (rd_T114 y216 x5_1).f1, (rd_T114 y216 x5_1).f2, wrap64 ((wrap64 ((wrap64 (x1_1 + 1)) + 1)) + 1), (rd_T114 y216 x5_1).f4, (rd_T114 y216 x5_1).f5⟩ : S114)) := ⟨_, rfl⟩
          replace H : ((some (y217.set (x5_1 : Int).toNat (⟨(rd_T114 y217 x5_1).f0, (rd_T114 y217 x5_1).f1, (rd_T114 y217 x5_1).f2, (rd_T114 y217 x5_1).f3, wrap64 ((wrap64 ((wrap64 ((wrap64 (x1_1 + 1)) + 1)) + 1)) + 1), (rd_T114 y217 x5_1).f5⟩ : S114) : List (S114))).bind fun y218 => (laws_markLogEntryS.l0 k1 (y218.set (x5_1 : Int).toNat (⟨(rd_T114 y218 x5_1).f0, (rd_T114 y218 x5_1).f1, (rd_T114 y218 x5_1).f2, (rd_T114 y218 x5_1).f3, (rd_T114 y218 x5_1).f4, wrap64 ((wrap64 ((wrap64 ((wrap64 ((wrap64 (x1_1 + 1)) + 1)) + 1)) + 1)) + 1)⟩ : S114)) (wrap64 ((wrap64 ((wrap64 ((wrap64 ((wrap64 ((wrap64 (x1_1 + 1)) + 1)) + 1)) + 1)) + 1)) + 1)) (wrap64 (x5_1 + 1)))) = some (r1, r2) := by first | (rw [hy217]; with_reducible exact H) | (have H2_ := (Option.bind_some _ _).symm.trans H; rw [hy217]; with_reducible exact H2_) | (have H2_ := (Option.bind_some _ _).symm.trans H; with_reducible exact H2_) | with_reducible exact H | (rw [hy217]; exact H) | exact H
          have Ny217 := Aside0.mk hy217
          clear hy217
          obtain ⟨y218, hy218⟩ : ∃ y_ : List (S114), y_ = (y217.set (x5_1 : Int).toNat (⟨(rd_T114 y217 x5_1).f0, (rd_T114 y217 x5_1).f1, (rd_T114 y217 x5_1).f2, (rd_T114 y217 x5_1).f3, wrap64 ((wrap64 ((wrap64 ((wrap64 (x1_1 + 1)) + 1)) + 1)) + 1), (rd_T114 y217 x5_1).f5⟩ : S114)) := ⟨_, rfl⟩
          replace H : (laws_markLogEntryS.l0 k1 (y218.set (x5_1 : Int).toNat (⟨(rd_T114 y218 x5_1).f0, (rd_T114 y218 x5_1).f1, (rd_T114 y218 x5_1).f2, (rd_T114 y218 x5_1).f3, (rd_T114 y218 x5_1).f4, wrap64 ((wrap64 ((wrap64 ((wrap64 ((wrap64 (x1_1 + 1)) + 1)) + 1)) + 1)) + 1)⟩ : S114)) (wrap64 ((wrap64 ((wrap64 ((wrap64 ((wrap64 ((wrap64 (x1_1 + 1)) + 1)) + 1)) + 1)) + 1)) + 1)) (wrap64 (x5_1 + 1))) = some (r1, r2) := by first | (rw [hy218]; with_reducible exact H) | (have H2_ := (Option.bind_some _ _).symm.trans H; rw [hy218]; with_reducible exact H2_) | (have H2_ := (Option.bind_some _ _).symm.trans H; with_reducible exact H2_) | with_reducible exact H | (rw [hy218]; exact H) | exact H
          have Ny218 := Aside0.mk hy218
          clear hy218
          obtain ⟨y219, hy219⟩ : ∃ y_ : List (S114), y_ = (y218.set (x5_1 : Int).toNat (⟨(rd_T114 y218 x5_1).f0, (rd_T114 y218 x5_1).f1, (rd_T114 y218 x5_1).f2, (rd_T114 y218 x5_1).f3, (rd_T114 y218 x5_1).f4, wrap64 ((wrap64 ((wrap64 ((wrap64 ((wrap64 (x1_1 + 1)) + 1)) + 1)) + 1)) + 1)⟩ : S114)) := ⟨_, rfl⟩
          replace H : (laws_markLogEntryS.l0 k1 y219 (wrap64 ((wrap64 ((wrap64 ((wrap64 ((wrap64 ((wrap64 (x1_1 + 1)) + 1)) + 1)) + 1)) + 1)) + 1)) (wrap64 (x5_1 + 1))) = some (r1, r2) := by first | (rw [hy219]; with_reducible exact H) | (have H2_ := (Option.bind_some _ _).symm.trans H; rw [hy219]; with_reducible exact H2_) | (have H2_ := (Option.bind_some _ _).symm.trans H; with_reducible exact H2_) | with_reducible exact H | (rw [hy219]; exact H) | exact H
          have Ny219 := Aside0.mk hy219
          clear hy219
          have H' := Aside0.mk H
          clear H
          obtain ⟨Ao11, co11, eo11⟩ := Kd.R_slice HO_0.out
          subst eo11
          have p5 : 0 ≤ (x5_1 : Int) := of_decide_eq_true (by first | (with_reducible assumption) | assumption)
          have q5 : (x5_1 : Int) < ((x0_1.length : Int) : Int) := of_decide_eq_true (by first | (with_reducible assumption) | assumption)
          obtain ⟨go5, co5, eo5, gb5, gl5, cl5, HG5⟩ := Kd.R_form HO_0.out (by omega)
          (first | cases eo5 | (injection eo5 with ea_ en_ ec_; (first | subst ea_ | (injection ea_ with ea_; subst ea_)); subst ec_; clear en_))
          have GB5 := Aside0.mk gb5
          have GG5 := Aside0.mk HG5
          clear gb5 gl5 HG5
          have HMgo5 := Aside0.mk (show (P0_ go5 ∨ w.heap.size ≤ go5) from (HO_0.out.1 _ rfl))
          obtain ⟨ce5, hcl5, hM5, hcc5, hfr5⟩ := Kd.R_elem HO_0.out z114 (x5_1 : Int) p5 q5
          obtain rfl := k114_openM hM5
          have hx5_0 : wr.cell? ⟨go5, (x5_1 : Int).toNat * 6, none⟩ = some (.int .i64 ((rd_T114 x0_1 x5_1).f0)) := hcc5 0 _ rfl
          have hx5_1 : wr.cell? ⟨go5, (x5_1 : Int).toNat * 6 + 1, none⟩ = some (.int .i64 ((rd_T114 x0_1 x5_1).f1)) := hcc5 1 _ rfl
          have hx5_2 : wr.cell? ⟨go5, (x5_1 : Int).toNat * 6 + 2, none⟩ = some (.int .i64 ((rd_T114 x0_1 x5_1).f2)) := hcc5 2 _ rfl
          have hx5_3 : wr.cell? ⟨go5, (x5_1 : Int).toNat * 6 + 3, none⟩ = some (.int .i64 ((rd_T114 x0_1 x5_1).f3)) := hcc5 3 _ rfl
          have hx5_4 : wr.cell? ⟨go5, (x5_1 : Int).toNat * 6 + 4, none⟩ = some (.int .i64 ((rd_T114 x0_1 x5_1).f4)) := hcc5 4 _ rfl
          have hx5_5 : wr.cell? ⟨go5, (x5_1 : Int).toNat * 6 + 5, none⟩ = some (.int .i64 ((rd_T114 x0_1 x5_1).f5)) := hcc5 5 _ rfl
          have hf5_0 : wr.frozen? ⟨go5, (x5_1 : Int).toNat * 6, none⟩ = false := hfr5 0
          have hf5_1 : wr.frozen? ⟨go5, (x5_1 : Int).toNat * 6 + 1, none⟩ = false := hfr5 1
          have hf5_2 : wr.frozen? ⟨go5, (x5_1 : Int).toNat * 6 + 2, none⟩ = false := hfr5 2
          have hf5_3 : wr.frozen? ⟨go5, (x5_1 : Int).toNat * 6 + 3, none⟩ = false := hfr5 3
          have hf5_4 : wr.frozen? ⟨go5, (x5_1 : Int).toNat * 6 + 4, none⟩ = false := hfr5 4
          have hf5_5 : wr.frozen? ⟨go5, (x5_1 : Int).toNat * 6 + 5, none⟩ = false := hfr5 5
          clear hcl5 hcc5 hfr5 hM5
          replace p5 := eq_true p5
          replace q5 := eq_true q5
          have HX12 := Aside0.mk (show Kd.R k114 114 wr w0.heap.size (fun k_ => (P0_ k_ ∨ w.heap.size ≤ k_)) (.slice (some ⟨go5, 0, none⟩) x0_1.length co11) x0_1 from (by (with_reducible repeat (first | apply Kd.R_alloc | apply Kd.R_drewN | apply Kd.R_drew)); exact HO_0.out))
          obtain ⟨ce12, hcl12, hM12, hcc12, hfr12⟩ := Kd.R_elem HX12.out z114 (x5_1 : Int) (of_decide_eq_true (by first | (with_reducible assumption) | assumption)) (by have h_ : (x5_1 : Int) < ((x0_1.length : Int) : Int) := of_decide_eq_true (by first | (with_reducible assumption) | assumption); first | exact h_ | (have e_ := (Kd.R_reads' HO_0.out).1; omega) | simpa using h_)
          obtain rfl := k114_openM hM12
          have HP12 := Kd.R_seg HX12.out (x5_1 : Int) (of_decide_eq_true (by first | (with_reducible assumption) | assumption)) (by have h_ : (x5_1 : Int) < ((x0_1.length : Int) : Int) := of_decide_eq_true (by first | (with_reducible assumption) | assumption); first | exact h_ | (have e_ := (Kd.R_reads' HO_0.out).1; omega) | simpa using h_) (seg := [.int .i64 x1_1]) (j := 0) hcl12 hcc12 (show 1 ≤ 6 from by decide) (x' := (⟨x1_1, (rd_T114 x0_1 x5_1).f1, (rd_T114 x0_1 x5_1).f2, (rd_T114 x0_1 x5_1).f3, (rd_T114 x0_1 x5_1).f4, (rd_T114 x0_1 x5_1).f5⟩ : S114)) (k114_mkM _ _ _ (⟨x1_1, (rd_T114 x0_1 x5_1).f1, (rd_T114 x0_1 x5_1).f2, (rd_T114 x0_1 x5_1).f3, (rd_T114 x0_1 x5_1).f4, (rd_T114 x0_1 x5_1).f5⟩ : S114) ) (fun _ hk => hk)
          have hx12_0 := hcc12 0 _ rfl
          (try simp only [show (k114).sz = 6 from rfl, Nat.mul_one, Nat.add_zero] at hx12_0)
          have hf12_0 := hfr12 0
          (try simp only [show (k114).sz = 6 from rfl, Nat.mul_one, Nat.add_zero] at hf12_0)
          clear hcl12 hcc12 hfr12 hM12
          go_wp2_with (first | ((with_reducible refine gate_store (t := 3) (p := 16) rfl ?_); refine store_event (t := 3) (p := 16) (v := ?vo_w13) (w1 := (wr.setCell ⟨go5, (x5_1 : Int).toNat * 6, none⟩ (.int .i64 x1_1))) ?hg ?ho ?hn ?hr ?_; (case ho => rfl); (case hg => rfl); (case hn => rfl); (case hr => first | (go_simp; done) | (go_simp; rfl)); intro w13 hw; have hg : wr.grownBy w13 (some go5) := (by rw [hw]; exact HP12.2); have hp_ : Kd.R k114 114 w13 w0.heap.size (fun k_ => (P0_ k_ ∨ w.heap.size ≤ k_)) (.slice (some ⟨go5, 0, none⟩) x0_1.length co11) y214 := (by rw [hw, Ny214.out]; exact HP12.1); clear HP12; have n0_ := Aside0.mk (hp_); have n1_ := Aside0.mk ((by rw [hw]; exact below_set (HB.out) GB5.out : Below w0.heap.size w0 w13)); have n2_ := Aside0.mk (Kept.of_grown (S := (fun k_ => P0_ k_)) hg (by repeat (first | (with_reducible first | exact HK.out | apply Kept.alloc | apply Kept.drewN | apply Kept.drew) | exact HK.out)) (fun k_ e_ => (HO_0.out.1 k_ e_))); clear HO_0; clear HB; clear HK; have HO_0 := n0_; have HB := n1_; have HK := n2_; clear n0_ n1_ n2_; clear hg hw hp_; have p6 : 0 ≤ (x5_1 : Int) := of_decide_eq_true (by first | (with_reducible assumption) | assumption); have q6 : (x5_1 : Int) < ((x0_1.length : Int) : Int) := of_decide_eq_true (by first | (with_reducible assumption) | assumption); obtain ⟨ce6, hcl6, hM6, hcc6, hfr6⟩ := Kd.R_elem HO_0.out z114 (x5_1 : Int) p6 q6; obtain rfl := k114_openM hM6; have hx6_0 : w13.cell? ⟨go5, (x5_1 : Int).toNat * 6, none⟩ = some (.int .i64 ((rd_T114 y214 x5_1).f0)) := hcc6 0 _ rfl; have hx6_1 : w13.cell? ⟨go5, (x5_1 : Int).toNat * 6 + 1, none⟩ = some (.int .i64 ((rd_T114 y214 x5_1).f1)) := hcc6 1 _ rfl; have hx6_2 : w13.cell? ⟨go5, (x5_1 : Int).toNat * 6 + 2, none⟩ = some (.int .i64 ((rd_T114 y214 x5_1).f2)) := hcc6 2 _ rfl; have hx6_3 : w13.cell? ⟨go5, (x5_1 : Int).toNat * 6 + 3, none⟩ = some (.int .i64 ((rd_T114 y214 x5_1).f3)) := hcc6 3 _ rfl; have hx6_4 : w13.cell? ⟨go5, (x5_1 : Int).toNat * 6 + 4, none⟩ = some (.int .i64 ((rd_T114 y214 x5_1).f4)) := hcc6 4 _ rfl; have hx6_5 : w13.cell? ⟨go5, (x5_1 : Int).toNat * 6 + 5, none⟩ = some (.int .i64 ((rd_T114 y214 x5_1).f5)) := hcc6 5 _ rfl; have hf6_0 : w13.frozen? ⟨go5, (x5_1 : Int).toNat * 6, none⟩ = false := hfr6 0; have hf6_1 : w13.frozen? ⟨go5, (x5_1 : Int).toNat * 6 + 1, none⟩ = false := hfr6 1; have hf6_2 : w13.frozen? ⟨go5, (x5_1 : Int).toNat * 6 + 2, none⟩ = false := hfr6 2; have hf6_3 : w13.frozen? ⟨go5, (x5_1 : Int).toNat * 6 + 3, none⟩ = false := hfr6 3; have hf6_4 : w13.frozen? ⟨go5, (x5_1 : Int).toNat * 6 + 4, none⟩ = false := hfr6 4; have hf6_5 : w13.frozen? ⟨go5, (x5_1 : Int).toNat * 6 + 5, none⟩ = false := hfr6 5; clear hcl6 hcc6 hfr6 hM6; replace p6 := eq_true p6; replace q6 := eq_true q6; have HX14 := Aside0.mk (show Kd.R k114 114 w13 w0.heap.size (fun k_ => (P0_ k_ ∨ w.heap.size ≤ k_)) (.slice (some ⟨go5, 0, none⟩) x0_1.length co11) y214 from (by (with_reducible repeat (first | apply Kd.R_alloc | apply Kd.R_drewN | apply Kd.R_drew)); exact HO_0.out)); obtain ⟨ce14, hcl14, hM14, hcc14, hfr14⟩ := Kd.R_elem HX14.out z114 (x5_1 : Int) (of_decide_eq_true (by first | (with_reducible assumption) | assumption)) (by have h_ : (x5_1 : Int) < ((x0_1.length : Int) : Int) := of_decide_eq_true (by first | (with_reducible assumption) | assumption); first | exact h_ | (have e_ := (Kd.R_reads' HO_0.out).1; omega) | simpa using h_); obtain rfl := k114_openM hM14; have HP14 := Kd.R_seg HX14.out (x5_1 : Int) (of_decide_eq_true (by first | (with_reducible assumption) | assumption)) (by have h_ : (x5_1 : Int) < ((x0_1.length : Int) : Int) := of_decide_eq_true (by first | (with_reducible assumption) | assumption); first | exact h_ | (have e_ := (Kd.R_reads' HO_0.out).1; omega) | simpa using h_) (seg := [.int .i64 (wrap64 (x1_1 + 1))]) (j := 1) hcl14 hcc14 (show 2 ≤ 6 from by decide) (x' := (⟨(rd_T114 y214 x5_1).f0, wrap64 (x1_1 + 1), (rd_T114 y214 x5_1).f2, (rd_T114 y214 x5_1).f3, (rd_T114 y214 x5_1).f4, (rd_T114 y214 x5_1).f5⟩ : S114)) (k114_mkM _ _ _ (⟨(rd_T114 y214 x5_1).f0, wrap64 (x1_1 + 1), (rd_T114 y214 x5_1).f2, (rd_T114 y214 x5_1).f3, (rd_T114 y214 x5_1).f4, (rd_T114 y214 x5_1).f5⟩ : S114) ) (fun _ hk => hk); have hx14_1 := hcc14 1 _ rfl; (try simp only [show (k114).sz = 6 from rfl, Nat.mul_one, Nat.add_zero] at hx14_1); have hf14_1 := hfr14 1; (try simp only [show (k114).sz = 6 from rfl, Nat.mul_one, Nat.add_zero] at hf14_1); clear hcl14 hcc14 hfr14 hM14) | ((with_reducible refine gate_store (t := 3) (p := 23) rfl ?_); refine store_event (t := 3) (p := 23) (v := ?vo_w15) (w1 := (w13.setCell ⟨go5, (x5_1 : Int).toNat * 6 + 1, none⟩ (.int .i64 (wrap64 (x1_1 + 1))))) ?hg ?ho ?hn ?hr ?_; (case ho => rfl); (case hg => rfl); (case hn => rfl); (case hr => first | (go_simp; done) | (go_simp; rfl)); intro w15 hw; have hg : w13.grownBy w15 (some go5) := (by rw [hw]; exact HP14.2); have hp_ : Kd.R k114 114 w15 w0.heap.size (fun k_ => (P0_ k_ ∨ w.heap.size ≤ k_)) (.slice (some ⟨go5, 0, none⟩) x0_1.length co11) y215 := (by rw [hw, Ny215.out]; exact HP14.1); clear HP14; have n0_ := Aside0.mk (hp_); have n1_ := Aside0.mk ((by rw [hw]; exact below_set (HB.out) GB5.out : Below w0.heap.size w0 w15)); have n2_ := Aside0.mk (Kept.of_grown (S := (fun k_ => P0_ k_)) hg (by repeat (first | (with_reducible first | exact HK.out | apply Kept.alloc | apply Kept.drewN | apply Kept.drew) | exact HK.out)) (fun k_ e_ => (HO_0.out.1 k_ e_))); clear HO_0; clear HB; clear HK; have HO_0 := n0_; have HB := n1_; have HK := n2_; clear n0_ n1_ n2_; clear hg hw hp_; have p7 : 0 ≤ (x5_1 : Int) := of_decide_eq_true (by first | (with_reducible assumption) | assumption); have q7 : (x5_1 : Int) < ((x0_1.length : Int) : Int) := of_decide_eq_true (by first | (with_reducible assumption) | assumption); obtain ⟨ce7, hcl7, hM7, hcc7, hfr7⟩ := Kd.R_elem HO_0.out z114 (x5_1 : Int) p7 q7; obtain rfl := k114_openM hM7; have hx7_0 : w15.cell? ⟨go5, (x5_1 : Int).toNat * 6, none⟩ = some (.int .i64 ((rd_T114 y215 x5_1).f0)) := hcc7 0 _ rfl; have hx7_1 : w15.cell? ⟨go5, (x5_1 : Int).toNat * 6 + 1, none⟩ = some (.int .i64 ((rd_T114 y215 x5_1).f1)) := hcc7 1 _ rfl; have hx7_2 : w15.cell? ⟨go5, (x5_1 : Int).toNat * 6 + 2, none⟩ = some (.int .i64 ((rd_T114 y215 x5_1).f2)) := hcc7 2 _ rfl; have hx7_3 : w15.cell? ⟨go5, (x5_1 : Int).toNat * 6 + 3, none⟩ = some (.int .i64 ((rd_T114 y215 x5_1).f3)) := hcc7 3 _ rfl; have hx7_4 : w15.cell? ⟨go5, (x5_1 : Int).toNat * 6 + 4, none⟩ = some (.int .i64 ((rd_T114 y215 x5_1).f4)) := hcc7 4 _ rfl; have hx7_5 : w15.cell? ⟨go5, (x5_1 : Int).toNat * 6 + 5, none⟩ = some (.int .i64 ((rd_T114 y215 x5_1).f5)) := hcc7 5 _ rfl; have hf7_0 : w15.frozen? ⟨go5, (x5_1 : Int).toNat * 6, none⟩ = false := hfr7 0; have hf7_1 : w15.frozen? ⟨go5, (x5_1 : Int).toNat * 6 + 1, none⟩ = false := hfr7 1; have hf7_2 : w15.frozen? ⟨go5, (x5_1 : Int).toNat * 6 + 2, none⟩ = false := hfr7 2; have hf7_3 : w15.frozen? ⟨go5, (x5_1 : Int).toNat * 6 + 3, none⟩ = false := hfr7 3; have hf7_4 : w15.frozen? ⟨go5, (x5_1 : Int).toNat * 6 + 4, none⟩ = false := hfr7 4; have hf7_5 : w15.frozen? ⟨go5, (x5_1 : Int).toNat * 6 + 5, none⟩ = false := hfr7 5; clear hcl7 hcc7 hfr7 hM7; replace p7 := eq_true p7; replace q7 := eq_true q7; have HX16 := Aside0.mk (show Kd.R k114 114 w15 w0.heap.size (fun k_ => (P0_ k_ ∨ w.heap.size ≤ k_)) (.slice (some ⟨go5, 0, none⟩) x0_1.length co11) y215 from (by (with_reducible repeat (first | apply Kd.R_alloc | apply Kd.R_drewN | apply Kd.R_drew)); exact HO_0.out)); obtain ⟨ce16, hcl16, hM16, hcc16, hfr16⟩ := Kd.R_elem HX16.out z114 (x5_1 : Int) (of_decide_eq_true (by first | (with_reducible assumption) | assumption)) (by have h_ : (x5_1 : Int) < ((x0_1.length : Int) : Int) := of_decide_eq_true (by first | (with_reducible assumption) | assumption); first | exact h_ | (have e_ := (Kd.R_reads' HO_0.out).1; omega) | simpa using h_); obtain rfl := k114_openM hM16; have HP16 := Kd.R_seg HX16.out (x5_1 : Int) (of_decide_eq_true (by first | (with_reducible assumption) | assumption)) (by have h_ : (x5_1 : Int) < ((x0_1.length : Int) : Int) := of_decide_eq_true (by first | (with_reducible assumption) | assumption); first | exact h_ | (have e_ := (Kd.R_reads' HO_0.out).1; omega) | simpa using h_) (seg := [.int .i64 (wrap64 ((wrap64 (x1_1 + 1)) + 1))]) (j := 2) hcl16 hcc16 (show 3 ≤ 6 from by decide) (x' := (⟨(rd_T114 y215 x5_1).f0, (rd_T114 y215 x5_1).f1, wrap64 ((wrap64 (x1_1 + 1)) + 1), (rd_T114 y215 x5_1).f3, (rd_T114 y215 x5_1).f4, (rd_T114 y215 x5_1).f5⟩ : S114)) (k114_mkM _ _ _ (⟨(rd_T114 y215 x5_1).f0, (rd_T114 y215 x5_1).f1, wrap64 ((wrap64 (x1_1 + 1)) + 1), (rd_T114 y215 x5_1).f3, (rd_T114 y215 x5_1).f4, (rd_T114 y215 x5_1).f5⟩ : S114) ) (fun _ hk => hk); have hx16_2 := hcc16 2 _ rfl; (try simp only [show (k114).sz = 6 from rfl, Nat.mul_one, Nat.add_zero] at hx16_2); have hf16_2 := hfr16 2; (try simp only [show (k114).sz = 6 from rfl, Nat.mul_one, Nat.add_zero] at hf16_2); clear hcl16 hcc16 hfr16 hM16) | ((with_reducible refine gate_store (t := 3) (p := 30) rfl ?_); refine store_event (t := 3) (p := 30) (v := ?vo_w17) (w1 := (w15.setCell ⟨go5, (x5_1 : Int).toNat * 6 + 2, none⟩ (.int .i64 (wrap64 ((wrap64 (x1_1 + 1)) + 1))))) ?hg ?ho ?hn ?hr ?_; (case ho => rfl); (case hg => rfl); (case hn => rfl); (case hr => first | (go_simp; done) | (go_simp; rfl)); intro w17 hw; have hg : w15.grownBy w17 (some go5) := (by rw [hw]; exact HP16.2); have hp_ : Kd.R k114 114 w17 w0.heap.size (fun k_ => (P0_ k_ ∨ w.heap.size ≤ k_)) (.slice (some ⟨go5, 0, none⟩) x0_1.length co11) y216 := (by rw [hw, Ny216.out]; exact HP16.1); clear HP16; have n0_ := Aside0.mk (hp_); have n1_ := Aside0.mk ((by rw [hw]; exact below_set (HB.out) GB5.out : Below w0.heap.size w0 w17)); have n2_ := Aside0.mk (Kept.of_grown (S := (fun k_ => P0_ k_)) hg (by repeat (first | (with_reducible first | exact HK.out | apply Kept.alloc | apply Kept.drewN | apply Kept.drew) | exact HK.out)) (fun k_ e_ => (HO_0.out.1 k_ e_))); clear HO_0; clear HB; clear HK; have HO_0 := n0_; have HB := n1_; have HK := n2_; clear n0_ n1_ n2_; clear hg hw hp_; have p8 : 0 ≤ (x5_1 : Int) := of_decide_eq_true (by first | (with_reducible assumption) | assumption); have q8 : (x5_1 : Int) < ((x0_1.length : Int) : Int) := of_decide_eq_true (by first | (with_reducible assumption) | assumption); obtain ⟨ce8, hcl8, hM8, hcc8, hfr8⟩ := Kd.R_elem HO_0.out z114 (x5_1 : Int) p8 q8; obtain rfl := k114_openM hM8; have hx8_0 : w17.cell? ⟨go5, (x5_1 : Int).toNat * 6, none⟩ = some (.int .i64 ((rd_T114 y216 x5_1).f0)) := hcc8 0 _ rfl; have hx8_1 : w17.cell? ⟨go5, (x5_1 : Int).toNat * 6 + 1, none⟩ = some (.int .i64 ((rd_T114 y216 x5_1).f1)) := hcc8 1 _ rfl; have hx8_2 : w17.cell? ⟨go5, (x5_1 : Int).toNat * 6 + 2, none⟩ = some (.int .i64 ((rd_T114 y216 x5_1).f2)) := hcc8 2 _ rfl; have hx8_3 : w17.cell? ⟨go5, (x5_1 : Int).toNat * 6 + 3, none⟩ = some (.int .i64 ((rd_T114 y216 x5_1).f3)) := hcc8 3 _ rfl; have hx8_4 : w17.cell? ⟨go5, (x5_1 : Int).toNat * 6 + 4, none⟩ = some (.int .i64 ((rd_T114 y216 x5_1).f4)) := hcc8 4 _ rfl; have hx8_5 : w17.cell? ⟨go5, (x5_1 : Int).toNat * 6 + 5, none⟩ = some (.int .i64 ((rd_T114 y216 x5_1).f5)) := hcc8 5 _ rfl; have hf8_0 : w17.frozen? ⟨go5, (x5_1 : Int).toNat * 6, none⟩ = false := hfr8 0; have hf8_1 : w17.frozen? ⟨go5, (x5_1 : Int).toNat * 6 + 1, none⟩ = false := hfr8 1; have hf8_2 : w17.frozen? ⟨go5, (x5_1 : Int).toNat * 6 + 2, none⟩ = false := hfr8 2; have hf8_3 : w17.frozen? ⟨go5, (x5_1 : Int).toNat * 6 + 3, none⟩ = false := hfr8 3; have hf8_4 : w17.frozen? ⟨go5, (x5_1 : Int).toNat * 6 + 4, none⟩ = false := hfr8 4; have hf8_5 : w17.frozen? ⟨go5, (x5_1 : Int).toNat * 6 + 5, none⟩ = false := hfr8 5; clear hcl8 hcc8 hfr8 hM8; replace p8 := eq_true p8; replace q8 := eq_true q8; have HX18 := Aside0.mk (show Kd.R k114 114 w17 w0.heap.size (fun k_ => (P0_ k_ ∨ w.heap.size ≤ k_)) (.slice (some ⟨go5, 0, none⟩) x0_1.length co11) y216 from (by (with_reducible repeat (first | apply Kd.R_alloc | apply Kd.R_drewN | apply Kd.R_drew)); exact HO_0.out)); obtain ⟨ce18, hcl18, hM18, hcc18, hfr18⟩ := Kd.R_elem HX18.out z114 (x5_1 : Int) (of_decide_eq_true (by first | (with_reducible assumption) | assumption)) (by have h_ : (x5_1 : Int) < ((x0_1.length : Int) : Int) := of_decide_eq_true (by first | (with_reducible assumption) | assumption); first | exact h_ | (have e_ := (Kd.R_reads' HO_0.out).1; omega) | simpa using h_); obtain rfl := k114_openM hM18; have HP18 := Kd.R_seg HX18.out (x5_1 : Int) (of_decide_eq_true (by first | (with_reducible assumption) | assumption)) (by have h_ : (x5_1 : Int) < ((x0_1.length : Int) : Int) := of_decide_eq_true (by first | (with_reducible assumption) | assumption); first | exact h_ | (have e_ := (Kd.R_reads' HO_0.out).1; omega) | simpa using h_) (seg := [.int .i64 (wrap64 ((wrap64 ((wrap64 (x1_1 + 1)) + 1)) + 1))]) (j := 3) hcl18 hcc18 (show 4 ≤ 6 from by decide) (x' := (⟨(rd_T114 y216 x5_1).f0, (rd_T114 y216 x5_1).f1, (rd_T114 y216 x5_1).f2, wrap64 ((wrap64 ((wrap64 (x1_1 + 1)) + 1)) + 1), (rd_T114 y216 x5_1).f4, (rd_T114 y216 x5_1).f5⟩ : S114)) (k114_mkM _ _ _ (⟨(rd_T114 y216 x5_1).f0, (rd_T114 y216 x5_1).f1, (rd_T114 y216 x5_1).f2, wrap64 ((wrap64 ((wrap64 (x1_1 + 1)) + 1)) + 1), (rd_T114 y216 x5_1).f4, (rd_T114 y216 x5_1).f5⟩ : S114) ) (fun _ hk => hk); have hx18_3 := hcc18 3 _ rfl; (try simp only [show (k114).sz = 6 from rfl, Nat.mul_one, Nat.add_zero] at hx18_3); have hf18_3 := hfr18 3; (try simp only [show (k114).sz = 6 from rfl, Nat.mul_one, Nat.add_zero] at hf18_3); clear hcl18 hcc18 hfr18 hM18) | ((with_reducible refine gate_store (t := 3) (p := 37) rfl ?_); refine store_event (t := 3) (p := 37) (v := ?vo_w19) (w1 := (w17.setCell ⟨go5, (x5_1 : Int).toNat * 6 + 3, none⟩ (.int .i64 (wrap64 ((wrap64 ((wrap64 (x1_1 + 1)) + 1)) + 1))))) ?hg ?ho ?hn ?hr ?_; (case ho => rfl); (case hg => rfl); (case hn => rfl); (case hr => first | (go_simp; done) | (go_simp; rfl)); intro w19 hw; have hg : w17.grownBy w19 (some go5) := (by rw [hw]; exact HP18.2); have hp_ : Kd.R k114 114 w19 w0.heap.size (fun k_ => (P0_ k_ ∨ w.heap.size ≤ k_)) (.slice (some ⟨go5, 0, none⟩) x0_1.length co11) y217 := (by rw [hw, Ny217.out]; exact HP18.1); clear HP18; have n0_ := Aside0.mk (hp_); have n1_ := Aside0.mk ((by rw [hw]; exact below_set (HB.out) GB5.out : Below w0.heap.size w0 w19)); have n2_ := Aside0.mk (Kept.of_grown (S := (fun k_ => P0_ k_)) hg (by repeat (first | (with_reducible first | exact HK.out | apply Kept.alloc | apply Kept.drewN | apply Kept.drew) | exact HK.out)) (fun k_ e_ => (HO_0.out.1 k_ e_))); clear HO_0; clear HB; clear HK; have HO_0 := n0_; have HB := n1_; have HK := n2_; clear n0_ n1_ n2_; clear hg hw hp_; have p9 : 0 ≤ (x5_1 : Int) := of_decide_eq_true (by first | (with_reducible assumption) | assumption); have q9 : (x5_1 : Int) < ((x0_1.length : Int) : Int) := of_decide_eq_true (by first | (with_reducible assumption) | assumption); obtain ⟨ce9, hcl9, hM9, hcc9, hfr9⟩ := Kd.R_elem HO_0.out z114 (x5_1 : Int) p9 q9; obtain rfl := k114_openM hM9; have hx9_0 : w19.cell? ⟨go5, (x5_1 : Int).toNat * 6, none⟩ = some (.int .i64 ((rd_T114 y217 x5_1).f0)) := hcc9 0 _ rfl; have hx9_1 : w19.cell? ⟨go5, (x5_1 : Int).toNat * 6 + 1, none⟩ = some (.int .i64 ((rd_T114 y217 x5_1).f1)) := hcc9 1 _ rfl; have hx9_2 : w19.cell? ⟨go5, (x5_1 : Int).toNat * 6 + 2, none⟩ = some (.int .i64 ((rd_T114 y217 x5_1).f2)) := hcc9 2 _ rfl; have hx9_3 : w19.cell? ⟨go5, (x5_1 : Int).toNat * 6 + 3, none⟩ = some (.int .i64 ((rd_T114 y217 x5_1).f3)) := hcc9 3 _ rfl; have hx9_4 : w19.cell? ⟨go5, (x5_1 : Int).toNat * 6 + 4, none⟩ = some (.int .i64 ((rd_T114 y217 x5_1).f4)) := hcc9 4 _ rfl; have hx9_5 : w19.cell? ⟨go5, (x5_1 : Int).toNat * 6 + 5, none⟩ = some (.int .i64 ((rd_T114 y217 x5_1).f5)) := hcc9 5 _ rfl; have hf9_0 : w19.frozen? ⟨go5, (x5_1 : Int).toNat * 6, none⟩ = false := hfr9 0; have hf9_1 : w19.frozen? ⟨go5, (x5_1 : Int).toNat * 6 + 1, none⟩ = false := hfr9 1; have hf9_2 : w19.frozen? ⟨go5, (x5_1 : Int).toNat * 6 + 2, none⟩ = false := hfr9 2; have hf9_3 : w19.frozen? ⟨go5, (x5_1 : Int).toNat * 6 + 3, none⟩ = false := hfr9 3; have hf9_4 : w19.frozen? ⟨go5, (x5_1 : Int).toNat * 6 + 4, none⟩ = false := hfr9 4; have hf9_5 : w19.frozen? ⟨go5, (x5_1 : Int).toNat * 6 + 5, none⟩ = false := hfr9 5; clear hcl9 hcc9 hfr9 hM9; replace p9 := eq_true p9; replace q9 := eq_true q9; have HX20 := Aside0.mk (show Kd.R k114 114 w19 w0.heap.size (fun k_ => (P0_ k_ ∨ w.heap.size ≤ k_)) (.slice (some ⟨go5, 0, none⟩) x0_1.length co11) y217 from (by (with_reducible repeat (first | apply Kd.R_alloc | apply Kd.R_drewN | apply Kd.R_drew)); exact HO_0.out)); obtain ⟨ce20, hcl20, hM20, hcc20, hfr20⟩ := Kd.R_elem HX20.out z114 (x5_1 : Int) (of_decide_eq_true (by first | (with_reducible assumption) | assumption)) (by have h_ : (x5_1 : Int) < ((x0_1.length : Int) : Int) := of_decide_eq_true (by first | (with_reducible assumption) | assumption); first | exact h_ | (have e_ := (Kd.R_reads' HO_0.out).1; omega) | simpa using h_); obtain rfl := k114_openM hM20; have HP20 := Kd.R_seg HX20.out (x5_1 : Int) (of_decide_eq_true (by first | (with_reducible assumption) | assumption)) (by have h_ : (x5_1 : Int) < ((x0_1.length : Int) : Int) := of_decide_eq_true (by first | (with_reducible assumption) | assumption); first | exact h_ | (have e_ := (Kd.R_reads' HO_0.out).1; omega) | simpa using h_) (seg := [.int .i64 (wrap64 ((wrap64 ((wrap64 ((wrap64 (x1_1 + 1)) + 1)) + 1)) + 1))]) (j := 4) hcl20 hcc20 (show 5 ≤ 6 from by decide) (x' := (⟨(rd_T114 y217 x5_1).f0, (rd_T114 y217 x5_1).f1, (rd_T114 y217 x5_1).f2, (rd_T114 y217 x5_1).f3, wrap64 ((wrap64 ((wrap64 ((wrap64 (x1_1 + 1)) + 1)) + 1)) + 1), (rd_T114 y217 x5_1).f5⟩ : S114)) (k114_mkM _ _ _ (⟨(rd_T114 y217 x5_1).f0, (rd_T114 y217 x5_1).f1, (rd_T114 y217 x5_1).f2, (rd_T114 y217 x5_1).f3, wrap64 ((wrap64 ((wrap64 ((wrap64 (x1_1 + 1)) + 1)) + 1)) + 1), (rd_T114 y217 x5_1).f5⟩ : S114) ) (fun _ hk => hk); have hx20_4 := hcc20 4 _ rfl; (try simp only [show (k114).sz = 6 from rfl, Nat.mul_one, Nat.add_zero] at hx20_4); have hf20_4 := hfr20 4; (try simp only [show (k114).sz = 6 from rfl, Nat.mul_one, Nat.add_zero] at hf20_4); clear hcl20 hcc20 hfr20 hM20) | ((with_reducible refine gate_store (t := 3) (p := 44) rfl ?_); refine store_event (t := 3) (p := 44) (v := ?vo_w21) (w1 := (w19.setCell ⟨go5, (x5_1 : Int).toNat * 6 + 4, none⟩ (.int .i64 (wrap64 ((wrap64 ((wrap64 ((wrap64 (x1_1 + 1)) + 1)) + 1)) + 1))))) ?hg ?ho ?hn ?hr ?_; (case ho => rfl); (case hg => rfl); (case hn => rfl); (case hr => first | (go_simp; done) | (go_simp; rfl)); intro w21 hw; have hg : w19.grownBy w21 (some go5) := (by rw [hw]; exact HP20.2); have hp_ : Kd.R k114 114 w21 w0.heap.size (fun k_ => (P0_ k_ ∨ w.heap.size ≤ k_)) (.slice (some ⟨go5, 0, none⟩) x0_1.length co11) y218 := (by rw [hw, Ny218.out]; exact HP20.1); clear HP20; have n0_ := Aside0.mk (hp_); have n1_ := Aside0.mk ((by rw [hw]; exact below_set (HB.out) GB5.out : Below w0.heap.size w0 w21)); have n2_ := Aside0.mk (Kept.of_grown (S := (fun k_ => P0_ k_)) hg (by repeat (first | (with_reducible first | exact HK.out | apply Kept.alloc | apply Kept.drewN | apply Kept.drew) | exact HK.out)) (fun k_ e_ => (HO_0.out.1 k_ e_))); clear HO_0; clear HB; clear HK; have HO_0 := n0_; have HB := n1_; have HK := n2_; clear n0_ n1_ n2_; clear hg hw hp_; have p10 : 0 ≤ (x5_1 : Int) := of_decide_eq_true (by first | (with_reducible assumption) | assumption); have q10 : (x5_1 : Int) < ((x0_1.length : Int) : Int) := of_decide_eq_true (by first | (with_reducible assumption) | assumption); obtain ⟨ce10, hcl10, hM10, hcc10, hfr10⟩ := Kd.R_elem HO_0.out z114 (x5_1 : Int) p10 q10; obtain rfl := k114_openM hM10; have hx10_0 : w21.cell? ⟨go5, (x5_1 : Int).toNat * 6, none⟩ = some (.int .i64 ((rd_T114 y218 x5_1).f0)) := hcc10 0 _ rfl; have hx10_1 : w21.cell? ⟨go5, (x5_1 : Int).toNat * 6 + 1, none⟩ = some (.int .i64 ((rd_T114 y218 x5_1).f1)) := hcc10 1 _ rfl; have hx10_2 : w21.cell? ⟨go5, (x5_1 : Int).toNat * 6 + 2, none⟩ = some (.int .i64 ((rd_T114 y218 x5_1).f2)) := hcc10 2 _ rfl; have hx10_3 : w21.cell? ⟨go5, (x5_1 : Int).toNat * 6 + 3, none⟩ = some (.int .i64 ((rd_T114 y218 x5_1).f3)) := hcc10 3 _ rfl; have hx10_4 : w21.cell? ⟨go5, (x5_1 : Int).toNat * 6 + 4, none⟩ = some (.int .i64 ((rd_T114 y218 x5_1).f4)) := hcc10 4 _ rfl; have hx10_5 : w21.cell? ⟨go5, (x5_1 : Int).toNat * 6 + 5, none⟩ = some (.int .i64 ((rd_T114 y218 x5_1).f5)) := hcc10 5 _ rfl; have hf10_0 : w21.frozen? ⟨go5, (x5_1 : Int).toNat * 6, none⟩ = false := hfr10 0; have hf10_1 : w21.frozen? ⟨go5, (x5_1 : Int).toNat * 6 + 1, none⟩ = false := hfr10 1; have hf10_2 : w21.frozen? ⟨go5, (x5_1 : Int).toNat * 6 + 2, none⟩ = false := hfr10 2; have hf10_3 : w21.frozen? ⟨go5, (x5_1 : Int).toNat * 6 + 3, none⟩ = false := hfr10 3; have hf10_4 : w21.frozen? ⟨go5, (x5_1 : Int).toNat * 6 + 4, none⟩ = false := hfr10 4; have hf10_5 : w21.frozen? ⟨go5, (x5_1 : Int).toNat * 6 + 5, none⟩ = false := hfr10 5; clear hcl10 hcc10 hfr10 hM10; replace p10 := eq_true p10; replace q10 := eq_true q10; have HX22 := Aside0.mk (show Kd.R k114 114 w21 w0.heap.size (fun k_ => (P0_ k_ ∨ w.heap.size ≤ k_)) (.slice (some ⟨go5, 0, none⟩) x0_1.length co11) y218 from (by (with_reducible repeat (first | apply Kd.R_alloc | apply Kd.R_drewN | apply Kd.R_drew)); exact HO_0.out)); obtain ⟨ce22, hcl22, hM22, hcc22, hfr22⟩ := Kd.R_elem HX22.out z114 (x5_1 : Int) (of_decide_eq_true (by first | (with_reducible assumption) | assumption)) (by have h_ : (x5_1 : Int) < ((x0_1.length : Int) : Int) := of_decide_eq_true (by first | (with_reducible assumption) | assumption); first | exact h_ | (have e_ := (Kd.R_reads' HO_0.out).1; omega) | simpa using h_); obtain rfl := k114_openM hM22; have HP22 := Kd.R_seg HX22.out (x5_1 : Int) (of_decide_eq_true (by first | (with_reducible assumption) | assumption)) (by have h_ : (x5_1 : Int) < ((x0_1.length : Int) : Int) := of_decide_eq_true (by first | (with_reducible assumption) | assumption); first | exact h_ | (have e_ := (Kd.R_reads' HO_0.out).1; omega) | simpa using h_) (seg := [.int .i64 (wrap64 ((wrap64 ((wrap64 ((wrap64 ((wrap64 (x1_1 + 1)) + 1)) + 1)) + 1)) + 1))]) (j := 5) hcl22 hcc22 (show 6 ≤ 6 from by decide) (x' := (⟨(rd_T114 y218 x5_1).f0, (rd_T114 y218 x5_1).f1, (rd_T114 y218 x5_1).f2, (rd_T114 y218 x5_1).f3, (rd_T114 y218 x5_1).f4, wrap64 ((wrap64 ((wrap64 ((wrap64 ((wrap64 (x1_1 + 1)) + 1)) + 1)) + 1)) + 1)⟩ : S114)) (k114_mkM _ _ _ (⟨(rd_T114 y218 x5_1).f0, (rd_T114 y218 x5_1).f1, (rd_T114 y218 x5_1).f2, (rd_T114 y218 x5_1).f3, (rd_T114 y218 x5_1).f4, wrap64 ((wrap64 ((wrap64 ((wrap64 ((wrap64 (x1_1 + 1)) + 1)) + 1)) + 1)) + 1)⟩ : S114) ) (fun _ hk => hk); have hx22_5 := hcc22 5 _ rfl; (try simp only [show (k114).sz = 6 from rfl, Nat.mul_one, Nat.add_zero] at hx22_5); have hf22_5 := hfr22 5; (try simp only [show (k114).sz = 6 from rfl, Nat.mul_one, Nat.add_zero] at hf22_5); clear hcl22 hcc22 hfr22 hM22) | ((with_reducible refine gate_store (t := 3) (p := 51) rfl ?_); refine store_event (t := 3) (p := 51) (v := ?vo_w23) (w1 := (w21.setCell ⟨go5, (x5_1 : Int).toNat * 6 + 5, none⟩ (.int .i64 (wrap64 ((wrap64 ((wrap64 ((wrap64 ((wrap64 (x1_1 + 1)) + 1)) + 1)) + 1)) + 1))))) ?hg ?ho ?hn ?hr ?_; (case ho => rfl); (case hg => rfl); (case hn => rfl); (case hr => first | (go_simp; done) | (go_simp; rfl)); intro w23 hw; have hg : w21.grownBy w23 (some go5) := (by rw [hw]; exact HP22.2); have hp_ : Kd.R k114 114 w23 w0.heap.size (fun k_ => (P0_ k_ ∨ w.heap.size ≤ k_)) (.slice (some ⟨go5, 0, none⟩) x0_1.length co11) y219 := (by rw [hw, Ny219.out]; exact HP22.1); clear HP22; have n0_ := Aside0.mk (hp_); have n1_ := Aside0.mk ((by rw [hw]; exact below_set (HB.out) GB5.out : Below w0.heap.size w0 w23)); have n2_ := Aside0.mk (Kept.of_grown (S := (fun k_ => P0_ k_)) hg (by repeat (first | (with_reducible first | exact HK.out | apply Kept.alloc | apply Kept.drewN | apply Kept.drew) | exact HK.out)) (fun k_ e_ => (HO_0.out.1 k_ e_))); clear HO_0; clear HB; clear HK; have HO_0 := n0_; have HB := n1_; have HK := n2_; clear n0_ n1_ n2_; clear hg hw hp_))
          go_roundg k1
          case measure => have := HK1.out; omega
          case rel => exact ⟨(y219), (wrap64 ((wrap64 ((wrap64 ((wrap64 ((wrap64 ((wrap64 (x1_1 + 1)) + 1)) + 1)) + 1)) + 1)) + 1)), (wrap64 (x5_1 + 1)), (by first | rfl | (simp; done) | (simp [*]; done)), (by first | rfl | (simp; done) | (simp [*]; done)), H', ⟨by have := HK1.out; omega⟩, ⟨by (with_reducible repeat (first | apply Kd.R_alloc | apply Kd.R_drewN | apply Kd.R_drew)); exact HO_0.out⟩, ⟨by repeat (first | (with_reducible first | exact HK.out | apply Kept.alloc | apply Kept.drewN | apply Kept.drew) | exact HK.out)⟩, ⟨by repeat (first | (with_reducible first | exact HB.out | apply below_alloc | apply pw_below_drewN | apply below_drew1) | exact HB.out)⟩⟩
        · rw [if_neg c4] at H
          exact absurd H (by simp)
      · rw [if_neg c3] at H
        have c3b0 : decide (x5_1 < (x0_1.length : Int)) = false := decide_eq_false c3
        clear c3
        simp only [Option.some.injEq, Prod.mk.injEq] at H
        obtain ⟨rfl, rfl⟩ := H
        obtain ⟨Ao24, co24, eo24⟩ := Kd.R_slice HO_0.out
        subst eo24
        go_wp2
        go_ret
        exact ⟨by first | rfl | (simp [errW_none, errW_some] <;> rfl) | (simp [*, errW_none, errW_some] <;> rfl), by (with_reducible repeat (first | apply Kd.R_alloc | apply Kd.R_drewN | apply Kd.R_drew)); exact HO_0.out, by repeat (first | (with_reducible first | exact HB.out | apply below_alloc | apply pw_below_drewN | apply below_drew1) | exact HB.out), by repeat (first | (with_reducible first | exact HK.out | apply Kept.alloc | apply Kept.drewN | apply Kept.drew) | exact HK.out)⟩

/-! ### laws_markByteS: function 108 -/
def laws_markByteS.l0 : Nat → List Int → Int → Int → Option (Int × List Int)
  | 0, _, _, _ => none
  | k + 1, x0, x1, x5 => if x5 < (x0.length : Int) then (if 0 ≤ x5 then (laws_markByteS.l0 k (x0.set (x5 : Int).toNat ((x1) % 256)) (wrap64 (x1 + 1)) (wrap64 (x5 + 1))) else (none)) else (some (x1, x0))
def laws_markByteS.f (k : Nat) (l0 : List Int) (a1 : Int) : Option (Int × List Int) := laws_markByteS.l0 k l0 a1 0
theorem laws_markByteS.mono_l : ∀ k, (∀ y0 y1 y2, LeO (laws_markByteS.l0 k y0 y1 y2) (laws_markByteS.l0 (k + 1) y0 y1 y2))
  | 0 => fun _ _ _ r h => by simp [laws_markByteS.l0] at h
  | k + 1 => by
    have ih0 := laws_markByteS.mono_l k
    · intro y0 y1 y2
      unfold laws_markByteS.l0
      repeat' first
      | (with_reducible exact ih0 _ _ _)
      | (with_reducible exact LeO.refl _)
      | (with_reducible exact LeO.none _)
      | (with_reducible refine LeO.ite ?_ ?_)
      | (with_reducible refine LeO.bind ?_ (fun _ => ?_))
      | exact ih0 _ _ _
      | exact LeO.none _
      | refine LeO.ite ?_ ?_
      | refine LeO.bind ?_ (fun _ => ?_)
theorem laws_markByteS.mono : ∀ a0 a1 k, LeO (laws_markByteS.f k a0 a1) (laws_markByteS.f (k + 1) a0 a1) := by
  intro a0 a1 k
  have ih0 := laws_markByteS.mono_l k
  unfold laws_markByteS.f
  repeat' first
      | (with_reducible exact ih0 _ _ _)
      | (with_reducible exact LeO.refl _)
      | (with_reducible exact LeO.none _)
      | (with_reducible refine LeO.ite ?_ ?_)
      | (with_reducible refine LeO.bind ?_ (fun _ => ?_))
      | exact ih0 _ _ _
      | exact LeO.none _
      | refine LeO.ite ?_ ?_
      | refine LeO.bind ?_ (fun _ => ?_)
set_option maxHeartbeats 8000000 in
set_option maxRecDepth 100000 in
theorem laws_markByteS.calls (k : Nat) (P0_ : Nat → Prop) (u9000_ : Value) (l0 : List Int) (a1 : Int) (r1 : Int) (r2 : List Int) (w0 w : World) (hB : Below w0.heap.size w0 w) (ho0 : Kd.R (Kd.int .u8) 5 w w0.heap.size P0_ u9000_ l0) (h : laws_markByteS.f k l0 a1 = some (r1, r2)) :
    Calls Try.prog 108 #[u9000_, .int .i64 a1] w fun e w' => e = .returned (.int .i64 r1) ∧ Kd.R (Kd.int .u8) 5 w' w0.heap.size (fun k_ => (P0_ k_ ∨ w.heap.size ≤ k_)) u9000_ r2 ∧ Below w0.heap.size w0 w' ∧ Kept w w' (fun k_ => P0_ k_) := by
  have HO0 := Aside0.mk (show Kd.R (Kd.int .u8) 5 w w0.heap.size (fun k_ => (P0_ k_ ∨ w.heap.size ≤ k_)) u9000_ l0 from Kd.R_mono ho0 (fun k_ hk => (.inl hk)))
  have HK := Aside0.mk (Kept.refl w (fun k_ => P0_ k_))
  have HW0 := Aside0.mk hB.size
  have HB := Aside0.mk hB
  clear hB
  have H : (laws_markByteS.l0 k l0 a1 0) = some (r1, r2) := h
  clear h
  have H' := Aside0.mk H
  clear H
  go_enter Try.func108, Try.ntmps108
  go_wp2
  go_loopg [1, 5] k (fun kq v1 v5 w' => ∃ (x0_1 : List Int) (x1_1 : Int) (x5_1 : Int), v1 = .int .i64 x1_1 ∧ v5 = .int .i64 x5_1 ∧ Aside0 (laws_markByteS.l0 kq x0_1 x1_1 x5_1 = some (r1, r2)) ∧ Aside0 (kq ≤ k) ∧ Aside0 (Kd.R (Kd.int .u8) 5 w' w0.heap.size (fun k_ => (P0_ k_ ∨ w.heap.size ≤ k_)) u9000_ x0_1) ∧ Aside0 (Kept w w' (fun k_ => P0_ k_)) ∧ Aside0 (Below w0.heap.size w0 w'))
  case atStart => exact ⟨(l0), (a1), (0), (by first | rfl | (simp; done) | (simp [*]; done)), (by first | rfl | (simp; done) | (simp [*]; done)), H', ⟨Nat.le_refl _⟩, ⟨by (with_reducible repeat (first | apply Kd.R_alloc | apply Kd.R_drewN | apply Kd.R_drew)); exact HO0.out⟩, ⟨by repeat (first | (with_reducible first | exact HK.out | apply Kept.alloc | apply Kept.drewN | apply Kept.drew) | exact HK.out)⟩, ⟨by repeat (first | (with_reducible first | exact HB.out | apply below_alloc | apply pw_below_drewN | apply below_drew1) | exact HB.out)⟩⟩
  case round =>
    clear H'
    try clear c1
    try clear p2
    obtain ⟨x0_1, x1_1, x5_1, rfl, rfl, HA, HK1, HO_0, HK, HB⟩ := hrel
    cases gk with
    | zero => exact absurd HA.out (by simp [laws_markByteS.l0])
    | succ k1 =>
      have H := HA.out
      clear HA
      simp only [laws_markByteS.l0] at H
      by_cases c3 : x5_1 < (x0_1.length : Int)
      · rw [if_pos c3] at H
        have c3b0 : decide (x5_1 < (x0_1.length : Int)) = true := decide_eq_true c3
        clear c3
        by_cases c4 : 0 ≤ x5_1
        · rw [if_pos c4] at H
          have c4b0 : decide (0 ≤ x5_1) = true := decide_eq_true c4
          clear c4
          obtain ⟨y220, hy220⟩ : ∃ y_ : List Int, y_ = (x0_1.set (x5_1 : Int).toNat ((x1_1) % 256)) := ⟨_, rfl⟩
          replace H : (laws_markByteS.l0 k1 y220 (wrap64 (x1_1 + 1)) (wrap64 (x5_1 + 1))) = some (r1, r2) := by first | (rw [hy220]; with_reducible exact H) | (have H2_ := (Option.bind_some _ _).symm.trans H; rw [hy220]; with_reducible exact H2_) | (have H2_ := (Option.bind_some _ _).symm.trans H; with_reducible exact H2_) | with_reducible exact H | (rw [hy220]; exact H) | exact H
          have Ny220 := Aside0.mk hy220
          clear hy220
          have H' := Aside0.mk H
          clear H
          obtain ⟨Ao6, co6, eo6⟩ := Kd.R_slice HO_0.out
          subst eo6
          have p5 : 0 ≤ (x5_1 : Int) := of_decide_eq_true (by first | (with_reducible assumption) | assumption)
          have q5 : (x5_1 : Int) < ((x0_1.length : Int) : Int) := of_decide_eq_true (by first | (with_reducible assumption) | assumption)
          obtain ⟨go5, co5, eo5, gb5, gl5, cl5, HG5⟩ := Kd.R_form HO_0.out (by omega)
          (first | cases eo5 | (injection eo5 with ea_ en_ ec_; (first | subst ea_ | (injection ea_ with ea_; subst ea_)); subst ec_; clear en_))
          have GB5 := Aside0.mk gb5
          have GG5 := Aside0.mk HG5
          clear gb5 gl5 HG5
          have HMgo5 := Aside0.mk (show (P0_ go5 ∨ w.heap.size ≤ go5) from (HO_0.out.1 _ rfl))
          obtain ⟨hx5_0, hf5_0⟩ := Kd.R_celln 0 HO_0.out (x5_1 : Int) p5 q5
          replace p5 := eq_true p5
          replace q5 := eq_true q5
          have HP7 := Kd.R_putg HO_0.out (x5_1 : Int) ((x1_1) % 256)
          go_wp2_with (first | ((with_reducible refine gate_store (t := 5) (p := 16) rfl ?_); refine store_event (t := 5) (p := 16) (v := ?vo_w8) (w1 := (wr.setCell ⟨go5, (x5_1 : Int).toNat, none⟩ (.int .u8 ((x1_1) % 256)))) ?hg ?ho ?hn ?hr ?_; (case ho => rfl); (case hg => rfl); (case hn => rfl); (case hr => first | (go_simp; done) | (go_simp; rfl)); intro w8 hw; have hg : wr.grownBy w8 (some go5) := (by rw [hw]; exact HP7.2); have hp_ : Kd.R (Kd.int .u8) 5 w8 w0.heap.size (fun k_ => (P0_ k_ ∨ w.heap.size ≤ k_)) (.slice (some ⟨go5, 0, none⟩) x0_1.length co6) y220 := (by rw [hw, Ny220.out]; exact HP7.1); clear HP7; have n0_ := Aside0.mk (hp_); have n1_ := Aside0.mk ((by rw [hw]; exact below_set (HB.out) GB5.out : Below w0.heap.size w0 w8)); have n2_ := Aside0.mk (Kept.of_grown (S := (fun k_ => P0_ k_)) hg (by repeat (first | (with_reducible first | exact HK.out | apply Kept.alloc | apply Kept.drewN | apply Kept.drew) | exact HK.out)) (fun k_ e_ => (HO_0.out.1 k_ e_))); clear HO_0; clear HB; clear HK; have HO_0 := n0_; have HB := n1_; have HK := n2_; clear n0_ n1_ n2_; clear hg hw hp_))
          go_roundg k1
          case measure => have := HK1.out; omega
          case rel => exact ⟨(y220), (wrap64 (x1_1 + 1)), (wrap64 (x5_1 + 1)), (by first | rfl | (simp; done) | (simp [*]; done)), (by first | rfl | (simp; done) | (simp [*]; done)), H', ⟨by have := HK1.out; omega⟩, ⟨by (with_reducible repeat (first | apply Kd.R_alloc | apply Kd.R_drewN | apply Kd.R_drew)); exact HO_0.out⟩, ⟨by repeat (first | (with_reducible first | exact HK.out | apply Kept.alloc | apply Kept.drewN | apply Kept.drew) | exact HK.out)⟩, ⟨by repeat (first | (with_reducible first | exact HB.out | apply below_alloc | apply pw_below_drewN | apply below_drew1) | exact HB.out)⟩⟩
        · rw [if_neg c4] at H
          exact absurd H (by simp)
      · rw [if_neg c3] at H
        have c3b0 : decide (x5_1 < (x0_1.length : Int)) = false := decide_eq_false c3
        clear c3
        simp only [Option.some.injEq, Prod.mk.injEq] at H
        obtain ⟨rfl, rfl⟩ := H
        obtain ⟨Ao9, co9, eo9⟩ := Kd.R_slice HO_0.out
        subst eo9
        go_wp2
        go_ret
        exact ⟨by first | rfl | (simp [errW_none, errW_some] <;> rfl) | (simp [*, errW_none, errW_some] <;> rfl), by (with_reducible repeat (first | apply Kd.R_alloc | apply Kd.R_drewN | apply Kd.R_drew)); exact HO_0.out, by repeat (first | (with_reducible first | exact HB.out | apply below_alloc | apply pw_below_drewN | apply below_drew1) | exact HB.out), by repeat (first | (with_reducible first | exact HK.out | apply Kept.alloc | apply Kept.drewN | apply Kept.drew) | exact HK.out)⟩


/-! ### one element of a row of one's own, lent and written -/
theorem nk_elem {α : Type} {d : Kd α} {e : Nat} {W : World} {base : Nat} {ok : Nat → Prop} {A : Option Addr} {n cap : Nat} {pre rest : List α} {x : α} {i : Int} (h : Kd.S d e W base ok (.slice A n cap) (pre ++ x :: rest)) (hi : pre.length = i.toNat) (h0 : 0 ≤ i) (z : α) :
    ∃ g, A = some ⟨g, 0, none⟩ ∧ base ≤ g ∧ ok g ∧ i < n ∧ ∃ (oki : Nat → Prop) (c : List Value), d.M W base oki x c ∧ (∀ k, oki k → ok k ∧ k ≠ g) ∧ Kd.H d e W base ok (.slice (some ⟨g, 0, none⟩) n cap) (pre ++ x :: rest) i oki c := by
  obtain ⟨g, cap', hv, hb, _, _⟩ := Kd.S_form h (by simp only [List.length_append, List.length_cons]; omega)
  injection hv with hA hn hc
  subst hA hn hc
  have hok : ok g := by
    obtain ⟨f, h1, _⟩ := h
    exact h1 g (by simp [Value.ownBlock])
  have hlt : i < ((pre ++ x :: rest).length : Int) := by simp only [List.length_append, List.length_cons]; omega
  obtain ⟨oki, c, _, hM, _, hoki, hH⟩ := Kd.S_lend h z i h0 hlt
  refine ⟨g, rfl, hb, hok, hlt, oki, c, ?_, hoki, hH⟩
  rw [show (pre ++ x :: rest).getD i.toNat z = x by rw [← hi]; simp [List.getD]] at hM
  exact hM
theorem nk_set {α : Type} {d : Kd α} {e : Nat} {W : World} {base : Nat} {ok oki : Nat → Prop} {g n cap : Nat} {xs : List α} {i : Int} {c c' : List Value} (h : Kd.H d e W base ok (.slice (some ⟨g, 0, none⟩) n cap) xs i oki c) (h0 : 0 ≤ i) (h1 : i < n) (j : Nat) (u : Value) (hu : u.oneCell' = true) (hj : j + 1 ≤ d.sz) (hc : c.take j ++ [u] ++ c.drop (j + 1) = c') (p : Nat) (hp : p = i.toNat * d.sz + j) :
    Kd.H d e (W.setCell ⟨g, p, none⟩ u) base ok (.slice (some ⟨g, 0, none⟩) n cap) xs i oki c' := by
  subst hp hc
  exact (Kd.H_seg h h0 h1 (seg := [u]) hj (fun q hq => by rw [List.mem_singleton.1 hq]; exact hu)).1
theorem nk_back {α : Type} {d : Kd α} {e : Nat} {W : World} {base : Nat} {ok oki : Nat → Prop} {v : Value} {pre rest : List α} {x x' : α} {i : Int} {c : List Value} (h : Kd.H d e W base ok v (pre ++ x :: rest) i oki c) (hi : pre.length = i.toNat) (hM : d.M W base oki x' c) :
    Kd.S d e W base ok v ((pre ++ [x']) ++ rest) := by
  have h2 := Kd.H_back h hM (fun _ hk => hk)
  rw [show (pre ++ x :: rest).set i.toNat x' = (pre ++ [x']) ++ rest by rw [← hi]; simp] at h2
  exact h2
/-! ### laws_markBoxS: function 129 (by a program of this session: rows inside elements) -/
def laws_markBoxS.go (k : Nat) : List S161 → Int → Option (Int × List S161)
  | [], v => some (v, [])
  | x :: l, v => (laws_markByteS.f k x.f2 (wrap64 ((wrap64 (v + 1)) + 1))).bind fun p => (laws_markBoxS.go k l (wrap64 (p.1 + 1))).bind fun q => some (q.1, (⟨v, wrap64 (v + 1), p.2, p.1⟩ : S161) :: q.2)
def laws_markBoxS.f (k : Nat) (l0 : List S161) (a1 : Int) : Option (Int × List S161) := if l0.length ≤ 9223372036854775806 then laws_markBoxS.go k l0 a1 else none
theorem laws_markBoxS.go_mono (k : Nat) : ∀ (l : List S161) (v : Int), LeO (laws_markBoxS.go k l v) (laws_markBoxS.go (k + 1) l v)
  | [], _ => LeO.refl _
  | x :: l, v => by
    unfold laws_markBoxS.go
    exact LeO.bind (laws_markByteS.mono _ _ _) (fun p => LeO.bind (laws_markBoxS.go_mono k l _) (fun _ => LeO.refl _))
theorem laws_markBoxS.mono : ∀ a0 a1 k, LeO (laws_markBoxS.f k a0 a1) (laws_markBoxS.f (k + 1) a0 a1) := by
  intro a0 a1 k
  unfold laws_markBoxS.f
  exact LeO.ite (laws_markBoxS.go_mono k _ _) (LeO.refl _)
set_option maxHeartbeats 8000000 in
set_option maxRecDepth 100000 in
theorem laws_markBoxS.calls (k : Nat) (P0_ : Nat → Prop) (u9000_ : Value) (l0 : List (S161)) (a1 : Int) (r1 : Int) (r2 : List (S161)) (w0 w : World) (hB : Below w0.heap.size w0 w) (ho0 : Kd.S k161 161 w w0.heap.size P0_ u9000_ l0) (h : laws_markBoxS.f k l0 a1 = some (r1, r2)) :
    Calls Try.prog 129 #[u9000_, .int .i64 a1] w fun e w' => e = .returned (.int .i64 r1) ∧ Kd.S k161 161 w' w0.heap.size (fun k_ => P0_ k_) u9000_ r2 ∧ Below w0.heap.size w0 w' ∧ Kept w w' (fun k_ => P0_ k_) := by
  have HO0 := Aside0.mk ho0
  have HK := Aside0.mk (Kept.refl w (fun k_ => P0_ k_))
  have HB := Aside0.mk hB
  clear hB ho0
  obtain ⟨hl, H⟩ : l0.length ≤ 9223372036854775806 ∧ laws_markBoxS.go k l0 a1 = some (r1, r2) := by
    unfold laws_markBoxS.f at h
    split at h
    · exact ⟨by assumption, h⟩
    · cases h
  clear h
  have HL := Aside0.mk hl
  have HA := Aside0.mk (show ∃ post, laws_markBoxS.go k (l0.drop (0 : Int).toNat) a1 = some (r1, post) ∧ r2 = [] ++ post from ⟨r2, H, rfl⟩)
  clear hl H
  obtain ⟨A0, c0, eu⟩ := Kd.S_slice HO0.out
  subst eu
  go_enter Try.func129, Try.ntmps129
  go_wp2
  go_loopg [1, 5] (l0.length + 1) (fun kq v1 v5 w' => ∃ (pre : List S161) (xv xi : Int), v1 = .int .i64 xv ∧ v5 = .int .i64 xi ∧ Aside0 ((kq : Int) + xi = (l0.length : Int) + 1 ∧ xi ≤ (l0.length : Int) ∧ 0 ≤ xi ∧ pre.length = xi.toNat) ∧ Aside0 (∃ post, laws_markBoxS.go k (l0.drop xi.toNat) xv = some (r1, post) ∧ r2 = pre ++ post) ∧ Aside0 (Kd.S k161 161 w' w0.heap.size P0_ (.slice A0 l0.length c0) (pre ++ l0.drop xi.toNat)) ∧ Aside0 (Kept w w' (fun k_ => P0_ k_)) ∧ Aside0 (Below w0.heap.size w0 w'))
  case atStart => exact ⟨[], a1, 0, rfl, rfl, ⟨by omega, by omega, by omega, rfl⟩, HA, ⟨by (with_reducible repeat (first | apply Kd.S_alloc | apply Kd.S_drewN | apply Kd.S_drew)); exact HO0.out⟩, ⟨by repeat (first | (with_reducible first | exact HK.out | apply Kept.alloc | apply Kept.drewN | apply Kept.drew) | exact HK.out)⟩, ⟨by repeat (first | (with_reducible first | exact HB.out | apply below_alloc | apply pw_below_drewN | apply below_drew1) | exact HB.out)⟩⟩
  case round =>
    clear HA HO0 HK HB
    obtain ⟨pre, xv, xi, rfl, rfl, HN, HA, HO, HK, HB⟩ := hrel
    have hi0 := HN.out.2.2.1
    by_cases hi : xi < (l0.length : Int)
    · cases gk with
      | zero => exact absurd HN.out.1 (by simp; omega)
      | succ k1 =>
        have hdec : decide (xi < (l0.length : Int)) = true := decide_eq_true hi
        have hil : xi.toNat < l0.length := by omega
        obtain ⟨x, hx⟩ : ∃ x, l0.drop xi.toNat = x :: l0.drop (xi.toNat + 1) := ⟨_, List.drop_eq_getElem_cons hil⟩
        have HO1 := HO.out
        rw [hx] at HO1
        obtain ⟨post, H, hr⟩ := HA.out
        rw [hx] at H
        unfold laws_markBoxS.go at H
        obtain ⟨⟨m_, rl_⟩, C1, H⟩ := Option.bind_eq_some_iff.mp H
        obtain ⟨⟨rq_, post2⟩, C2, H⟩ := Option.bind_eq_some_iff.mp H
        obtain ⟨rfl, rfl⟩ := Prod.mk.inj (Option.some.inj H)
        have HC := Aside0.mk C1
        have HD := Aside0.mk C2
        have HE := Aside0.mk hr
        clear C1 C2 H HA HO hr
        obtain ⟨go_, eA, hgb, hgo, hin, oki, ce_, hM, hoki, hH⟩ := nk_elem HO1 HN.out.2.2.2 hi0 z161
        subst eA
        obtain ⟨vr_, rfl, hr_⟩ := k161_openM hM
        obtain ⟨Ar, cr, rfl⟩ := Kd.R_slice hr_
        have HH := Aside0.mk hH
        have HR := Aside0.mk hr_
        have HKI := Aside0.mk hoki
        have HGB := Aside0.mk hgb
        have HGO := Aside0.mk hgo
        have HP := Aside0.mk (show 0 ≤ xi ∧ xi < ((l0.length : Nat) : Int) from ⟨hi0, hi⟩)
        have HXD := Aside0.mk hx
        clear HO1 hM hH hr_ hoki hgb hgo hin hx
        have hz_ := Kd.H_at HH.out HP.out.1 HP.out.2
        have hx0 : wr.cell? ⟨go_, xi.toNat * 4, none⟩ = some (.int .i64 x.f0) := hz_.1 0 _ rfl
        have hf0 : wr.frozen? ⟨go_, xi.toNat * 4, none⟩ = false := hz_.2 0
        have hx1 : wr.cell? ⟨go_, xi.toNat * 4 + 1, none⟩ = some (.int .i64 x.f1) := hz_.1 1 _ rfl
        have hf1 : wr.frozen? ⟨go_, xi.toNat * 4 + 1, none⟩ = false := hz_.2 1
        have hx2 : wr.cell? ⟨go_, xi.toNat * 4 + 2, none⟩ = some (.slice Ar x.f2.length cr) := hz_.1 2 _ rfl
        have hf2 : wr.frozen? ⟨go_, xi.toNat * 4 + 2, none⟩ = false := hz_.2 2
        have hx3 : wr.cell? ⟨go_, xi.toNat * 4 + 3, none⟩ = some (.int .i64 x.f3) := hz_.1 3 _ rfl
        have hf3 : wr.frozen? ⟨go_, xi.toNat * 4 + 3, none⟩ = false := hz_.2 3
        clear hz_
        have hp1 : (0 ≤ xi) = True := eq_true hi0
        have hp2 : (xi < (l0.length : Int)) = True := eq_true hi
        clear hi hi0 hil
        go_wp2_with (first | ((with_reducible refine gate_store (t := 3) (p := 16) rfl ?_); refine store_event (t := 3) (p := 16) (v := ?vo_wv1) (w1 := (wr.setCell ⟨go_, xi.toNat * 4, none⟩ (.int .i64 (xv)))) ?hg ?ho ?hn ?hr ?_; (case ho => rfl); (case hg => rfl); (case hn => rfl); (case hr => first | (go_simp; done) | (go_simp; rfl)); intro wv1 hw; have n0_ := Aside0.mk (by rw [hw]; exact nk_set HH.out HP.out.1 HP.out.2 0 _ rfl (by decide) rfl _ rfl : Kd.H k161 161 wv1 w0.heap.size P0_ (.slice (some ⟨go_, 0, none⟩) l0.length c0) (pre ++ x :: l0.drop (xi.toNat + 1)) xi oki [.int .i64 (xv), .int .i64 x.f1, .slice Ar x.f2.length cr, .int .i64 x.f3]); have n1_ := Aside0.mk (by rw [hw]; exact below_set HB.out HGB.out : Below w0.heap.size w0 wv1); have n2_ := Aside0.mk (by rw [hw]; exact Kept.setCell HK.out (.inl HGO.out) _ : Kept w wv1 (fun k_ => P0_ k_)); have n3_ := Aside0.mk (by rw [hw]; exact Kd.R_far (p := ⟨go_, xi.toNat * 4, none⟩) HR.out (fun k_ hk_ => (HKI.out k_ hk_).2) _ : Kd.R (Kd.int .u8) 5 wv1 w0.heap.size oki (.slice Ar x.f2.length cr) x.f2); clear hw HH HB HK HR hx0 hf0 hx1 hf1 hx2 hf2 hx3 hf3; have HH := n0_; have HB := n1_; have HK := n2_; have HR := n3_; clear n0_ n1_ n2_ n3_; have hz_ := Kd.H_at HH.out HP.out.1 HP.out.2; have hx0 : wv1.cell? ⟨go_, xi.toNat * 4, none⟩ = some (.int .i64 (xv)) := hz_.1 0 _ rfl; have hf0 : wv1.frozen? ⟨go_, xi.toNat * 4, none⟩ = false := hz_.2 0; have hx1 : wv1.cell? ⟨go_, xi.toNat * 4 + 1, none⟩ = some (.int .i64 x.f1) := hz_.1 1 _ rfl; have hf1 : wv1.frozen? ⟨go_, xi.toNat * 4 + 1, none⟩ = false := hz_.2 1; have hx2 : wv1.cell? ⟨go_, xi.toNat * 4 + 2, none⟩ = some (.slice Ar x.f2.length cr) := hz_.1 2 _ rfl; have hf2 : wv1.frozen? ⟨go_, xi.toNat * 4 + 2, none⟩ = false := hz_.2 2; have hx3 : wv1.cell? ⟨go_, xi.toNat * 4 + 3, none⟩ = some (.int .i64 x.f3) := hz_.1 3 _ rfl; have hf3 : wv1.frozen? ⟨go_, xi.toNat * 4 + 3, none⟩ = false := hz_.2 3; clear hz_) | ((with_reducible refine gate_store (t := 3) (p := 23) rfl ?_); refine store_event (t := 3) (p := 23) (v := ?vo_wv2) (w1 := (wv1.setCell ⟨go_, xi.toNat * 4 + 1, none⟩ (.int .i64 (wrap64 (xv + 1))))) ?hg ?ho ?hn ?hr ?_; (case ho => rfl); (case hg => rfl); (case hn => rfl); (case hr => first | (go_simp; done) | (go_simp; rfl)); intro wv2 hw; have n0_ := Aside0.mk (by rw [hw]; exact nk_set HH.out HP.out.1 HP.out.2 1 _ rfl (by decide) rfl _ rfl : Kd.H k161 161 wv2 w0.heap.size P0_ (.slice (some ⟨go_, 0, none⟩) l0.length c0) (pre ++ x :: l0.drop (xi.toNat + 1)) xi oki [.int .i64 (xv), .int .i64 (wrap64 (xv + 1)), .slice Ar x.f2.length cr, .int .i64 x.f3]); have n1_ := Aside0.mk (by rw [hw]; exact below_set HB.out HGB.out : Below w0.heap.size w0 wv2); have n2_ := Aside0.mk (by rw [hw]; exact Kept.setCell HK.out (.inl HGO.out) _ : Kept w wv2 (fun k_ => P0_ k_)); have n3_ := Aside0.mk (by rw [hw]; exact Kd.R_far (p := ⟨go_, xi.toNat * 4 + 1, none⟩) HR.out (fun k_ hk_ => (HKI.out k_ hk_).2) _ : Kd.R (Kd.int .u8) 5 wv2 w0.heap.size oki (.slice Ar x.f2.length cr) x.f2); clear hw HH HB HK HR hx0 hf0 hx1 hf1 hx2 hf2 hx3 hf3; have HH := n0_; have HB := n1_; have HK := n2_; have HR := n3_; clear n0_ n1_ n2_ n3_; have hz_ := Kd.H_at HH.out HP.out.1 HP.out.2; have hx0 : wv2.cell? ⟨go_, xi.toNat * 4, none⟩ = some (.int .i64 (xv)) := hz_.1 0 _ rfl; have hf0 : wv2.frozen? ⟨go_, xi.toNat * 4, none⟩ = false := hz_.2 0; have hx1 : wv2.cell? ⟨go_, xi.toNat * 4 + 1, none⟩ = some (.int .i64 (wrap64 (xv + 1))) := hz_.1 1 _ rfl; have hf1 : wv2.frozen? ⟨go_, xi.toNat * 4 + 1, none⟩ = false := hz_.2 1; have hx2 : wv2.cell? ⟨go_, xi.toNat * 4 + 2, none⟩ = some (.slice Ar x.f2.length cr) := hz_.1 2 _ rfl; have hf2 : wv2.frozen? ⟨go_, xi.toNat * 4 + 2, none⟩ = false := hz_.2 2; have hx3 : wv2.cell? ⟨go_, xi.toNat * 4 + 3, none⟩ = some (.int .i64 x.f3) := hz_.1 3 _ rfl; have hf3 : wv2.frozen? ⟨go_, xi.toNat * 4 + 3, none⟩ = false := hz_.2 3; clear hz_) | ((with_reducible refine gate_callee (f := 108) rfl ?_); refine goesL_ (some 32) rfl rfl Try.func108 (by kernel_rfl) rfl #[.slice Ar x.f2.length cr, .int .i64 (wrap64 ((wrap64 (xv + 1)) + 1))] rfl (by (try simp only [List.map_toArray, List.map_cons, List.map_nil]); first | done | rfl) ?_; (with_reducible refine (laws_markByteS.calls k (fun k_ => some k_ = ((.slice Ar x.f2.length cr) : Value).ownBlock ∧ oki k_) (.slice Ar x.f2.length cr) x.f2 (wrap64 ((wrap64 (xv + 1)) + 1)) m_ rl_ w0 _ ?side1 ?side2 HC.out).mono ?_); (case side1 => repeat (first | (with_reducible first | exact HB.out | apply below_alloc | apply pw_below_drewN | apply below_drew1) | exact HB.out)); (case side2 => exact Kd.R_tight2 rfl (by (with_reducible repeat (first | apply Kd.R_alloc | apply Kd.R_drewN | apply Kd.R_drew)); exact HR.out)); rintro e wv3 ⟨rfl, hy0, hb, hkp⟩; refine ⟨_, rfl, ?_⟩; have n0_ := Aside0.mk (Kd.H_kept (by (with_reducible repeat (first | apply Kd.H_alloc | apply Kd.H_drewN | apply Kd.H_drew)); exact HH.out) hkp (fun _ _ hn_ hs_ => hn_ hs_.2) : Kd.H k161 161 wv3 w0.heap.size P0_ (.slice (some ⟨go_, 0, none⟩) l0.length c0) (pre ++ x :: l0.drop (xi.toNat + 1)) xi oki [.int .i64 (xv), .int .i64 (wrap64 (xv + 1)), .slice Ar x.f2.length cr, .int .i64 x.f3]); have n1_ := Aside0.mk (hb : Below w0.heap.size w0 wv3); have n2_ := Aside0.mk (Kept.then_ (by repeat (first | (with_reducible first | exact HK.out | apply Kept.alloc | apply Kept.drewN | apply Kept.drew) | exact HK.out)) hkp (fun k_ hs_ => .inl (HKI.out k_ hs_.2).1) : Kept w wv3 (fun k_ => P0_ k_)); have n3_ := Aside0.mk (Kd.R_reok rfl hy0 (fun k_ e_ => HR.out.1 k_ e_) : Kd.R (Kd.int .u8) 5 wv3 w0.heap.size oki (.slice Ar x.f2.length cr) rl_); clear HH HB HK HR hy0 hb hkp hx0 hf0 hx1 hf1 hx2 hf2 hx3 hf3; have HH := n0_; have HB := n1_; have HK := n2_; have HR := n3_; clear n0_ n1_ n2_ n3_; have hz_ := Kd.H_at HH.out HP.out.1 HP.out.2; have hx0 : wv3.cell? ⟨go_, xi.toNat * 4, none⟩ = some (.int .i64 (xv)) := hz_.1 0 _ rfl; have hf0 : wv3.frozen? ⟨go_, xi.toNat * 4, none⟩ = false := hz_.2 0; have hx1 : wv3.cell? ⟨go_, xi.toNat * 4 + 1, none⟩ = some (.int .i64 (wrap64 (xv + 1))) := hz_.1 1 _ rfl; have hf1 : wv3.frozen? ⟨go_, xi.toNat * 4 + 1, none⟩ = false := hz_.2 1; have hx2 : wv3.cell? ⟨go_, xi.toNat * 4 + 2, none⟩ = some (.slice Ar x.f2.length cr) := hz_.1 2 _ rfl; have hf2 : wv3.frozen? ⟨go_, xi.toNat * 4 + 2, none⟩ = false := hz_.2 2; have hx3 : wv3.cell? ⟨go_, xi.toNat * 4 + 3, none⟩ = some (.int .i64 x.f3) := hz_.1 3 _ rfl; have hf3 : wv3.frozen? ⟨go_, xi.toNat * 4 + 3, none⟩ = false := hz_.2 3; clear hz_) | ((with_reducible refine gate_store (t := 3) (p := 37) rfl ?_); refine store_event (t := 3) (p := 37) (v := ?vo_wv4) (w1 := (wv3.setCell ⟨go_, xi.toNat * 4 + 3, none⟩ (.int .i64 (m_)))) ?hg ?ho ?hn ?hr ?_; (case ho => rfl); (case hg => rfl); (case hn => rfl); (case hr => first | (go_simp; done) | (go_simp; rfl)); intro wv4 hw; have n0_ := Aside0.mk (by rw [hw]; exact nk_set HH.out HP.out.1 HP.out.2 3 _ rfl (by decide) rfl _ rfl : Kd.H k161 161 wv4 w0.heap.size P0_ (.slice (some ⟨go_, 0, none⟩) l0.length c0) (pre ++ x :: l0.drop (xi.toNat + 1)) xi oki [.int .i64 (xv), .int .i64 (wrap64 (xv + 1)), .slice Ar x.f2.length cr, .int .i64 (m_)]); have n1_ := Aside0.mk (by rw [hw]; exact below_set HB.out HGB.out : Below w0.heap.size w0 wv4); have n2_ := Aside0.mk (by rw [hw]; exact Kept.setCell HK.out (.inl HGO.out) _ : Kept w wv4 (fun k_ => P0_ k_)); have n3_ := Aside0.mk (by rw [hw]; exact Kd.R_far (p := ⟨go_, xi.toNat * 4 + 3, none⟩) HR.out (fun k_ hk_ => (HKI.out k_ hk_).2) _ : Kd.R (Kd.int .u8) 5 wv4 w0.heap.size oki (.slice Ar x.f2.length cr) rl_); clear hw HH HB HK HR hx0 hf0 hx1 hf1 hx2 hf2 hx3 hf3; have HH := n0_; have HB := n1_; have HK := n2_; have HR := n3_; clear n0_ n1_ n2_ n3_; have hz_ := Kd.H_at HH.out HP.out.1 HP.out.2; have hx0 : wv4.cell? ⟨go_, xi.toNat * 4, none⟩ = some (.int .i64 (xv)) := hz_.1 0 _ rfl; have hf0 : wv4.frozen? ⟨go_, xi.toNat * 4, none⟩ = false := hz_.2 0; have hx1 : wv4.cell? ⟨go_, xi.toNat * 4 + 1, none⟩ = some (.int .i64 (wrap64 (xv + 1))) := hz_.1 1 _ rfl; have hf1 : wv4.frozen? ⟨go_, xi.toNat * 4 + 1, none⟩ = false := hz_.2 1; have hx2 : wv4.cell? ⟨go_, xi.toNat * 4 + 2, none⟩ = some (.slice Ar x.f2.length cr) := hz_.1 2 _ rfl; have hf2 : wv4.frozen? ⟨go_, xi.toNat * 4 + 2, none⟩ = false := hz_.2 2; have hx3 : wv4.cell? ⟨go_, xi.toNat * 4 + 3, none⟩ = some (.int .i64 (m_)) := hz_.1 3 _ rfl; have hf3 : wv4.frozen? ⟨go_, xi.toNat * 4 + 3, none⟩ = false := hz_.2 3; clear hz_))
        go_roundg k1
        case measure => omega
        case rel =>
          have hn1 : (xi + 1).toNat = xi.toNat + 1 := by have := HP.out.1; omega
          refine ⟨pre ++ [(⟨xv, wrap64 (xv + 1), rl_, m_⟩ : S161)], wrap64 (m_ + 1), xi + 1, rfl, (by congr 1; (unfold wrap64; have := HN.out; have := HL.out; omega)), ⟨by have := HN.out; have := HP.out; refine ⟨?_, ?_, ?_, ?_⟩ <;> (try simp only [List.length_append, List.length_cons, List.length_nil]) <;> omega⟩, ⟨post2, by rw [hn1]; exact HD.out, by rw [HE.out, List.append_assoc]; rfl⟩, ⟨?_⟩, ⟨by repeat (first | (with_reducible first | exact HK.out | apply Kept.alloc | apply Kept.drewN | apply Kept.drew) | exact HK.out)⟩, ⟨by repeat (first | (with_reducible first | exact HB.out | apply below_alloc | apply pw_below_drewN | apply below_drew1) | exact HB.out)⟩⟩
          rw [hn1]
          (with_reducible repeat (first | apply Kd.S_alloc | apply Kd.S_drewN | apply Kd.S_drew))
          exact nk_back HH.out HN.out.2.2.2 (k161_mkM _ _ _ (⟨xv, wrap64 (xv + 1), rl_, m_⟩ : S161) HR.out)
    · have hdec : decide (xi < (l0.length : Int)) = false := decide_eq_false hi
      obtain ⟨post, H, hr⟩ := HA.out
      have HO1 := HO.out
      rw [List.drop_eq_nil_of_le (by omega)] at H HO1
      obtain ⟨rfl, rfl⟩ := Prod.mk.inj (Option.some.inj H)
      rw [List.append_nil] at HO1 hr
      subst hr
      have HS := Aside0.mk HO1
      clear H HO1 HA HO hi
      go_wp2
      go_ret
      exact ⟨rfl, by (with_reducible repeat (first | apply Kd.S_alloc | apply Kd.S_drewN | apply Kd.S_drew)); exact HS.out, by repeat (first | (with_reducible first | exact HB.out | apply below_alloc | apply pw_below_drewN | apply below_drew1) | exact HB.out), by repeat (first | (with_reducible first | exact HK.out | apply Kept.alloc | apply Kept.drewN | apply Kept.drew) | exact HK.out)⟩

/-! ### laws_markEpochBoxes: function 61 (by a program of this session: it hands its rows over one by one) -/
def laws_markEpochBoxes.f (k : Nat) (a0_0 : Int) (l0_1 : List (S161)) (a1 : Int) : Option (Int × (List (S161))) := (laws_markBoxS.f k l0_1 a1).bind fun p0_ => some (p0_.1, p0_.2)
theorem laws_markEpochBoxes.mono : ∀ a0 a1 a2 k, LeO (laws_markEpochBoxes.f k a0 a1 a2) (laws_markEpochBoxes.f (k + 1) a0 a1 a2) := by
  intro a0 a1 a2 k
  unfold laws_markEpochBoxes.f
  exact LeO.bind (laws_markBoxS.mono _ _ _) (fun _ => LeO.refl _)
set_option maxHeartbeats 8000000 in
set_option maxRecDepth 100000 in
theorem laws_markEpochBoxes.calls (k : Nat) (a0_0 : Int) (P0_1_ : Nat → Prop) (u9000_ : Value) (l0_1 : List (S161)) (a1 : Int) (r1 : Int) (r2 : List (S161)) (w0 w : World) (hB : Below w0.heap.size w0 w) (ho0_1 : Kd.S k161 161 w w0.heap.size P0_1_ u9000_ l0_1) (h : laws_markEpochBoxes.f k a0_0 l0_1 a1 = some (r1, r2)) :
    Calls Try.prog 61 #[.agg #[.int .i64 a0_0, u9000_], .int .i64 a1] w fun e w' => e = .returned (.int .i64 r1) ∧ Kd.S k161 161 w' w0.heap.size (fun k_ => P0_1_ k_) u9000_ r2 ∧ Below w0.heap.size w0 w' ∧ Kept w w' (fun k_ => P0_1_ k_) := by
  have hu49 := Try.underlying49
  have HB := Aside0.mk hB
  have HK := Aside0.mk (Kept.refl w (fun k_ => P0_1_ k_))
  obtain ⟨okq0_1, hoo, hii⟩ := lk_Si ho0_1
  obtain ⟨Aq0_1, cq0_1, rfl⟩ := Kd.S_slice hoo
  have HOq0_1 := Aside0.mk hoo
  have HIq0_1 := Aside0.mk hii
  clear hoo hii ho0_1
  clear hB
  unfold laws_markEpochBoxes.f at h
  obtain ⟨⟨m0_, y0_⟩, C0, h⟩ := Option.bind_eq_some_iff.mp h
  have A0q := Aside0.mk C0
  clear C0
  simp only [Option.some.injEq, Prod.mk.injEq] at h
  obtain ⟨rfl, rfl⟩ := h
  go_enter Try.func61, Try.ntmps61
  go_wp2_with (first | ((with_reducible refine gate_dst (N := 2) rfl ?_); refine box_event ?hg (N := 2) ?hd (cs := #[.int .i64 a0_0, .slice Aq0_1 l0_1.length cq0_1]) (t := 49) ?hr ?_; (case hd => rfl); (case hg => rfl); (case hr => first | (go_simp; done) | (go_simp; rfl)); intro gb7001 hg wv1 hbox hb; have n0_ := Aside0.mk (Kd.S_kept HOq0_1.out (Kept.below (show Kept w w (fun k_ => False) from by repeat (first | (with_reducible first | exact Kept.refl _ _ | apply Kept.alloc | apply Kept.drewN | apply Kept.drew) | exact Kept.refl _ _)) hb) (fun _ _ hs_ => hs_.elim)); have n1_ := Aside0.mk (below_step (by repeat (first | (with_reducible first | exact HB.out | apply below_alloc | apply pw_below_drewN | apply below_drew1) | exact HB.out)) hb); have n2_ := Aside0.mk (Kept.then_ HK.out (Kept.below (show Kept w w (fun k_ => False) from by repeat (first | (with_reducible first | exact Kept.refl _ _ | apply Kept.alloc | apply Kept.drewN | apply Kept.drew) | exact Kept.refl _ _)) hb) (fun k_ hs_ => .inr (hs_.elim))); have n3_ := Aside0.mk (hbox); have n4_ := Aside0.mk ((by rw [hg]; exact Nat.le_trans HB.out.size ((show Kept w w (fun k_ => False) from by repeat (first | (with_reducible first | exact Kept.refl _ _ | apply Kept.alloc | apply Kept.drewN | apply Kept.drew) | exact Kept.refl _ _))).1 : w0.heap.size ≤ gb7001)); have n5_ := Aside0.mk ((⟨by rw [hg]; exact ((show Kept w w (fun k_ => False) from by repeat (first | (with_reducible first | exact Kept.refl _ _ | apply Kept.alloc | apply Kept.drewN | apply Kept.drew) | exact Kept.refl _ _))).1, blk_lt hbox⟩ : w.heap.size ≤ gb7001 ∧ gb7001 < wv1.heap.size)); have n6_ := Aside0.mk (((Kept.below (show Kept w w (fun k_ => False) from by repeat (first | (with_reducible first | exact Kept.refl _ _ | apply Kept.alloc | apply Kept.drewN | apply Kept.drew) | exact Kept.refl _ _)) hb).1 : w.heap.size ≤ wv1.heap.size)); clear HOq0_1; clear HB; clear HK; have HOq0_1 := n0_; have HB := n1_; have HK := n2_; have BK7001 := n3_; have GE7001 := n4_; have HG7001 := n5_; have HL1 := n6_; clear n0_ n1_ n2_ n3_ n4_ n5_ n6_; clear hb hbox hg; have hcz1_0 : wv1.cell? ⟨gb7001, 0, none⟩ = some (.int .i64 a0_0) := (blk_cell BK7001.out 0).trans rfl; have hcz1_f0 := blk_frozen BK7001.out 0; have hcz1_1 : wv1.cell? ⟨gb7001, 1, none⟩ = some (.slice Aq0_1 l0_1.length cq0_1) := (blk_cell BK7001.out 1).trans rfl; have hcz1_f1 := blk_frozen BK7001.out 1) | ((with_reducible refine gate_callee (f := 129) rfl ?_); refine goesL_ (some 8) rfl rfl Try.func129 (by kernel_rfl) rfl #[.slice Aq0_1 l0_1.length cq0_1, .int .i64 a1] rfl (by (try simp only [List.map_toArray, List.map_cons, List.map_nil]); first | done | rfl | (simp only [List.length_drop, List.length_take]; rfl)) ?_; (with_reducible refine (laws_markBoxS.calls k (fun k_ => okq0_1 k_) (.slice Aq0_1 l0_1.length cq0_1) l0_1 a1 m0_ y0_ w0 _ ?side1 ?side2 A0q.out).mono ?_); (case side1 => repeat (first | (with_reducible first | exact HB.out | apply below_alloc | apply pw_below_drewN | apply below_drew1) | exact HB.out)); (case side2 => exact (Kd.S_kept HOq0_1.out (show Kept wv1 wv1 (fun k_ => False) from by repeat (first | (with_reducible first | exact Kept.refl _ _ | apply Kept.alloc | apply Kept.drewN | apply Kept.drew) | exact Kept.refl _ _)) (fun _ _ hs_ => hs_.elim))); rintro e wv2 ⟨rfl, hy0, hb, hkp⟩; refine ⟨_, rfl, ?_⟩; have hkW := (show Kept wv1 wv1 (fun k_ => False) from by repeat (first | (with_reducible first | exact Kept.refl _ _ | apply Kept.alloc | apply Kept.drewN | apply Kept.drew) | exact Kept.refl _ _)); have n0_ := Aside0.mk (hy0); have n1_ := Aside0.mk (blk_kept (blk_kept BK7001.out (show Kept wv1 wv1 (fun k_ => False) from by repeat (first | (with_reducible first | exact Kept.refl _ _ | apply Kept.alloc | apply Kept.drewN | apply Kept.drew) | exact Kept.refl _ _)) (fun hs_ => hs_.elim)) hkp (fun hs_ => (have i_ := HG7001.out; (have j_ := HIq0_1.out _ hs_; by have z0_ := HL1.out; omega)))); have n2_ := Aside0.mk (Kept.then_ (Kept.then_ HK.out hkW (fun k_ hs_ => .inr (hs_.elim))) hkp (fun k_ hs_ => .inl ((HIq0_1.out k_ hs_).2))); have n3_ := Aside0.mk (hb); have n4_ := Aside0.mk ((Nat.le_trans hkW.1 hkp.1 : wv1.heap.size ≤ wv2.heap.size)); clear HOq0_1; clear BK7001; clear HK; clear HB; have HOq0_1 := n0_; have BK7001 := n1_; have HK := n2_; have HB := n3_; have HL2 := n4_; clear n0_ n1_ n2_ n3_ n4_; (try clear hb); (try clear hkW); (try clear hk2); (try clear hkp); (try clear hy0); have hcz2_0 : wv2.cell? ⟨gb7001, 0, none⟩ = some (.int .i64 a0_0) := (blk_cell BK7001.out 0).trans rfl; have hcz2_f0 := blk_frozen BK7001.out 0; have hcz2_1 : wv2.cell? ⟨gb7001, 1, none⟩ = some (.slice Aq0_1 l0_1.length cq0_1) := (blk_cell BK7001.out 1).trans rfl; have hcz2_f1 := blk_frozen BK7001.out 1))
  go_ret
  exact ⟨rfl, Kd.S_mono (Kd.S_kept HOq0_1.out (show Kept wv2 wv2 (fun k_ => False) from by repeat (first | (with_reducible first | exact Kept.refl _ _ | apply Kept.alloc | apply Kept.drewN | apply Kept.drew) | exact Kept.refl _ _)) (fun _ _ hs_ => hs_.elim)) (fun k_ hk_ => (HIq0_1.out k_ hk_).2), by repeat (first | (with_reducible first | exact HB.out | apply below_alloc | apply pw_below_drewN | apply below_drew1) | exact HB.out), Kept.then_ HK.out (show Kept wv2 wv2 (fun k_ => False) from by repeat (first | (with_reducible first | exact Kept.refl _ _ | apply Kept.alloc | apply Kept.drewN | apply Kept.drew) | exact Kept.refl _ _)) (fun k_ hs_ => .inr (hs_.elim))⟩

/-! ### laws_markSealedBundleS: function 107 (by a program of this session: rows inside elements) -/
def laws_markSealedBundleS.go (k : Nat) : List S71 → Int → Option (Int × List S71)
  | [], v => some (v, [])
  | x :: l, v => (laws_markByteS.f k x.f2 (wrap64 ((wrap64 (v + 1)) + 1))).bind fun p => (laws_markSealedBundleS.go k l (wrap64 (p.1 + 1))).bind fun q => some (q.1, (⟨v, wrap64 (v + 1), p.2, p.1⟩ : S71) :: q.2)
def laws_markSealedBundleS.f (k : Nat) (l0 : List S71) (a1 : Int) : Option (Int × List S71) := if l0.length ≤ 9223372036854775806 then laws_markSealedBundleS.go k l0 a1 else none
theorem laws_markSealedBundleS.go_mono (k : Nat) : ∀ (l : List S71) (v : Int), LeO (laws_markSealedBundleS.go k l v) (laws_markSealedBundleS.go (k + 1) l v)
  | [], _ => LeO.refl _
  | x :: l, v => by
    unfold laws_markSealedBundleS.go
    exact LeO.bind (laws_markByteS.mono _ _ _) (fun p => LeO.bind (laws_markSealedBundleS.go_mono k l _) (fun _ => LeO.refl _))
theorem laws_markSealedBundleS.mono : ∀ a0 a1 k, LeO (laws_markSealedBundleS.f k a0 a1) (laws_markSealedBundleS.f (k + 1) a0 a1) := by
  intro a0 a1 k
  unfold laws_markSealedBundleS.f
  exact LeO.ite (laws_markSealedBundleS.go_mono k _ _) (LeO.refl _)
set_option maxHeartbeats 8000000 in
set_option maxRecDepth 100000 in
theorem laws_markSealedBundleS.calls (k : Nat) (P0_ : Nat → Prop) (u9000_ : Value) (l0 : List (S71)) (a1 : Int) (r1 : Int) (r2 : List (S71)) (w0 w : World) (hB : Below w0.heap.size w0 w) (ho0 : Kd.S k71 71 w w0.heap.size P0_ u9000_ l0) (h : laws_markSealedBundleS.f k l0 a1 = some (r1, r2)) :
    Calls Try.prog 107 #[u9000_, .int .i64 a1] w fun e w' => e = .returned (.int .i64 r1) ∧ Kd.S k71 71 w' w0.heap.size (fun k_ => P0_ k_) u9000_ r2 ∧ Below w0.heap.size w0 w' ∧ Kept w w' (fun k_ => P0_ k_) := by
  have HO0 := Aside0.mk ho0
  have HK := Aside0.mk (Kept.refl w (fun k_ => P0_ k_))
  have HB := Aside0.mk hB
  clear hB ho0
  obtain ⟨hl, H⟩ : l0.length ≤ 9223372036854775806 ∧ laws_markSealedBundleS.go k l0 a1 = some (r1, r2) := by
    unfold laws_markSealedBundleS.f at h
    split at h
    · exact ⟨by assumption, h⟩
    · cases h
  clear h
  have HL := Aside0.mk hl
  have HA := Aside0.mk (show ∃ post, laws_markSealedBundleS.go k (l0.drop (0 : Int).toNat) a1 = some (r1, post) ∧ r2 = [] ++ post from ⟨r2, H, rfl⟩)
  clear hl H
  obtain ⟨A0, c0, eu⟩ := Kd.S_slice HO0.out
  subst eu
  go_enter Try.func107, Try.ntmps107
  go_wp2
  go_loopg [1, 5] (l0.length + 1) (fun kq v1 v5 w' => ∃ (pre : List S71) (xv xi : Int), v1 = .int .i64 xv ∧ v5 = .int .i64 xi ∧ Aside0 ((kq : Int) + xi = (l0.length : Int) + 1 ∧ xi ≤ (l0.length : Int) ∧ 0 ≤ xi ∧ pre.length = xi.toNat) ∧ Aside0 (∃ post, laws_markSealedBundleS.go k (l0.drop xi.toNat) xv = some (r1, post) ∧ r2 = pre ++ post) ∧ Aside0 (Kd.S k71 71 w' w0.heap.size P0_ (.slice A0 l0.length c0) (pre ++ l0.drop xi.toNat)) ∧ Aside0 (Kept w w' (fun k_ => P0_ k_)) ∧ Aside0 (Below w0.heap.size w0 w'))
  case atStart => exact ⟨[], a1, 0, rfl, rfl, ⟨by omega, by omega, by omega, rfl⟩, HA, ⟨by (with_reducible repeat (first | apply Kd.S_alloc | apply Kd.S_drewN | apply Kd.S_drew)); exact HO0.out⟩, ⟨by repeat (first | (with_reducible first | exact HK.out | apply Kept.alloc | apply Kept.drewN | apply Kept.drew) | exact HK.out)⟩, ⟨by repeat (first | (with_reducible first | exact HB.out | apply below_alloc | apply pw_below_drewN | apply below_drew1) | exact HB.out)⟩⟩
  case round =>
    clear HA HO0 HK HB
    obtain ⟨pre, xv, xi, rfl, rfl, HN, HA, HO, HK, HB⟩ := hrel
    have hi0 := HN.out.2.2.1
    by_cases hi : xi < (l0.length : Int)
    · cases gk with
      | zero => exact absurd HN.out.1 (by simp; omega)
      | succ k1 =>
        have hdec : decide (xi < (l0.length : Int)) = true := decide_eq_true hi
        have hil : xi.toNat < l0.length := by omega
        obtain ⟨x, hx⟩ : ∃ x, l0.drop xi.toNat = x :: l0.drop (xi.toNat + 1) := ⟨_, List.drop_eq_getElem_cons hil⟩
        have HO1 := HO.out
        rw [hx] at HO1
        obtain ⟨post, H, hr⟩ := HA.out
        rw [hx] at H
        unfold laws_markSealedBundleS.go at H
        obtain ⟨⟨m_, rl_⟩, C1, H⟩ := Option.bind_eq_some_iff.mp H
        obtain ⟨⟨rq_, post2⟩, C2, H⟩ := Option.bind_eq_some_iff.mp H
        obtain ⟨rfl, rfl⟩ := Prod.mk.inj (Option.some.inj H)
        have HC := Aside0.mk C1
        have HD := Aside0.mk C2
        have HE := Aside0.mk hr
        clear C1 C2 H HA HO hr
        obtain ⟨go_, eA, hgb, hgo, hin, oki, ce_, hM, hoki, hH⟩ := nk_elem HO1 HN.out.2.2.2 hi0 z71
        subst eA
        obtain ⟨vr_, rfl, hr_⟩ := k71_openM hM
        obtain ⟨Ar, cr, rfl⟩ := Kd.R_slice hr_
        have HH := Aside0.mk hH
        have HR := Aside0.mk hr_
        have HKI := Aside0.mk hoki
        have HGB := Aside0.mk hgb
        have HGO := Aside0.mk hgo
        have HP := Aside0.mk (show 0 ≤ xi ∧ xi < ((l0.length : Nat) : Int) from ⟨hi0, hi⟩)
        have HXD := Aside0.mk hx
        clear HO1 hM hH hr_ hoki hgb hgo hin hx
        have hz_ := Kd.H_at HH.out HP.out.1 HP.out.2
        have hx0 : wr.cell? ⟨go_, xi.toNat * 4, none⟩ = some (.int .i64 x.f0) := hz_.1 0 _ rfl
        have hf0 : wr.frozen? ⟨go_, xi.toNat * 4, none⟩ = false := hz_.2 0
        have hx1 : wr.cell? ⟨go_, xi.toNat * 4 + 1, none⟩ = some (.int .i64 x.f1) := hz_.1 1 _ rfl
        have hf1 : wr.frozen? ⟨go_, xi.toNat * 4 + 1, none⟩ = false := hz_.2 1
        have hx2 : wr.cell? ⟨go_, xi.toNat * 4 + 2, none⟩ = some (.slice Ar x.f2.length cr) := hz_.1 2 _ rfl
        have hf2 : wr.frozen? ⟨go_, xi.toNat * 4 + 2, none⟩ = false := hz_.2 2
        have hx3 : wr.cell? ⟨go_, xi.toNat * 4 + 3, none⟩ = some (.int .i64 x.f3) := hz_.1 3 _ rfl
        have hf3 : wr.frozen? ⟨go_, xi.toNat * 4 + 3, none⟩ = false := hz_.2 3
        clear hz_
        have hp1 : (0 ≤ xi) = True := eq_true hi0
        have hp2 : (xi < (l0.length : Int)) = True := eq_true hi
        clear hi hi0 hil
        go_wp2_with (first | ((with_reducible refine gate_store (t := 3) (p := 16) rfl ?_); refine store_event (t := 3) (p := 16) (v := ?vo_wv1) (w1 := (wr.setCell ⟨go_, xi.toNat * 4, none⟩ (.int .i64 (xv)))) ?hg ?ho ?hn ?hr ?_; (case ho => rfl); (case hg => rfl); (case hn => rfl); (case hr => first | (go_simp; done) | (go_simp; rfl)); intro wv1 hw; have n0_ := Aside0.mk (by rw [hw]; exact nk_set HH.out HP.out.1 HP.out.2 0 _ rfl (by decide) rfl _ rfl : Kd.H k71 71 wv1 w0.heap.size P0_ (.slice (some ⟨go_, 0, none⟩) l0.length c0) (pre ++ x :: l0.drop (xi.toNat + 1)) xi oki [.int .i64 (xv), .int .i64 x.f1, .slice Ar x.f2.length cr, .int .i64 x.f3]); have n1_ := Aside0.mk (by rw [hw]; exact below_set HB.out HGB.out : Below w0.heap.size w0 wv1); have n2_ := Aside0.mk (by rw [hw]; exact Kept.setCell HK.out (.inl HGO.out) _ : Kept w wv1 (fun k_ => P0_ k_)); have n3_ := Aside0.mk (by rw [hw]; exact Kd.R_far (p := ⟨go_, xi.toNat * 4, none⟩) HR.out (fun k_ hk_ => (HKI.out k_ hk_).2) _ : Kd.R (Kd.int .u8) 5 wv1 w0.heap.size oki (.slice Ar x.f2.length cr) x.f2); clear hw HH HB HK HR hx0 hf0 hx1 hf1 hx2 hf2 hx3 hf3; have HH := n0_; have HB := n1_; have HK := n2_; have HR := n3_; clear n0_ n1_ n2_ n3_; have hz_ := Kd.H_at HH.out HP.out.1 HP.out.2; have hx0 : wv1.cell? ⟨go_, xi.toNat * 4, none⟩ = some (.int .i64 (xv)) := hz_.1 0 _ rfl; have hf0 : wv1.frozen? ⟨go_, xi.toNat * 4, none⟩ = false := hz_.2 0; have hx1 : wv1.cell? ⟨go_, xi.toNat * 4 + 1, none⟩ = some (.int .i64 x.f1) := hz_.1 1 _ rfl; have hf1 : wv1.frozen? ⟨go_, xi.toNat * 4 + 1, none⟩ = false := hz_.2 1; have hx2 : wv1.cell? ⟨go_, xi.toNat * 4 + 2, none⟩ = some (.slice Ar x.f2.length cr) := hz_.1 2 _ rfl; have hf2 : wv1.frozen? ⟨go_, xi.toNat * 4 + 2, none⟩ = false := hz_.2 2; have hx3 : wv1.cell? ⟨go_, xi.toNat * 4 + 3, none⟩ = some (.int .i64 x.f3) := hz_.1 3 _ rfl; have hf3 : wv1.frozen? ⟨go_, xi.toNat * 4 + 3, none⟩ = false := hz_.2 3; clear hz_) | ((with_reducible refine gate_store (t := 3) (p := 23) rfl ?_); refine store_event (t := 3) (p := 23) (v := ?vo_wv2) (w1 := (wv1.setCell ⟨go_, xi.toNat * 4 + 1, none⟩ (.int .i64 (wrap64 (xv + 1))))) ?hg ?ho ?hn ?hr ?_; (case ho => rfl); (case hg => rfl); (case hn => rfl); (case hr => first | (go_simp; done) | (go_simp; rfl)); intro wv2 hw; have n0_ := Aside0.mk (by rw [hw]; exact nk_set HH.out HP.out.1 HP.out.2 1 _ rfl (by decide) rfl _ rfl : Kd.H k71 71 wv2 w0.heap.size P0_ (.slice (some ⟨go_, 0, none⟩) l0.length c0) (pre ++ x :: l0.drop (xi.toNat + 1)) xi oki [.int .i64 (xv), .int .i64 (wrap64 (xv + 1)), .slice Ar x.f2.length cr, .int .i64 x.f3]); have n1_ := Aside0.mk (by rw [hw]; exact below_set HB.out HGB.out : Below w0.heap.size w0 wv2); have n2_ := Aside0.mk (by rw [hw]; exact Kept.setCell HK.out (.inl HGO.out) _ : Kept w wv2 (fun k_ => P0_ k_)); have n3_ := Aside0.mk (by rw [hw]; exact Kd.R_far (p := ⟨go_, xi.toNat * 4 + 1, none⟩) HR.out (fun k_ hk_ => (HKI.out k_ hk_).2) _ : Kd.R (Kd.int .u8) 5 wv2 w0.heap.size oki (.slice Ar x.f2.length cr) x.f2); clear hw HH HB HK HR hx0 hf0 hx1 hf1 hx2 hf2 hx3 hf3; have HH := n0_; have HB := n1_; have HK := n2_; have HR := n3_; clear n0_ n1_ n2_ n3_; have hz_ := Kd.H_at HH.out HP.out.1 HP.out.2; have hx0 : wv2.cell? ⟨go_, xi.toNat * 4, none⟩ = some (.int .i64 (xv)) := hz_.1 0 _ rfl; have hf0 : wv2.frozen? ⟨go_, xi.toNat * 4, none⟩ = false := hz_.2 0; have hx1 : wv2.cell? ⟨go_, xi.toNat * 4 + 1, none⟩ = some (.int .i64 (wrap64 (xv + 1))) := hz_.1 1 _ rfl; have hf1 : wv2.frozen? ⟨go_, xi.toNat * 4 + 1, none⟩ = false := hz_.2 1; have hx2 : wv2.cell? ⟨go_, xi.toNat * 4 + 2, none⟩ = some (.slice Ar x.f2.length cr) := hz_.1 2 _ rfl; have hf2 : wv2.frozen? ⟨go_, xi.toNat * 4 + 2, none⟩ = false := hz_.2 2; have hx3 : wv2.cell? ⟨go_, xi.toNat * 4 + 3, none⟩ = some (.int .i64 x.f3) := hz_.1 3 _ rfl; have hf3 : wv2.frozen? ⟨go_, xi.toNat * 4 + 3, none⟩ = false := hz_.2 3; clear hz_) | ((with_reducible refine gate_callee (f := 108) rfl ?_); refine goesL_ (some 32) rfl rfl Try.func108 (by kernel_rfl) rfl #[.slice Ar x.f2.length cr, .int .i64 (wrap64 ((wrap64 (xv + 1)) + 1))] rfl (by (try simp only [List.map_toArray, List.map_cons, List.map_nil]); first | done | rfl) ?_; (with_reducible refine (laws_markByteS.calls k (fun k_ => some k_ = ((.slice Ar x.f2.length cr) : Value).ownBlock ∧ oki k_) (.slice Ar x.f2.length cr) x.f2 (wrap64 ((wrap64 (xv + 1)) + 1)) m_ rl_ w0 _ ?side1 ?side2 HC.out).mono ?_); (case side1 => repeat (first | (with_reducible first | exact HB.out | apply below_alloc | apply pw_below_drewN | apply below_drew1) | exact HB.out)); (case side2 => exact Kd.R_tight2 rfl (by (with_reducible repeat (first | apply Kd.R_alloc | apply Kd.R_drewN | apply Kd.R_drew)); exact HR.out)); rintro e wv3 ⟨rfl, hy0, hb, hkp⟩; refine ⟨_, rfl, ?_⟩; have n0_ := Aside0.mk (Kd.H_kept (by (with_reducible repeat (first | apply Kd.H_alloc | apply Kd.H_drewN | apply Kd.H_drew)); exact HH.out) hkp (fun _ _ hn_ hs_ => hn_ hs_.2) : Kd.H k71 71 wv3 w0.heap.size P0_ (.slice (some ⟨go_, 0, none⟩) l0.length c0) (pre ++ x :: l0.drop (xi.toNat + 1)) xi oki [.int .i64 (xv), .int .i64 (wrap64 (xv + 1)), .slice Ar x.f2.length cr, .int .i64 x.f3]); have n1_ := Aside0.mk (hb : Below w0.heap.size w0 wv3); have n2_ := Aside0.mk (Kept.then_ (by repeat (first | (with_reducible first | exact HK.out | apply Kept.alloc | apply Kept.drewN | apply Kept.drew) | exact HK.out)) hkp (fun k_ hs_ => .inl (HKI.out k_ hs_.2).1) : Kept w wv3 (fun k_ => P0_ k_)); have n3_ := Aside0.mk (Kd.R_reok rfl hy0 (fun k_ e_ => HR.out.1 k_ e_) : Kd.R (Kd.int .u8) 5 wv3 w0.heap.size oki (.slice Ar x.f2.length cr) rl_); clear HH HB HK HR hy0 hb hkp hx0 hf0 hx1 hf1 hx2 hf2 hx3 hf3; have HH := n0_; have HB := n1_; have HK := n2_; have HR := n3_; clear n0_ n1_ n2_ n3_; have hz_ := Kd.H_at HH.out HP.out.1 HP.out.2; have hx0 : wv3.cell? ⟨go_, xi.toNat * 4, none⟩ = some (.int .i64 (xv)) := hz_.1 0 _ rfl; have hf0 : wv3.frozen? ⟨go_, xi.toNat * 4, none⟩ = false := hz_.2 0; have hx1 : wv3.cell? ⟨go_, xi.toNat * 4 + 1, none⟩ = some (.int .i64 (wrap64 (xv + 1))) := hz_.1 1 _ rfl; have hf1 : wv3.frozen? ⟨go_, xi.toNat * 4 + 1, none⟩ = false := hz_.2 1; have hx2 : wv3.cell? ⟨go_, xi.toNat * 4 + 2, none⟩ = some (.slice Ar x.f2.length cr) := hz_.1 2 _ rfl; have hf2 : wv3.frozen? ⟨go_, xi.toNat * 4 + 2, none⟩ = false := hz_.2 2; have hx3 : wv3.cell? ⟨go_, xi.toNat * 4 + 3, none⟩ = some (.int .i64 x.f3) := hz_.1 3 _ rfl; have hf3 : wv3.frozen? ⟨go_, xi.toNat * 4 + 3, none⟩ = false := hz_.2 3; clear hz_) | ((with_reducible refine gate_store (t := 3) (p := 37) rfl ?_); refine store_event (t := 3) (p := 37) (v := ?vo_wv4) (w1 := (wv3.setCell ⟨go_, xi.toNat * 4 + 3, none⟩ (.int .i64 (m_)))) ?hg ?ho ?hn ?hr ?_; (case ho => rfl); (case hg => rfl); (case hn => rfl); (case hr => first | (go_simp; done) | (go_simp; rfl)); intro wv4 hw; have n0_ := Aside0.mk (by rw [hw]; exact nk_set HH.out HP.out.1 HP.out.2 3 _ rfl (by decide) rfl _ rfl : Kd.H k71 71 wv4 w0.heap.size P0_ (.slice (some ⟨go_, 0, none⟩) l0.length c0) (pre ++ x :: l0.drop (xi.toNat + 1)) xi oki [.int .i64 (xv), .int .i64 (wrap64 (xv + 1)), .slice Ar x.f2.length cr, .int .i64 (m_)]); have n1_ := Aside0.mk (by rw [hw]; exact below_set HB.out HGB.out : Below w0.heap.size w0 wv4); have n2_ := Aside0.mk (by rw [hw]; exact Kept.setCell HK.out (.inl HGO.out) _ : Kept w wv4 (fun k_ => P0_ k_)); have n3_ := Aside0.mk (by rw [hw]; exact Kd.R_far (p := ⟨go_, xi.toNat * 4 + 3, none⟩) HR.out (fun k_ hk_ => (HKI.out k_ hk_).2) _ : Kd.R (Kd.int .u8) 5 wv4 w0.heap.size oki (.slice Ar x.f2.length cr) rl_); clear hw HH HB HK HR hx0 hf0 hx1 hf1 hx2 hf2 hx3 hf3; have HH := n0_; have HB := n1_; have HK := n2_; have HR := n3_; clear n0_ n1_ n2_ n3_; have hz_ := Kd.H_at HH.out HP.out.1 HP.out.2; have hx0 : wv4.cell? ⟨go_, xi.toNat * 4, none⟩ = some (.int .i64 (xv)) := hz_.1 0 _ rfl; have hf0 : wv4.frozen? ⟨go_, xi.toNat * 4, none⟩ = false := hz_.2 0; have hx1 : wv4.cell? ⟨go_, xi.toNat * 4 + 1, none⟩ = some (.int .i64 (wrap64 (xv + 1))) := hz_.1 1 _ rfl; have hf1 : wv4.frozen? ⟨go_, xi.toNat * 4 + 1, none⟩ = false := hz_.2 1; have hx2 : wv4.cell? ⟨go_, xi.toNat * 4 + 2, none⟩ = some (.slice Ar x.f2.length cr) := hz_.1 2 _ rfl; have hf2 : wv4.frozen? ⟨go_, xi.toNat * 4 + 2, none⟩ = false := hz_.2 2; have hx3 : wv4.cell? ⟨go_, xi.toNat * 4 + 3, none⟩ = some (.int .i64 (m_)) := hz_.1 3 _ rfl; have hf3 : wv4.frozen? ⟨go_, xi.toNat * 4 + 3, none⟩ = false := hz_.2 3; clear hz_))
        go_roundg k1
        case measure => omega
        case rel =>
          have hn1 : (xi + 1).toNat = xi.toNat + 1 := by have := HP.out.1; omega
          refine ⟨pre ++ [(⟨xv, wrap64 (xv + 1), rl_, m_⟩ : S71)], wrap64 (m_ + 1), xi + 1, rfl, (by congr 1; (unfold wrap64; have := HN.out; have := HL.out; omega)), ⟨by have := HN.out; have := HP.out; refine ⟨?_, ?_, ?_, ?_⟩ <;> (try simp only [List.length_append, List.length_cons, List.length_nil]) <;> omega⟩, ⟨post2, by rw [hn1]; exact HD.out, by rw [HE.out, List.append_assoc]; rfl⟩, ⟨?_⟩, ⟨by repeat (first | (with_reducible first | exact HK.out | apply Kept.alloc | apply Kept.drewN | apply Kept.drew) | exact HK.out)⟩, ⟨by repeat (first | (with_reducible first | exact HB.out | apply below_alloc | apply pw_below_drewN | apply below_drew1) | exact HB.out)⟩⟩
          rw [hn1]
          (with_reducible repeat (first | apply Kd.S_alloc | apply Kd.S_drewN | apply Kd.S_drew))
          exact nk_back HH.out HN.out.2.2.2 (k71_mkM _ _ _ (⟨xv, wrap64 (xv + 1), rl_, m_⟩ : S71) HR.out)
    · have hdec : decide (xi < (l0.length : Int)) = false := decide_eq_false hi
      obtain ⟨post, H, hr⟩ := HA.out
      have HO1 := HO.out
      rw [List.drop_eq_nil_of_le (by omega)] at H HO1
      obtain ⟨rfl, rfl⟩ := Prod.mk.inj (Option.some.inj H)
      rw [List.append_nil] at HO1 hr
      subst hr
      have HS := Aside0.mk HO1
      clear H HO1 HA HO hi
      go_wp2
      go_ret
      exact ⟨rfl, by (with_reducible repeat (first | apply Kd.S_alloc | apply Kd.S_drewN | apply Kd.S_drew)); exact HS.out, by repeat (first | (with_reducible first | exact HB.out | apply below_alloc | apply pw_below_drewN | apply below_drew1) | exact HB.out), by repeat (first | (with_reducible first | exact HK.out | apply Kept.alloc | apply Kept.drewN | apply Kept.drew) | exact HK.out)⟩

/-! ### laws_markCloud: function 39 (by a program of this session: it hands its rows over one by one) -/
def laws_markCloud.f (k : Nat) (l0_0 : List (S114)) (a0_1 : Int) (l0_2 : List (S161)) (l0_3 : List (S71)) (a1 : Int) : Option (Int × (List (S114)) × (List (S161)) × (List (S71))) := (laws_markLogEntryS.f k l0_0 a1).bind fun p0_ => (laws_markEpochBoxes.f k a0_1 l0_2 p0_.1).bind fun p1_ => (laws_markSealedBundleS.f k l0_3 p1_.1).bind fun p2_ => some (p2_.1, p0_.2, p1_.2, p2_.2)
theorem laws_markCloud.mono : ∀ a0 a1 a2 a3 a4 k, LeO (laws_markCloud.f k a0 a1 a2 a3 a4) (laws_markCloud.f (k + 1) a0 a1 a2 a3 a4) := by
  intro a0 a1 a2 a3 a4 k
  unfold laws_markCloud.f
  exact LeO.bind (laws_markLogEntryS.mono _ _ _) (fun _ => LeO.bind (laws_markEpochBoxes.mono _ _ _ _) (fun _ => LeO.bind (laws_markSealedBundleS.mono _ _ _) (fun _ => LeO.refl _)))
set_option maxHeartbeats 8000000 in
set_option maxRecDepth 100000 in
theorem laws_markCloud.calls (k : Nat) (P0_0_ : Nat → Prop) (u9000_ : Value) (l0_0 : List (S114)) (a0_1 : Int) (P0_2_ : Nat → Prop) (u9001_ : Value) (l0_2 : List (S161)) (P0_3_ : Nat → Prop) (u9002_ : Value) (l0_3 : List (S71)) (a1 : Int) (r1 : Int) (r2 : List (S114)) (r3 : List (S161)) (r4 : List (S71)) (w0 w : World) (hB : Below w0.heap.size w0 w) (ho0_0 : Kd.R k114 114 w w0.heap.size P0_0_ u9000_ l0_0) (hp0_0_0_2 : ∀ k_, P0_0_ k_ → ¬ P0_2_ k_) (hp0_0_0_3 : ∀ k_, P0_0_ k_ → ¬ P0_3_ k_) (ho0_2 : Kd.S k161 161 w w0.heap.size P0_2_ u9001_ l0_2) (hp0_2_0_3 : ∀ k_, P0_2_ k_ → ¬ P0_3_ k_) (ho0_3 : Kd.S k71 71 w w0.heap.size P0_3_ u9002_ l0_3) (h : laws_markCloud.f k l0_0 a0_1 l0_2 l0_3 a1 = some (r1, r2, r3, r4)) :
    Calls Try.prog 39 #[.agg #[u9000_, .int .i64 a0_1, u9001_, u9002_], .int .i64 a1] w fun e w' => e = .returned (.int .i64 r1) ∧ Kd.R k114 114 w' w0.heap.size (fun k_ => P0_0_ k_) u9000_ r2 ∧ Kd.S k161 161 w' w0.heap.size (fun k_ => P0_2_ k_) u9001_ r3 ∧ Kd.S k71 71 w' w0.heap.size (fun k_ => P0_3_ k_) u9002_ r4 ∧ Below w0.heap.size w0 w' ∧ Kept w w' (fun k_ => P0_0_ k_ ∨ P0_2_ k_ ∨ P0_3_ k_) := by
  have hu49 := Try.underlying49
  have hu62 := Try.underlying62
  have HB := Aside0.mk hB
  have HK := Aside0.mk (Kept.refl w (fun k_ => P0_0_ k_ ∨ P0_2_ k_ ∨ P0_3_ k_))
  obtain ⟨okq0_0, hoo, hii⟩ := lk_Ri ho0_0
  obtain ⟨Aq0_0, cq0_0, rfl⟩ := Kd.R_slice hoo
  have HOq0_0 := Aside0.mk hoo
  have HIq0_0 := Aside0.mk hii
  clear hoo hii ho0_0
  obtain ⟨okq0_2, hoo, hii⟩ := lk_Si ho0_2
  obtain ⟨Aq0_2, cq0_2, rfl⟩ := Kd.S_slice hoo
  have HOq0_2 := Aside0.mk hoo
  have HIq0_2 := Aside0.mk hii
  clear hoo hii ho0_2
  obtain ⟨okq0_3, hoo, hii⟩ := lk_Si ho0_3
  obtain ⟨Aq0_3, cq0_3, rfl⟩ := Kd.S_slice hoo
  have HOq0_3 := Aside0.mk hoo
  have HIq0_3 := Aside0.mk hii
  clear hoo hii ho0_3
  have HPq0_0_q0_2 := Aside0.mk hp0_0_0_2
  have HPq0_2_q0_0 := Aside0.mk (fun k_ h1_ h2_ => hp0_0_0_2 k_ h2_ h1_ : ∀ k_, P0_2_ k_ → ¬ P0_0_ k_)
  clear hp0_0_0_2
  have HPq0_0_q0_3 := Aside0.mk hp0_0_0_3
  have HPq0_3_q0_0 := Aside0.mk (fun k_ h1_ h2_ => hp0_0_0_3 k_ h2_ h1_ : ∀ k_, P0_3_ k_ → ¬ P0_0_ k_)
  clear hp0_0_0_3
  have HPq0_2_q0_3 := Aside0.mk hp0_2_0_3
  have HPq0_3_q0_2 := Aside0.mk (fun k_ h1_ h2_ => hp0_2_0_3 k_ h2_ h1_ : ∀ k_, P0_3_ k_ → ¬ P0_2_ k_)
  clear hp0_2_0_3
  clear hB
  unfold laws_markCloud.f at h
  obtain ⟨⟨m0_, y0_⟩, C0, h⟩ := Option.bind_eq_some_iff.mp h
  have A0q := Aside0.mk C0
  clear C0
  obtain ⟨⟨m1_, y1_⟩, C1, h⟩ := Option.bind_eq_some_iff.mp h
  have A1q := Aside0.mk C1
  clear C1
  obtain ⟨⟨m2_, y2_⟩, C2, h⟩ := Option.bind_eq_some_iff.mp h
  have A2q := Aside0.mk C2
  clear C2
  simp only [Option.some.injEq, Prod.mk.injEq] at h
  obtain ⟨rfl, rfl, rfl, rfl⟩ := h
  go_enter Try.func39, Try.ntmps39
  go_wp2_with (first | ((with_reducible refine gate_dst (N := 2) rfl ?_); refine box_event ?hg (N := 2) ?hd (cs := #[.slice Aq0_0 l0_0.length cq0_0, .int .i64 a0_1, .slice Aq0_2 l0_2.length cq0_2, .slice Aq0_3 l0_3.length cq0_3]) (t := 62) ?hr ?_; (case hd => rfl); (case hg => rfl); (case hr => first | (go_simp; done) | (go_simp; rfl)); intro gb7001 hg wv1 hbox hb; have n0_ := Aside0.mk (Kd.R_kept HOq0_0.out (Kept.below (show Kept w w (fun k_ => False) from by repeat (first | (with_reducible first | exact Kept.refl _ _ | apply Kept.alloc | apply Kept.drewN | apply Kept.drew) | exact Kept.refl _ _)) hb) (fun _ _ hs_ => hs_.elim)); have n1_ := Aside0.mk (Kd.S_kept HOq0_2.out (Kept.below (show Kept w w (fun k_ => False) from by repeat (first | (with_reducible first | exact Kept.refl _ _ | apply Kept.alloc | apply Kept.drewN | apply Kept.drew) | exact Kept.refl _ _)) hb) (fun _ _ hs_ => hs_.elim)); have n2_ := Aside0.mk (Kd.S_kept HOq0_3.out (Kept.below (show Kept w w (fun k_ => False) from by repeat (first | (with_reducible first | exact Kept.refl _ _ | apply Kept.alloc | apply Kept.drewN | apply Kept.drew) | exact Kept.refl _ _)) hb) (fun _ _ hs_ => hs_.elim)); have n3_ := Aside0.mk (below_step (by repeat (first | (with_reducible first | exact HB.out | apply below_alloc | apply pw_below_drewN | apply below_drew1) | exact HB.out)) hb); have n4_ := Aside0.mk (Kept.then_ HK.out (Kept.below (show Kept w w (fun k_ => False) from by repeat (first | (with_reducible first | exact Kept.refl _ _ | apply Kept.alloc | apply Kept.drewN | apply Kept.drew) | exact Kept.refl _ _)) hb) (fun k_ hs_ => .inr (hs_.elim))); have n5_ := Aside0.mk (hbox); have n6_ := Aside0.mk ((by rw [hg]; exact Nat.le_trans HB.out.size ((show Kept w w (fun k_ => False) from by repeat (first | (with_reducible first | exact Kept.refl _ _ | apply Kept.alloc | apply Kept.drewN | apply Kept.drew) | exact Kept.refl _ _))).1 : w0.heap.size ≤ gb7001)); have n7_ := Aside0.mk ((⟨by rw [hg]; exact ((show Kept w w (fun k_ => False) from by repeat (first | (with_reducible first | exact Kept.refl _ _ | apply Kept.alloc | apply Kept.drewN | apply Kept.drew) | exact Kept.refl _ _))).1, blk_lt hbox⟩ : w.heap.size ≤ gb7001 ∧ gb7001 < wv1.heap.size)); have n8_ := Aside0.mk (((Kept.below (show Kept w w (fun k_ => False) from by repeat (first | (with_reducible first | exact Kept.refl _ _ | apply Kept.alloc | apply Kept.drewN | apply Kept.drew) | exact Kept.refl _ _)) hb).1 : w.heap.size ≤ wv1.heap.size)); clear HOq0_0; clear HOq0_2; clear HOq0_3; clear HB; clear HK; have HOq0_0 := n0_; have HOq0_2 := n1_; have HOq0_3 := n2_; have HB := n3_; have HK := n4_; have BK7001 := n5_; have GE7001 := n6_; have HG7001 := n7_; have HL1 := n8_; clear n0_ n1_ n2_ n3_ n4_ n5_ n6_ n7_ n8_; clear hb hbox hg; have hcz1_0 : wv1.cell? ⟨gb7001, 0, none⟩ = some (.slice Aq0_0 l0_0.length cq0_0) := (blk_cell BK7001.out 0).trans rfl; have hcz1_f0 := blk_frozen BK7001.out 0; have hcz1_1 : wv1.cell? ⟨gb7001, 1, none⟩ = some (.int .i64 a0_1) := (blk_cell BK7001.out 1).trans rfl; have hcz1_f1 := blk_frozen BK7001.out 1; have hcz1_2 : wv1.cell? ⟨gb7001, 2, none⟩ = some (.slice Aq0_2 l0_2.length cq0_2) := (blk_cell BK7001.out 2).trans rfl; have hcz1_f2 := blk_frozen BK7001.out 2; have hcz1_3 : wv1.cell? ⟨gb7001, 3, none⟩ = some (.slice Aq0_3 l0_3.length cq0_3) := (blk_cell BK7001.out 3).trans rfl; have hcz1_f3 := blk_frozen BK7001.out 3) | ((with_reducible refine gate_callee (f := 44) rfl ?_); refine goesL_ (some 8) rfl rfl Try.func44 (by kernel_rfl) rfl #[.slice Aq0_0 l0_0.length cq0_0, .int .i64 a1] rfl (by (try simp only [List.map_toArray, List.map_cons, List.map_nil]); first | done | rfl | (simp only [List.length_drop, List.length_take]; rfl)) ?_; (with_reducible refine (laws_markLogEntryS.calls k (fun k_ => some k_ = (.slice Aq0_0 l0_0.length cq0_0 : Value).ownBlock ∧ okq0_0 k_) (.slice Aq0_0 l0_0.length cq0_0) l0_0 a1 m0_ y0_ w0 _ ?side1 ?side2 A0q.out).mono ?_); (case side1 => repeat (first | (with_reducible first | exact HB.out | apply below_alloc | apply pw_below_drewN | apply below_drew1) | exact HB.out)); (case side2 => exact Kd.R_tight2 rfl (Kd.R_kept HOq0_0.out (show Kept wv1 wv1 (fun k_ => False) from by repeat (first | (with_reducible first | exact Kept.refl _ _ | apply Kept.alloc | apply Kept.drewN | apply Kept.drew) | exact Kept.refl _ _)) (fun _ _ hs_ => hs_.elim))); rintro e wv2 ⟨rfl, hy0, hb, hkp⟩; refine ⟨_, rfl, ?_⟩; have hkW := (show Kept wv1 wv1 (fun k_ => False) from by repeat (first | (with_reducible first | exact Kept.refl _ _ | apply Kept.alloc | apply Kept.drewN | apply Kept.drew) | exact Kept.refl _ _)); have n0_ := Aside0.mk (Kd.R_reok rfl hy0 (fun k_ e_ => HOq0_0.out.1 k_ e_)); have n1_ := Aside0.mk (Kd.S_kept (Kd.S_kept HOq0_2.out hkW (fun _ _ hs_ => hs_.elim)) hkp (fun k_ hk_ hs_ => (have i_ := HIq0_2.out k_ hk_; (have j_ := HIq0_0.out _ (hs_).2; HPq0_2_q0_0.out _ i_.2 j_.2)))); have n2_ := Aside0.mk (Kd.S_kept (Kd.S_kept HOq0_3.out hkW (fun _ _ hs_ => hs_.elim)) hkp (fun k_ hk_ hs_ => (have i_ := HIq0_3.out k_ hk_; (have j_ := HIq0_0.out _ (hs_).2; HPq0_3_q0_0.out _ i_.2 j_.2)))); have n3_ := Aside0.mk (blk_kept (blk_kept BK7001.out (show Kept wv1 wv1 (fun k_ => False) from by repeat (first | (with_reducible first | exact Kept.refl _ _ | apply Kept.alloc | apply Kept.drewN | apply Kept.drew) | exact Kept.refl _ _)) (fun hs_ => hs_.elim)) hkp (fun hs_ => (have i_ := HG7001.out; (have j_ := HIq0_0.out _ (hs_).2; by have z0_ := HL1.out; omega)))); have n4_ := Aside0.mk (Kept.then_ (Kept.then_ HK.out hkW (fun k_ hs_ => .inr (hs_.elim))) hkp (fun k_ hs_ => .inl ((.inl (HIq0_0.out k_ hs_.2).2)))); have n5_ := Aside0.mk (hb); have n6_ := Aside0.mk ((Nat.le_trans hkW.1 hkp.1 : wv1.heap.size ≤ wv2.heap.size)); clear HOq0_0; clear HOq0_2; clear HOq0_3; clear BK7001; clear HK; clear HB; have HOq0_0 := n0_; have HOq0_2 := n1_; have HOq0_3 := n2_; have BK7001 := n3_; have HK := n4_; have HB := n5_; have HL2 := n6_; clear n0_ n1_ n2_ n3_ n4_ n5_ n6_; (try clear hb); (try clear hkW); (try clear hk2); (try clear hkp); (try clear hy0); have hcz2_0 : wv2.cell? ⟨gb7001, 0, none⟩ = some (.slice Aq0_0 l0_0.length cq0_0) := (blk_cell BK7001.out 0).trans rfl; have hcz2_f0 := blk_frozen BK7001.out 0; have hcz2_1 : wv2.cell? ⟨gb7001, 1, none⟩ = some (.int .i64 a0_1) := (blk_cell BK7001.out 1).trans rfl; have hcz2_f1 := blk_frozen BK7001.out 1; have hcz2_2 : wv2.cell? ⟨gb7001, 2, none⟩ = some (.slice Aq0_2 l0_2.length cq0_2) := (blk_cell BK7001.out 2).trans rfl; have hcz2_f2 := blk_frozen BK7001.out 2; have hcz2_3 : wv2.cell? ⟨gb7001, 3, none⟩ = some (.slice Aq0_3 l0_3.length cq0_3) := (blk_cell BK7001.out 3).trans rfl; have hcz2_f3 := blk_frozen BK7001.out 3) | ((with_reducible refine gate_callee (f := 61) rfl ?_); refine goesL_ (some 12) rfl rfl Try.func61 (by kernel_rfl) rfl #[.agg #[.int .i64 a0_1, .slice Aq0_2 l0_2.length cq0_2], .int .i64 m0_] rfl (by (try simp only [List.map_toArray, List.map_cons, List.map_nil]); first | done | rfl | (simp only [List.length_drop, List.length_take]; rfl)) ?_; (with_reducible refine (laws_markEpochBoxes.calls k a0_1 (fun k_ => okq0_2 k_) (.slice Aq0_2 l0_2.length cq0_2) l0_2 m0_ m1_ y1_ w0 _ ?side1 ?side2 A1q.out).mono ?_); (case side1 => repeat (first | (with_reducible first | exact HB.out | apply below_alloc | apply pw_below_drewN | apply below_drew1) | exact HB.out)); (case side2 => exact (Kd.S_kept HOq0_2.out (show Kept wv2 wv2 (fun k_ => False) from by repeat (first | (with_reducible first | exact Kept.refl _ _ | apply Kept.alloc | apply Kept.drewN | apply Kept.drew) | exact Kept.refl _ _)) (fun _ _ hs_ => hs_.elim))); rintro e wv3 ⟨rfl, hy0, hb, hkp⟩; refine ⟨_, rfl, ?_⟩; have hkW := (show Kept wv2 wv2 (fun k_ => False) from by repeat (first | (with_reducible first | exact Kept.refl _ _ | apply Kept.alloc | apply Kept.drewN | apply Kept.drew) | exact Kept.refl _ _)); have n0_ := Aside0.mk (Kd.R_kept (Kd.R_kept HOq0_0.out hkW (fun _ _ hs_ => hs_.elim)) hkp (fun k_ hk_ hs_ => (have i_ := HIq0_0.out k_ hk_; (have j_ := HIq0_2.out _ hs_; HPq0_0_q0_2.out _ i_.2 j_.2)))); have n1_ := Aside0.mk (hy0); have n2_ := Aside0.mk (Kd.S_kept (Kd.S_kept HOq0_3.out hkW (fun _ _ hs_ => hs_.elim)) hkp (fun k_ hk_ hs_ => (have i_ := HIq0_3.out k_ hk_; (have j_ := HIq0_2.out _ hs_; HPq0_3_q0_2.out _ i_.2 j_.2)))); have n3_ := Aside0.mk (blk_kept (blk_kept BK7001.out (show Kept wv2 wv2 (fun k_ => False) from by repeat (first | (with_reducible first | exact Kept.refl _ _ | apply Kept.alloc | apply Kept.drewN | apply Kept.drew) | exact Kept.refl _ _)) (fun hs_ => hs_.elim)) hkp (fun hs_ => (have i_ := HG7001.out; (have j_ := HIq0_2.out _ hs_; by have z0_ := HL1.out; have z1_ := HL2.out; omega)))); have n4_ := Aside0.mk (Kept.then_ (Kept.then_ HK.out hkW (fun k_ hs_ => .inr (hs_.elim))) hkp (fun k_ hs_ => .inl ((.inr (.inl (HIq0_2.out k_ hs_).2))))); have n5_ := Aside0.mk (hb); have n6_ := Aside0.mk ((Nat.le_trans hkW.1 hkp.1 : wv2.heap.size ≤ wv3.heap.size)); clear HOq0_0; clear HOq0_2; clear HOq0_3; clear BK7001; clear HK; clear HB; have HOq0_0 := n0_; have HOq0_2 := n1_; have HOq0_3 := n2_; have BK7001 := n3_; have HK := n4_; have HB := n5_; have HL3 := n6_; clear n0_ n1_ n2_ n3_ n4_ n5_ n6_; (try clear hb); (try clear hkW); (try clear hk2); (try clear hkp); (try clear hy0); have hcz3_0 : wv3.cell? ⟨gb7001, 0, none⟩ = some (.slice Aq0_0 l0_0.length cq0_0) := (blk_cell BK7001.out 0).trans rfl; have hcz3_f0 := blk_frozen BK7001.out 0; have hcz3_1 : wv3.cell? ⟨gb7001, 1, none⟩ = some (.int .i64 a0_1) := (blk_cell BK7001.out 1).trans rfl; have hcz3_f1 := blk_frozen BK7001.out 1; have hcz3_2 : wv3.cell? ⟨gb7001, 2, none⟩ = some (.slice Aq0_2 l0_2.length cq0_2) := (blk_cell BK7001.out 2).trans rfl; have hcz3_f2 := blk_frozen BK7001.out 2; have hcz3_3 : wv3.cell? ⟨gb7001, 3, none⟩ = some (.slice Aq0_3 l0_3.length cq0_3) := (blk_cell BK7001.out 3).trans rfl; have hcz3_f3 := blk_frozen BK7001.out 3) | ((with_reducible refine gate_callee (f := 107) rfl ?_); refine goesL_ (some 16) rfl rfl Try.func107 (by kernel_rfl) rfl #[.slice Aq0_3 l0_3.length cq0_3, .int .i64 m1_] rfl (by (try simp only [List.map_toArray, List.map_cons, List.map_nil]); first | done | rfl | (simp only [List.length_drop, List.length_take]; rfl)) ?_; (with_reducible refine (laws_markSealedBundleS.calls k (fun k_ => okq0_3 k_) (.slice Aq0_3 l0_3.length cq0_3) l0_3 m1_ m2_ y2_ w0 _ ?side1 ?side2 A2q.out).mono ?_); (case side1 => repeat (first | (with_reducible first | exact HB.out | apply below_alloc | apply pw_below_drewN | apply below_drew1) | exact HB.out)); (case side2 => exact (Kd.S_kept HOq0_3.out (show Kept wv3 wv3 (fun k_ => False) from by repeat (first | (with_reducible first | exact Kept.refl _ _ | apply Kept.alloc | apply Kept.drewN | apply Kept.drew) | exact Kept.refl _ _)) (fun _ _ hs_ => hs_.elim))); rintro e wv4 ⟨rfl, hy0, hb, hkp⟩; refine ⟨_, rfl, ?_⟩; have hkW := (show Kept wv3 wv3 (fun k_ => False) from by repeat (first | (with_reducible first | exact Kept.refl _ _ | apply Kept.alloc | apply Kept.drewN | apply Kept.drew) | exact Kept.refl _ _)); have n0_ := Aside0.mk (Kd.R_kept (Kd.R_kept HOq0_0.out hkW (fun _ _ hs_ => hs_.elim)) hkp (fun k_ hk_ hs_ => (have i_ := HIq0_0.out k_ hk_; (have j_ := HIq0_3.out _ hs_; HPq0_0_q0_3.out _ i_.2 j_.2)))); have n1_ := Aside0.mk (Kd.S_kept (Kd.S_kept HOq0_2.out hkW (fun _ _ hs_ => hs_.elim)) hkp (fun k_ hk_ hs_ => (have i_ := HIq0_2.out k_ hk_; (have j_ := HIq0_3.out _ hs_; HPq0_2_q0_3.out _ i_.2 j_.2)))); have n2_ := Aside0.mk (hy0); have n3_ := Aside0.mk (blk_kept (blk_kept BK7001.out (show Kept wv3 wv3 (fun k_ => False) from by repeat (first | (with_reducible first | exact Kept.refl _ _ | apply Kept.alloc | apply Kept.drewN | apply Kept.drew) | exact Kept.refl _ _)) (fun hs_ => hs_.elim)) hkp (fun hs_ => (have i_ := HG7001.out; (have j_ := HIq0_3.out _ hs_; by have z0_ := HL1.out; have z1_ := HL2.out; have z2_ := HL3.out; omega)))); have n4_ := Aside0.mk (Kept.then_ (Kept.then_ HK.out hkW (fun k_ hs_ => .inr (hs_.elim))) hkp (fun k_ hs_ => .inl ((.inr (.inr (HIq0_3.out k_ hs_).2))))); have n5_ := Aside0.mk (hb); have n6_ := Aside0.mk ((Nat.le_trans hkW.1 hkp.1 : wv3.heap.size ≤ wv4.heap.size)); clear HOq0_0; clear HOq0_2; clear HOq0_3; clear BK7001; clear HK; clear HB; have HOq0_0 := n0_; have HOq0_2 := n1_; have HOq0_3 := n2_; have BK7001 := n3_; have HK := n4_; have HB := n5_; have HL4 := n6_; clear n0_ n1_ n2_ n3_ n4_ n5_ n6_; (try clear hb); (try clear hkW); (try clear hk2); (try clear hkp); (try clear hy0); have hcz4_0 : wv4.cell? ⟨gb7001, 0, none⟩ = some (.slice Aq0_0 l0_0.length cq0_0) := (blk_cell BK7001.out 0).trans rfl; have hcz4_f0 := blk_frozen BK7001.out 0; have hcz4_1 : wv4.cell? ⟨gb7001, 1, none⟩ = some (.int .i64 a0_1) := (blk_cell BK7001.out 1).trans rfl; have hcz4_f1 := blk_frozen BK7001.out 1; have hcz4_2 : wv4.cell? ⟨gb7001, 2, none⟩ = some (.slice Aq0_2 l0_2.length cq0_2) := (blk_cell BK7001.out 2).trans rfl; have hcz4_f2 := blk_frozen BK7001.out 2; have hcz4_3 : wv4.cell? ⟨gb7001, 3, none⟩ = some (.slice Aq0_3 l0_3.length cq0_3) := (blk_cell BK7001.out 3).trans rfl; have hcz4_f3 := blk_frozen BK7001.out 3))
  go_ret
  exact ⟨rfl, Kd.R_mono (Kd.R_kept HOq0_0.out (show Kept wv4 wv4 (fun k_ => False) from by repeat (first | (with_reducible first | exact Kept.refl _ _ | apply Kept.alloc | apply Kept.drewN | apply Kept.drew) | exact Kept.refl _ _)) (fun _ _ hs_ => hs_.elim)) (fun k_ hk_ => (HIq0_0.out k_ hk_).2), Kd.S_mono (Kd.S_kept HOq0_2.out (show Kept wv4 wv4 (fun k_ => False) from by repeat (first | (with_reducible first | exact Kept.refl _ _ | apply Kept.alloc | apply Kept.drewN | apply Kept.drew) | exact Kept.refl _ _)) (fun _ _ hs_ => hs_.elim)) (fun k_ hk_ => (HIq0_2.out k_ hk_).2), Kd.S_mono (Kd.S_kept HOq0_3.out (show Kept wv4 wv4 (fun k_ => False) from by repeat (first | (with_reducible first | exact Kept.refl _ _ | apply Kept.alloc | apply Kept.drewN | apply Kept.drew) | exact Kept.refl _ _)) (fun _ _ hs_ => hs_.elim)) (fun k_ hk_ => (HIq0_3.out k_ hk_).2), by repeat (first | (with_reducible first | exact HB.out | apply below_alloc | apply pw_below_drewN | apply below_drew1) | exact HB.out), Kept.then_ HK.out (show Kept wv4 wv4 (fun k_ => False) from by repeat (first | (with_reducible first | exact Kept.refl _ _ | apply Kept.alloc | apply Kept.drewN | apply Kept.drew) | exact Kept.refl _ _)) (fun k_ hs_ => .inr (hs_.elim))⟩

/-! ### spec_l19Has: function 147 -/
def spec_l19Has.l0 : Nat → List Int → Int → Int → Option (Bool)
  | 0, _, _, _ => none
  | k + 1, x0, x1, x5 => if x5 < (x0.length : Int) then (if 0 ≤ x5 then (if (rd x0 x5) = x1 then (some true) else (spec_l19Has.l0 k x0 x1 (wrap64 (x5 + 1)))) else (none)) else (some false)
def spec_l19Has.f (k : Nat) (l0 : List Int) (a1 : Int) : Option (Bool) := spec_l19Has.l0 k l0 a1 0
theorem spec_l19Has.mono_l : ∀ k, (∀ y0 y1 y2, LeO (spec_l19Has.l0 k y0 y1 y2) (spec_l19Has.l0 (k + 1) y0 y1 y2))
  | 0 => fun _ _ _ r h => by simp [spec_l19Has.l0] at h
  | k + 1 => by
    have ih0 := spec_l19Has.mono_l k
    · intro y0 y1 y2
      unfold spec_l19Has.l0
      repeat' first
      | (with_reducible exact ih0 _ _ _)
      | (with_reducible exact LeO.refl _)
      | (with_reducible exact LeO.none _)
      | (with_reducible refine LeO.ite ?_ ?_)
      | (with_reducible refine LeO.bind ?_ (fun _ => ?_))
      | exact ih0 _ _ _
      | exact LeO.none _
      | refine LeO.ite ?_ ?_
      | refine LeO.bind ?_ (fun _ => ?_)
theorem spec_l19Has.mono : ∀ a0 a1 k, LeO (spec_l19Has.f k a0 a1) (spec_l19Has.f (k + 1) a0 a1) := by
  intro a0 a1 k
  have ih0 := spec_l19Has.mono_l k
  unfold spec_l19Has.f
  repeat' first
      | (with_reducible exact ih0 _ _ _)
      | (with_reducible exact LeO.refl _)
      | (with_reducible exact LeO.none _)
      | (with_reducible refine LeO.ite ?_ ?_)
      | (with_reducible refine LeO.bind ?_ (fun _ => ?_))
      | exact ih0 _ _ _
      | exact LeO.none _
      | refine LeO.ite ?_ ?_
      | refine LeO.bind ?_ (fun _ => ?_)
set_option maxHeartbeats 8000000 in
set_option maxRecDepth 100000 in
theorem spec_l19Has.calls (k : Nat) (A0 : Option Addr) (c0 : Nat) (l0 : List Int) (a1 : Int) (r : Bool) (w : World) (hr0 : Kd.C (Kd.int .i64) w A0 l0.length l0) (hc0 : l0.length ≤ c0) (h : spec_l19Has.f k l0 a1 = some r) :
    Calls Try.prog 147 #[.slice A0 l0.length c0, .int .i64 a1] w fun e w' => e = .returned (.bool r) ∧ Drawn0 w w' := by
  have HR0 := Aside0.mk hr0
  have HC0 := Aside0.mk hc0
  clear hr0 hc0
  have H : (spec_l19Has.l0 k l0 a1 0) = some r := h
  clear h
  have H' := Aside0.mk H
  clear H
  go_enter Try.func147, Try.ntmps147
  go_wp2
  go_loopg [5] k (fun kq v5 w' => ∃ (x5_1 : Int), v5 = .int .i64 x5_1 ∧ Aside0 (spec_l19Has.l0 kq l0 a1 x5_1 = some r) ∧ Aside0 (kq ≤ k) ∧ Drawn0 w w')
  case atStart => exact ⟨(0), (by first | rfl | (simp; done) | (simp [*]; done)), H', ⟨Nat.le_refl _⟩, by repeat (first | exact Drawn0.refl _ | apply Drawn0.step)⟩
  case round =>
    clear H'
    try clear c1
    try clear p2
    obtain ⟨x5_1, rfl, HA, HK1, ⟨m1, rfl⟩⟩ := hrel
    cases gk with
    | zero => exact absurd HA.out (by simp [spec_l19Has.l0])
    | succ k1 =>
      have H := HA.out
      clear HA
      simp only [spec_l19Has.l0] at H
      by_cases c3 : x5_1 < (l0.length : Int)
      · rw [if_pos c3] at H
        have c3b0 : decide (x5_1 < (l0.length : Int)) = true := decide_eq_true c3
        clear c3
        by_cases c4 : 0 ≤ x5_1
        · rw [if_pos c4] at H
          have c4b0 : decide (0 ≤ x5_1) = true := decide_eq_true c4
          clear c4
          by_cases c5 : (rd l0 x5_1) = a1
          · rw [if_pos c5] at H
            have c5b0 : ((rd l0 x5_1) == a1) = true := beq_iff_eq.mpr c5
            have c5b1 : ((rd l0 x5_1) != a1) = false := bne_eq_false_iff_eq.mpr c5
            clear c5
            obtain rfl := Option.some.inj H
            have p221 : 0 ≤ (x5_1 : Int) := of_decide_eq_true (by first | (with_reducible assumption) | assumption)
            have q221 : x5_1 < (l0.length : Int) := of_decide_eq_true (by first | (with_reducible assumption) | assumption)
            obtain ⟨ad221, e221, hx221_0⟩ := Kd.at_int HR0.out x5_1 p221 q221
            cases e221
            replace p221 := eq_true p221
            replace q221 := eq_true q221
            go_wp2
            go_ret
            exact ⟨by first | rfl | (simp; done) | (simp [*]; done), by repeat (first | exact Drawn0.refl _ | apply Drawn0.step)⟩
          · rw [if_neg c5] at H
            have c5b0 : ((rd l0 x5_1) == a1) = false := beq_eq_false_iff_ne.mpr c5
            have c5b1 : ((rd l0 x5_1) != a1) = true := bne_iff_ne.mpr c5
            have H' := Aside0.mk H
            clear H
            have p221 : 0 ≤ (x5_1 : Int) := of_decide_eq_true (by first | (with_reducible assumption) | assumption)
            have q221 : x5_1 < (l0.length : Int) := of_decide_eq_true (by first | (with_reducible assumption) | assumption)
            obtain ⟨ad221, e221, hx221_0⟩ := Kd.at_int HR0.out x5_1 p221 q221
            cases e221
            replace p221 := eq_true p221
            replace q221 := eq_true q221
            go_wp2
            go_roundg k1
            case measure => have := HK1.out; omega
            case rel => exact ⟨(wrap64 (x5_1 + 1)), (by first | rfl | (simp; done) | (simp [*]; done)), H', ⟨by have := HK1.out; omega⟩, by repeat (first | exact Drawn0.refl _ | apply Drawn0.step)⟩
        · rw [if_neg c4] at H
          exact absurd H (by simp)
      · rw [if_neg c3] at H
        have c3b0 : decide (x5_1 < (l0.length : Int)) = false := decide_eq_false c3
        clear c3
        obtain rfl := Option.some.inj H
        go_wp2
        go_ret
        exact ⟨by first | rfl | (simp; done) | (simp [*]; done), by repeat (first | exact Drawn0.refl _ | apply Drawn0.step)⟩

end Go.Proofs.Ytkmndimmglghoaa.PFnExactCloudView
