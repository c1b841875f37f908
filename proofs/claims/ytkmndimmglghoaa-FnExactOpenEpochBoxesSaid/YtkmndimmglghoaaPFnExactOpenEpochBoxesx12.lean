-- Made by a program of this session, after the kit's print of the translation. Lean checks it.
import Derived.Test.YtkmndimmglghoaaPFnExactOpenEpochBoxesx0
import Derived.Test.YtkmndimmglghoaaPFnExactOpenEpochBoxesx1
import Derived.Test.YtkmndimmglghoaaPFnExactOpenEpochBoxesx2
import Derived.Test.YtkmndimmglghoaaPFnExactOpenEpochBoxesx6
import Derived.Test.YtkmndimmglghoaaPFnExactOpenEpochBoxesx7
import Derived.Test.YtkmndimmglghoaaPFnExactOpenEpochBoxesx11
namespace Go.Proofs.Ytkmndimmglghoaa.PFnExactOpenEpochBoxes
open Go.RowKit Go.Proofs.YtkmndimmglghoaaW.PrintWords Go.Proofs.YtkmndimmglghoaaW.PrintLast Go.Proofs.YtkmndimmglghoaaW.PrintMore
attribute [local go_sem] max2_int min2_int max_two min_two max_three min_three max_four min_four   -- for this text's walks alone
set_option linter.unusedVariables false
set_option linter.unusedSimpArgs false


/-! ### what a law's walk needs: rows by intervals of blocks -/
theorem lk_R {α : Type} {d : Kd α} {e b n1 a : Nat} {ok : Nat → Prop} {w' : World} {v : Value} {xs : List α} (h : d.R e w' n1 ok v xs) (ha : a ≤ n1) (hb : b ≤ n1) : ∃ ok' : Nat → Prop, d.R e w' b ok' v xs ∧ ∀ k, ok' k → (a ≤ k ∧ k < w'.heap.size) ∧ ok k :=
  ⟨_, Kd.R_lower (Kd.R_bound h) hb, fun _ hk => ⟨⟨Nat.le_trans ha hk.2.1, hk.2.2.1⟩, hk.1⟩⟩
theorem lk_S {α : Type} {d : Kd α} {e b n1 a : Nat} {ok : Nat → Prop} {w' : World} {v : Value} {xs : List α} (h : Kd.S d e w' n1 ok v xs) (ha : a ≤ n1) (hb : b ≤ n1) : ∃ ok' : Nat → Prop, Kd.S d e w' b ok' v xs ∧ ∀ k, ok' k → (a ≤ k ∧ k < w'.heap.size) ∧ ok k :=
  ⟨_, Kd.S_lower (Kd.S_bound h) hb, fun _ hk => ⟨⟨Nat.le_trans ha hk.2.1, hk.2.2.1⟩, hk.1⟩⟩
theorem lk_Ri {α : Type} {d : Kd α} {e b : Nat} {ok : Nat → Prop} {w' : World} {v : Value} {xs : List α} (h : d.R e w' b ok v xs) : ∃ ok' : Nat → Prop, d.R e w' b ok' v xs ∧ ∀ k, ok' k → k < w'.heap.size ∧ ok k :=
  ⟨_, Kd.R_bound h, fun _ hk => ⟨hk.2.2.1, hk.1⟩⟩
theorem lk_Si {α : Type} {d : Kd α} {e b : Nat} {ok : Nat → Prop} {w' : World} {v : Value} {xs : List α} (h : Kd.S d e w' b ok v xs) : ∃ ok' : Nat → Prop, Kd.S d e w' b ok' v xs ∧ ∀ k, ok' k → k < w'.heap.size ∧ ok k :=
  ⟨_, Kd.S_bound h, fun _ hk => ⟨hk.2.2.1, hk.1⟩⟩
theorem lk_c2 {w : World} {g : Nat} {t : TypeId} {v0 v1 : Value} (h : w.heap[g]? = some (.cells #[v0, v1] t (0, 0))) : w.cell? ⟨g, 0, none⟩ = some v0 ∧ w.cell? ⟨g, 1, none⟩ = some v1 ∧ w.frozen? ⟨g, 0, none⟩ = false ∧ w.frozen? ⟨g, 1, none⟩ = false := ⟨(blk_cell h 0).trans rfl, (blk_cell h 1).trans rfl, blk_frozen h 0, blk_frozen h 1⟩
theorem lk_c3 {w : World} {g : Nat} {t : TypeId} {v0 v1 v2 : Value} (h : w.heap[g]? = some (.cells #[v0, v1, v2] t (0, 0))) : w.cell? ⟨g, 0, none⟩ = some v0 ∧ w.cell? ⟨g, 1, none⟩ = some v1 ∧ w.cell? ⟨g, 2, none⟩ = some v2 ∧ w.frozen? ⟨g, 0, none⟩ = false ∧ w.frozen? ⟨g, 1, none⟩ = false ∧ w.frozen? ⟨g, 2, none⟩ = false := ⟨(blk_cell h 0).trans rfl, (blk_cell h 1).trans rfl, (blk_cell h 2).trans rfl, blk_frozen h 0, blk_frozen h 1, blk_frozen h 2⟩
theorem lk_c4 {w : World} {g : Nat} {t : TypeId} {v0 v1 v2 v3 : Value} (h : w.heap[g]? = some (.cells #[v0, v1, v2, v3] t (0, 0))) : w.cell? ⟨g, 0, none⟩ = some v0 ∧ w.cell? ⟨g, 1, none⟩ = some v1 ∧ w.cell? ⟨g, 2, none⟩ = some v2 ∧ w.cell? ⟨g, 3, none⟩ = some v3 ∧ w.frozen? ⟨g, 0, none⟩ = false ∧ w.frozen? ⟨g, 1, none⟩ = false ∧ w.frozen? ⟨g, 2, none⟩ = false ∧ w.frozen? ⟨g, 3, none⟩ = false := ⟨(blk_cell h 0).trans rfl, (blk_cell h 1).trans rfl, (blk_cell h 2).trans rfl, (blk_cell h 3).trans rfl, blk_frozen h 0, blk_frozen h 1, blk_frozen h 2, blk_frozen h 3⟩
theorem lk_c5 {w : World} {g : Nat} {t : TypeId} {v0 v1 v2 v3 v4 : Value} (h : w.heap[g]? = some (.cells #[v0, v1, v2, v3, v4] t (0, 0))) : w.cell? ⟨g, 0, none⟩ = some v0 ∧ w.cell? ⟨g, 1, none⟩ = some v1 ∧ w.cell? ⟨g, 2, none⟩ = some v2 ∧ w.cell? ⟨g, 3, none⟩ = some v3 ∧ w.cell? ⟨g, 4, none⟩ = some v4 ∧ w.frozen? ⟨g, 0, none⟩ = false ∧ w.frozen? ⟨g, 1, none⟩ = false ∧ w.frozen? ⟨g, 2, none⟩ = false ∧ w.frozen? ⟨g, 3, none⟩ = false ∧ w.frozen? ⟨g, 4, none⟩ = false := ⟨(blk_cell h 0).trans rfl, (blk_cell h 1).trans rfl, (blk_cell h 2).trans rfl, (blk_cell h 3).trans rfl, (blk_cell h 4).trans rfl, blk_frozen h 0, blk_frozen h 1, blk_frozen h 2, blk_frozen h 3, blk_frozen h 4⟩
theorem lk_c6 {w : World} {g : Nat} {t : TypeId} {v0 v1 v2 v3 v4 v5 : Value} (h : w.heap[g]? = some (.cells #[v0, v1, v2, v3, v4, v5] t (0, 0))) : w.cell? ⟨g, 0, none⟩ = some v0 ∧ w.cell? ⟨g, 1, none⟩ = some v1 ∧ w.cell? ⟨g, 2, none⟩ = some v2 ∧ w.cell? ⟨g, 3, none⟩ = some v3 ∧ w.cell? ⟨g, 4, none⟩ = some v4 ∧ w.cell? ⟨g, 5, none⟩ = some v5 ∧ w.frozen? ⟨g, 0, none⟩ = false ∧ w.frozen? ⟨g, 1, none⟩ = false ∧ w.frozen? ⟨g, 2, none⟩ = false ∧ w.frozen? ⟨g, 3, none⟩ = false ∧ w.frozen? ⟨g, 4, none⟩ = false ∧ w.frozen? ⟨g, 5, none⟩ = false := ⟨(blk_cell h 0).trans rfl, (blk_cell h 1).trans rfl, (blk_cell h 2).trans rfl, (blk_cell h 3).trans rfl, (blk_cell h 4).trans rfl, (blk_cell h 5).trans rfl, blk_frozen h 0, blk_frozen h 1, blk_frozen h 2, blk_frozen h 3, blk_frozen h 4, blk_frozen h 5⟩
theorem lk_c7 {w : World} {g : Nat} {t : TypeId} {v0 v1 v2 v3 v4 v5 v6 : Value} (h : w.heap[g]? = some (.cells #[v0, v1, v2, v3, v4, v5, v6] t (0, 0))) : w.cell? ⟨g, 0, none⟩ = some v0 ∧ w.cell? ⟨g, 1, none⟩ = some v1 ∧ w.cell? ⟨g, 2, none⟩ = some v2 ∧ w.cell? ⟨g, 3, none⟩ = some v3 ∧ w.cell? ⟨g, 4, none⟩ = some v4 ∧ w.cell? ⟨g, 5, none⟩ = some v5 ∧ w.cell? ⟨g, 6, none⟩ = some v6 ∧ w.frozen? ⟨g, 0, none⟩ = false ∧ w.frozen? ⟨g, 1, none⟩ = false ∧ w.frozen? ⟨g, 2, none⟩ = false ∧ w.frozen? ⟨g, 3, none⟩ = false ∧ w.frozen? ⟨g, 4, none⟩ = false ∧ w.frozen? ⟨g, 5, none⟩ = false ∧ w.frozen? ⟨g, 6, none⟩ = false := ⟨(blk_cell h 0).trans rfl, (blk_cell h 1).trans rfl, (blk_cell h 2).trans rfl, (blk_cell h 3).trans rfl, (blk_cell h 4).trans rfl, (blk_cell h 5).trans rfl, (blk_cell h 6).trans rfl, blk_frozen h 0, blk_frozen h 1, blk_frozen h 2, blk_frozen h 3, blk_frozen h 4, blk_frozen h 5, blk_frozen h 6⟩
theorem lk_c9 {w : World} {g : Nat} {t : TypeId} {v0 v1 v2 v3 v4 v5 v6 v7 v8 : Value} (h : w.heap[g]? = some (.cells #[v0, v1, v2, v3, v4, v5, v6, v7, v8] t (0, 0))) : w.cell? ⟨g, 0, none⟩ = some v0 ∧ w.cell? ⟨g, 1, none⟩ = some v1 ∧ w.cell? ⟨g, 2, none⟩ = some v2 ∧ w.cell? ⟨g, 3, none⟩ = some v3 ∧ w.cell? ⟨g, 4, none⟩ = some v4 ∧ w.cell? ⟨g, 5, none⟩ = some v5 ∧ w.cell? ⟨g, 6, none⟩ = some v6 ∧ w.cell? ⟨g, 7, none⟩ = some v7 ∧ w.cell? ⟨g, 8, none⟩ = some v8 ∧ w.frozen? ⟨g, 0, none⟩ = false ∧ w.frozen? ⟨g, 1, none⟩ = false ∧ w.frozen? ⟨g, 2, none⟩ = false ∧ w.frozen? ⟨g, 3, none⟩ = false ∧ w.frozen? ⟨g, 4, none⟩ = false ∧ w.frozen? ⟨g, 5, none⟩ = false ∧ w.frozen? ⟨g, 6, none⟩ = false ∧ w.frozen? ⟨g, 7, none⟩ = false ∧ w.frozen? ⟨g, 8, none⟩ = false := ⟨(blk_cell h 0).trans rfl, (blk_cell h 1).trans rfl, (blk_cell h 2).trans rfl, (blk_cell h 3).trans rfl, (blk_cell h 4).trans rfl, (blk_cell h 5).trans rfl, (blk_cell h 6).trans rfl, (blk_cell h 7).trans rfl, (blk_cell h 8).trans rfl, blk_frozen h 0, blk_frozen h 1, blk_frozen h 2, blk_frozen h 3, blk_frozen h 4, blk_frozen h 5, blk_frozen h 6, blk_frozen h 7, blk_frozen h 8⟩
theorem lk_c10 {w : World} {g : Nat} {t : TypeId} {v0 v1 v2 v3 v4 v5 v6 v7 v8 v9 : Value} (h : w.heap[g]? = some (.cells #[v0, v1, v2, v3, v4, v5, v6, v7, v8, v9] t (0, 0))) : w.cell? ⟨g, 0, none⟩ = some v0 ∧ w.cell? ⟨g, 1, none⟩ = some v1 ∧ w.cell? ⟨g, 2, none⟩ = some v2 ∧ w.cell? ⟨g, 3, none⟩ = some v3 ∧ w.cell? ⟨g, 4, none⟩ = some v4 ∧ w.cell? ⟨g, 5, none⟩ = some v5 ∧ w.cell? ⟨g, 6, none⟩ = some v6 ∧ w.cell? ⟨g, 7, none⟩ = some v7 ∧ w.cell? ⟨g, 8, none⟩ = some v8 ∧ w.cell? ⟨g, 9, none⟩ = some v9 ∧ w.frozen? ⟨g, 0, none⟩ = false ∧ w.frozen? ⟨g, 1, none⟩ = false ∧ w.frozen? ⟨g, 2, none⟩ = false ∧ w.frozen? ⟨g, 3, none⟩ = false ∧ w.frozen? ⟨g, 4, none⟩ = false ∧ w.frozen? ⟨g, 5, none⟩ = false ∧ w.frozen? ⟨g, 6, none⟩ = false ∧ w.frozen? ⟨g, 7, none⟩ = false ∧ w.frozen? ⟨g, 8, none⟩ = false ∧ w.frozen? ⟨g, 9, none⟩ = false := ⟨(blk_cell h 0).trans rfl, (blk_cell h 1).trans rfl, (blk_cell h 2).trans rfl, (blk_cell h 3).trans rfl, (blk_cell h 4).trans rfl, (blk_cell h 5).trans rfl, (blk_cell h 6).trans rfl, (blk_cell h 7).trans rfl, (blk_cell h 8).trans rfl, (blk_cell h 9).trans rfl, blk_frozen h 0, blk_frozen h 1, blk_frozen h 2, blk_frozen h 3, blk_frozen h 4, blk_frozen h 5, blk_frozen h 6, blk_frozen h 7, blk_frozen h 8, blk_frozen h 9⟩
/-! ### laws_FnExactOpenEpochBoxes: function 6 -/
def laws_FnExactOpenEpochBoxes.f (k : Nat) (a0_0 : Int) (a0_1 : Int) (a0_2 : Int) (a0_3 : Int) (a1_0 : Int) (l1_1 : List (S159)) : Option (Bool) := (laws_szEpochBoxes.f k a1_0 l1_1 1048576).bind fun t386 => (if t386 < 0 then (some true) else ((laws_toKeyStore.f a0_0 a0_1 a0_2 a0_3).bind fun bt387 => ((laws_toEpochBoxes.f k a1_0 l1_1).bind fun bt391 => ((spec_OpenEpochBoxes.f k bt387.1 bt387.2.1 bt387.2.2.1 bt387.2.2.2 bt391.1 bt391.2).bind fun bt395 => ((laws_toEpochBoxes.f k a1_0 l1_1).bind fun bt397 => ((laws_toKeyStore.f a0_0 a0_1 a0_2 a0_3).bind fun bt402 => ((impl_OpenEpochBoxes.f k bt402.1 bt402.2.1 bt402.2.2.1 bt402.2.2.2 bt397.1 bt397.2).bind fun bt406 => (if bt406.1 = bt395.1 then (if (bt406.2 != bt395.2) = true then (some false) else ((laws_toEpochBoxes.f k a1_0 l1_1).bind fun bt408 => ((laws_eqEpochBoxes.f k bt397.1 bt397.2 bt408.1 bt408.2).bind fun t412 => (if t412 = true then (some true) else (some false))))) else (some false)))))))))
theorem laws_FnExactOpenEpochBoxes.mono : ∀ a0 a1 a2 a3 a4 a5 k, LeO (laws_FnExactOpenEpochBoxes.f k a0 a1 a2 a3 a4 a5) (laws_FnExactOpenEpochBoxes.f (k + 1) a0 a1 a2 a3 a4 a5) := by
  intro a0 a1 a2 a3 a4 a5 k
  unfold laws_FnExactOpenEpochBoxes.f
  repeat' first
      | (with_reducible exact impl_OpenEpochBoxes.mono _ _ _ _ _ _ _)
      | (with_reducible exact laws_eqEpochBoxes.mono _ _ _ _ _)
      | (with_reducible exact laws_szEpochBoxes.mono _ _ _ _)
      | (with_reducible exact laws_toEpochBoxes.mono _ _ _)
      | (with_reducible exact spec_OpenEpochBoxes.mono _ _ _ _ _ _ _)
      | (with_reducible exact LeO.refl _)
      | (with_reducible exact LeO.none _)
      | (with_reducible refine LeO.ite ?_ ?_)
      | (with_reducible refine LeO.bind ?_ (fun _ => ?_))
      | exact impl_OpenEpochBoxes.mono _ _ _ _ _ _ _
      | exact laws_eqEpochBoxes.mono _ _ _ _ _
      | exact laws_szEpochBoxes.mono _ _ _ _
      | exact laws_toEpochBoxes.mono _ _ _
      | exact spec_OpenEpochBoxes.mono _ _ _ _ _ _ _
      | exact LeO.none _
      | refine LeO.ite ?_ ?_
      | refine LeO.bind ?_ (fun _ => ?_)
set_option maxHeartbeats 8000000 in
set_option maxRecDepth 100000 in
theorem laws_FnExactOpenEpochBoxes.calls (k : Nat) (a0_0 : Int) (a0_1 : Int) (a0_2 : Int) (a0_3 : Int) (a1_0 : Int) (A1_1 : Option Addr) (c1_1 : Nat) (l1_1 : List (S159)) (r : Bool) (w : World) (hr1_1 : Kd.C k159 w A1_1 l1_1.length l1_1) (hc1_1 : l1_1.length ≤ c1_1) (hT : Aside0 (r = true)) (h : laws_FnExactOpenEpochBoxes.f k a0_0 a0_1 a0_2 a0_3 a1_0 l1_1 = some r) :
    Calls Try.prog 6 #[.agg #[.int .i64 a0_0, .int .i64 a0_1, .int .i64 a0_2, .int .i64 a0_3], .agg #[.int .i64 a1_0, .slice A1_1 l1_1.length c1_1]] w fun e w' => e = .returned (.bool r) ∧ Below w.heap.size w w' := by
  have hu23 := Try.underlying23
  have hu43 := Try.underlying43
  have hu49 := Try.underlying49
  have HR1_1 := Aside0.mk hr1_1
  have HC1_1 := Aside0.mk hc1_1
  clear hr1_1 hc1_1
  have HB := Aside0.mk (Below.refl w.heap.size w)
  have H : ((laws_szEpochBoxes.f k a1_0 l1_1 1048576).bind fun t386 => (if t386 < 0 then (some true) else ((laws_toKeyStore.f a0_0 a0_1 a0_2 a0_3).bind fun bt387 => ((laws_toEpochBoxes.f k a1_0 l1_1).bind fun bt391 => ((spec_OpenEpochBoxes.f k bt387.1 bt387.2.1 bt387.2.2.1 bt387.2.2.2 bt391.1 bt391.2).bind fun bt395 => ((laws_toEpochBoxes.f k a1_0 l1_1).bind fun bt397 => ((laws_toKeyStore.f a0_0 a0_1 a0_2 a0_3).bind fun bt402 => ((impl_OpenEpochBoxes.f k bt402.1 bt402.2.1 bt402.2.2.1 bt402.2.2.2 bt397.1 bt397.2).bind fun bt406 => (if bt406.1 = bt395.1 then (if (bt406.2 != bt395.2) = true then (some false) else ((laws_toEpochBoxes.f k a1_0 l1_1).bind fun bt408 => ((laws_eqEpochBoxes.f k bt397.1 bt397.2 bt408.1 bt408.2).bind fun t412 => (if t412 = true then (some true) else (some false))))) else (some false)))))))))) = some r := h
  clear h
  replace H := Option.bind_eq_some_iff.mp H
  obtain ⟨t386, A30, H⟩ := H
  replace H : (if t386 < 0 then (some true) else ((laws_toKeyStore.f a0_0 a0_1 a0_2 a0_3).bind fun bt387 => ((laws_toEpochBoxes.f k a1_0 l1_1).bind fun bt391 => ((spec_OpenEpochBoxes.f k bt387.1 bt387.2.1 bt387.2.2.1 bt387.2.2.2 bt391.1 bt391.2).bind fun bt395 => ((laws_toEpochBoxes.f k a1_0 l1_1).bind fun bt397 => ((laws_toKeyStore.f a0_0 a0_1 a0_2 a0_3).bind fun bt402 => ((impl_OpenEpochBoxes.f k bt402.1 bt402.2.1 bt402.2.2.1 bt402.2.2.2 bt397.1 bt397.2).bind fun bt406 => (if bt406.1 = bt395.1 then (if (bt406.2 != bt395.2) = true then (some false) else ((laws_toEpochBoxes.f k a1_0 l1_1).bind fun bt408 => ((laws_eqEpochBoxes.f k bt397.1 bt397.2 bt408.1 bt408.2).bind fun t412 => (if t412 = true then (some true) else (some false))))) else (some false))))))))) = some r := H
  have A3 := Aside0.mk A30
  clear A30
  by_cases c4 : t386 < 0
  · rw [if_pos c4] at H
    have c4b0 : decide (t386 < 0) = true := decide_eq_true c4
    clear c4
    obtain rfl := Option.some.inj H
    go_enter Try.func6, Try.ntmps6
    go_wp2_with (first | ((with_reducible refine gate_dst (N := 2) rfl ?_); refine box_event ?hg (N := 2) ?hd (cs := #[.int .i64 a0_0, .int .i64 a0_1, .int .i64 a0_2, .int .i64 a0_3]) (t := 23) ?hr ?_; (case hd => rfl); (case hg => rfl); (case hr => first | (go_simp; done) | (go_simp; rfl)); intro gb384 hg wv1 hbox hb; have n0_ := Aside0.mk (below_step HB.out hb); have n1_ := Aside0.mk (hbox); have n2_ := Aside0.mk ((by rw [hg]; exact Nat.le_trans HB.out.size ((show Kept w w (fun k_ => False) from by repeat (first | (with_reducible first | exact Kept.refl _ _ | apply Kept.alloc | apply Kept.drewN | apply Kept.drew) | exact Kept.refl _ _))).1 : w.heap.size ≤ gb384)); have n3_ := Aside0.mk ((⟨by rw [hg]; exact ((show Kept w w (fun k_ => False) from by repeat (first | (with_reducible first | exact Kept.refl _ _ | apply Kept.alloc | apply Kept.drewN | apply Kept.drew) | exact Kept.refl _ _))).1, blk_lt hbox⟩ : w.heap.size ≤ gb384 ∧ gb384 < wv1.heap.size)); have n4_ := Aside0.mk (((Kept.below (show Kept w w (fun k_ => False) from by repeat (first | (with_reducible first | exact Kept.refl _ _ | apply Kept.alloc | apply Kept.drewN | apply Kept.drew) | exact Kept.refl _ _)) hb).1 : w.heap.size ≤ wv1.heap.size)); clear HB; have HB := n0_; have BK384 := n1_; have GE384 := n2_; have HG384 := n3_; have HLA := n4_; clear n0_ n1_ n2_ n3_ n4_; clear hb hbox hg) | ((with_reducible refine gate_dst (N := 3) rfl ?_); refine box_event ?hg (N := 3) ?hd (cs := #[.int .i64 a1_0, .slice A1_1 l1_1.length c1_1]) (t := 43) ?hr ?_; (case hd => rfl); (case hg => rfl); (case hr => first | (go_simp; done) | (go_simp; rfl)); intro gb385 hg wv2 hbox hb; have n0_ := Aside0.mk (blk_below BK384.out hb); have n1_ := Aside0.mk (below_step HB.out hb); have n2_ := Aside0.mk (hbox); have n3_ := Aside0.mk ((by rw [hg]; exact Nat.le_trans HB.out.size ((show Kept wv1 wv1 (fun k_ => False) from by repeat (first | (with_reducible first | exact Kept.refl _ _ | apply Kept.alloc | apply Kept.drewN | apply Kept.drew) | exact Kept.refl _ _))).1 : w.heap.size ≤ gb385)); have n4_ := Aside0.mk ((⟨by rw [hg]; exact ((show Kept wv1 wv1 (fun k_ => False) from by repeat (first | (with_reducible first | exact Kept.refl _ _ | apply Kept.alloc | apply Kept.drewN | apply Kept.drew) | exact Kept.refl _ _))).1, blk_lt hbox⟩ : wv1.heap.size ≤ gb385 ∧ gb385 < wv2.heap.size)); have n5_ := Aside0.mk (And.intro HLA.out ((Kept.below (show Kept wv1 wv1 (fun k_ => False) from by repeat (first | (with_reducible first | exact Kept.refl _ _ | apply Kept.alloc | apply Kept.drewN | apply Kept.drew) | exact Kept.refl _ _)) hb).1 : wv1.heap.size ≤ wv2.heap.size)); clear BK384; clear HB; clear HLA; have BK384 := n0_; have HB := n1_; have BK385 := n2_; have GE385 := n3_; have HG385 := n4_; have HLA := n5_; clear n0_ n1_ n2_ n3_ n4_ n5_; clear hb hbox hg; obtain ⟨hcz1_0, hcz1_1, hcz1_f0, hcz1_f1⟩ := lk_c2 BK385.out) | ((with_reducible refine gate_callee (f := 20) rfl ?_); refine goesL_ (some 13) rfl rfl Try.func20 (by kernel_rfl) rfl #[.agg #[.int .i64 a1_0, .slice A1_1 l1_1.length c1_1], .int .i64 1048576] rfl (by (try simp only [List.map_toArray, List.map_cons, List.map_nil]); first | done | rfl | (simp only [List.length_drop, List.length_take]; rfl)) ?_; (with_reducible refine (laws_szEpochBoxes.calls k a1_0 _ _ l1_1 1048576 t386 _ ?side1 ?side2 A3.out).mono ?_); (case side1 => exact Kd.C_below HR1_1.out (by repeat (first | (with_reducible first | exact HB.out | apply below_alloc | apply pw_below_drewN | apply below_drew1) | exact HB.out))); (case side2 => exact HC1_1.out); rintro e wv3 ⟨rfl, hb⟩; refine ⟨_, rfl, ?_⟩; have hkW := (show Kept wv2 wv2 (fun k_ => False) from by repeat (first | (with_reducible first | exact Kept.refl _ _ | apply Kept.alloc | apply Kept.drewN | apply Kept.drew) | exact Kept.refl _ _)); have hk2 := Kept.below hkW hb; have n0_ := Aside0.mk (blk_below BK384.out hb); have n1_ := Aside0.mk (blk_below BK385.out hb); have n2_ := Aside0.mk (below_step (by repeat (first | (with_reducible first | exact HB.out | apply below_alloc | apply pw_below_drewN | apply below_drew1) | exact HB.out)) hb); have n3_ := Aside0.mk (And.intro HLA.out (hk2.1 : wv2.heap.size ≤ wv3.heap.size)); clear BK384; clear BK385; clear HB; clear HLA; have BK384 := n0_; have BK385 := n1_; have HB := n2_; have HLA := n3_; clear n0_ n1_ n2_ n3_; (try clear hb); (try clear hkW); (try clear hk2); (try clear hkp)))
    go_ret
    exact ⟨by first | rfl | (simp [*] <;> rfl), by repeat (first | (with_reducible first | exact HB.out | apply below_alloc | apply pw_below_drewN | apply below_drew1) | exact HB.out)⟩
  · rw [if_neg c4] at H
    have c4b0 : decide (t386 < 0) = false := decide_eq_false c4
    clear c4
    replace H := Option.bind_eq_some_iff.mp H
    obtain ⟨⟨t387, t388, t389, t390⟩, A50, H⟩ := H
    replace H : ((laws_toEpochBoxes.f k a1_0 l1_1).bind fun bt391 => ((spec_OpenEpochBoxes.f k t387 t388 t389 t390 bt391.1 bt391.2).bind fun bt395 => ((laws_toEpochBoxes.f k a1_0 l1_1).bind fun bt397 => ((laws_toKeyStore.f a0_0 a0_1 a0_2 a0_3).bind fun bt402 => ((impl_OpenEpochBoxes.f k bt402.1 bt402.2.1 bt402.2.2.1 bt402.2.2.2 bt397.1 bt397.2).bind fun bt406 => (if bt406.1 = bt395.1 then (if (bt406.2 != bt395.2) = true then (some false) else ((laws_toEpochBoxes.f k a1_0 l1_1).bind fun bt408 => ((laws_eqEpochBoxes.f k bt397.1 bt397.2 bt408.1 bt408.2).bind fun t412 => (if t412 = true then (some true) else (some false))))) else (some false))))))) = some r := H
    have A5 := Aside0.mk A50
    clear A50
    replace H := Option.bind_eq_some_iff.mp H
    obtain ⟨⟨t391, t392⟩, A60, H⟩ := H
    replace H : ((spec_OpenEpochBoxes.f k t387 t388 t389 t390 t391 t392).bind fun bt395 => ((laws_toEpochBoxes.f k a1_0 l1_1).bind fun bt397 => ((laws_toKeyStore.f a0_0 a0_1 a0_2 a0_3).bind fun bt402 => ((impl_OpenEpochBoxes.f k bt402.1 bt402.2.1 bt402.2.2.1 bt402.2.2.2 bt397.1 bt397.2).bind fun bt406 => (if bt406.1 = bt395.1 then (if (bt406.2 != bt395.2) = true then (some false) else ((laws_toEpochBoxes.f k a1_0 l1_1).bind fun bt408 => ((laws_eqEpochBoxes.f k bt397.1 bt397.2 bt408.1 bt408.2).bind fun t412 => (if t412 = true then (some true) else (some false))))) else (some false)))))) = some r := H
    have A6 := Aside0.mk A60
    clear A60
    replace H := Option.bind_eq_some_iff.mp H
    obtain ⟨⟨t395, t396⟩, A70, H⟩ := H
    replace H : ((laws_toEpochBoxes.f k a1_0 l1_1).bind fun bt397 => ((laws_toKeyStore.f a0_0 a0_1 a0_2 a0_3).bind fun bt402 => ((impl_OpenEpochBoxes.f k bt402.1 bt402.2.1 bt402.2.2.1 bt402.2.2.2 bt397.1 bt397.2).bind fun bt406 => (if bt406.1 = t395 then (if (bt406.2 != t396) = true then (some false) else ((laws_toEpochBoxes.f k a1_0 l1_1).bind fun bt408 => ((laws_eqEpochBoxes.f k bt397.1 bt397.2 bt408.1 bt408.2).bind fun t412 => (if t412 = true then (some true) else (some false))))) else (some false))))) = some r := H
    have A7 := Aside0.mk A70
    clear A70
    replace H := Option.bind_eq_some_iff.mp H
    obtain ⟨⟨t397, t398⟩, A80, H⟩ := H
    replace H : ((laws_toKeyStore.f a0_0 a0_1 a0_2 a0_3).bind fun bt402 => ((impl_OpenEpochBoxes.f k bt402.1 bt402.2.1 bt402.2.2.1 bt402.2.2.2 t397 t398).bind fun bt406 => (if bt406.1 = t395 then (if (bt406.2 != t396) = true then (some false) else ((laws_toEpochBoxes.f k a1_0 l1_1).bind fun bt408 => ((laws_eqEpochBoxes.f k t397 t398 bt408.1 bt408.2).bind fun t412 => (if t412 = true then (some true) else (some false))))) else (some false)))) = some r := H
    have A8 := Aside0.mk A80
    clear A80
    replace H := Option.bind_eq_some_iff.mp H
    obtain ⟨⟨t402, t403, t404, t405⟩, A90, H⟩ := H
    replace H : ((impl_OpenEpochBoxes.f k t402 t403 t404 t405 t397 t398).bind fun bt406 => (if bt406.1 = t395 then (if (bt406.2 != t396) = true then (some false) else ((laws_toEpochBoxes.f k a1_0 l1_1).bind fun bt408 => ((laws_eqEpochBoxes.f k t397 t398 bt408.1 bt408.2).bind fun t412 => (if t412 = true then (some true) else (some false))))) else (some false))) = some r := H
    have A9 := Aside0.mk A90
    clear A90
    replace H := Option.bind_eq_some_iff.mp H
    obtain ⟨⟨t406, t407⟩, A100, H⟩ := H
    replace H : (if t406 = t395 then (if (t407 != t396) = true then (some false) else ((laws_toEpochBoxes.f k a1_0 l1_1).bind fun bt408 => ((laws_eqEpochBoxes.f k t397 t398 bt408.1 bt408.2).bind fun t412 => (if t412 = true then (some true) else (some false))))) else (some false)) = some r := H
    have A10 := Aside0.mk A100
    clear A100
    by_cases c11 : t406 = t395
    · rw [if_pos c11] at H
      have c11b0 : (t406 == t395) = true := beq_iff_eq.mpr c11
      have c11b1 : (t406 != t395) = false := bne_eq_false_iff_eq.mpr c11
      clear c11
      by_cases c12 : (t407 != t396) = true
      · rw [if_pos c12] at H
        have c12b0 : (t407 != t396) = true := c12
        (try (have c12b1 : decide (t407 = t396) = false := by simpa using c12))
        (try (have c12b2 : (t407 == t396) = false := by simpa using c12))
        (try (have c12b3 : ¬ (t407 = t396) := by simpa using c12))
        clear c12
        exact absurd ((Option.some.inj H).trans hT.out) (by decide)
      · rw [if_neg c12] at H
        have c12b0 : (t407 != t396) = false := by simpa using c12
        (try (have c12b1 : decide (t407 = t396) = true := by simpa using c12))
        (try (have c12b2 : (t407 == t396) = true := by simpa using c12))
        clear c12
        replace H := Option.bind_eq_some_iff.mp H
        obtain ⟨⟨t408, t409⟩, A130, H⟩ := H
        replace H : ((laws_eqEpochBoxes.f k t397 t398 t408 t409).bind fun t412 => (if t412 = true then (some true) else (some false))) = some r := H
        have A13 := Aside0.mk A130
        clear A130
        replace H := Option.bind_eq_some_iff.mp H
        obtain ⟨t412, A140, H⟩ := H
        replace H : (if t412 = true then (some true) else (some false)) = some r := H
        have A14 := Aside0.mk A140
        clear A140
        by_cases c15 : t412 = true
        · subst c15
          have H1 : (some true) = some r := by rw [if_pos rfl] at H; exact H
          clear H
          have H := H1
          clear H1
          obtain rfl := Option.some.inj H
          go_enter Try.func6, Try.ntmps6
          go_wp2_with (first | ((with_reducible refine gate_dst (N := 2) rfl ?_); refine box_event ?hg (N := 2) ?hd (cs := #[.int .i64 a0_0, .int .i64 a0_1, .int .i64 a0_2, .int .i64 a0_3]) (t := 23) ?hr ?_; (case hd => rfl); (case hg => rfl); (case hr => first | (go_simp; done) | (go_simp; rfl)); intro gb384 hg wv1 hbox hb; have n0_ := Aside0.mk (below_step HB.out hb); have n1_ := Aside0.mk (hbox); have n2_ := Aside0.mk ((by rw [hg]; exact Nat.le_trans HB.out.size ((show Kept w w (fun k_ => False) from by repeat (first | (with_reducible first | exact Kept.refl _ _ | apply Kept.alloc | apply Kept.drewN | apply Kept.drew) | exact Kept.refl _ _))).1 : w.heap.size ≤ gb384)); have n3_ := Aside0.mk ((⟨by rw [hg]; exact ((show Kept w w (fun k_ => False) from by repeat (first | (with_reducible first | exact Kept.refl _ _ | apply Kept.alloc | apply Kept.drewN | apply Kept.drew) | exact Kept.refl _ _))).1, blk_lt hbox⟩ : w.heap.size ≤ gb384 ∧ gb384 < wv1.heap.size)); have n4_ := Aside0.mk (((Kept.below (show Kept w w (fun k_ => False) from by repeat (first | (with_reducible first | exact Kept.refl _ _ | apply Kept.alloc | apply Kept.drewN | apply Kept.drew) | exact Kept.refl _ _)) hb).1 : w.heap.size ≤ wv1.heap.size)); clear HB; have HB := n0_; have BK384 := n1_; have GE384 := n2_; have HG384 := n3_; have HLA := n4_; clear n0_ n1_ n2_ n3_ n4_; clear hb hbox hg) | ((with_reducible refine gate_dst (N := 3) rfl ?_); refine box_event ?hg (N := 3) ?hd (cs := #[.int .i64 a1_0, .slice A1_1 l1_1.length c1_1]) (t := 43) ?hr ?_; (case hd => rfl); (case hg => rfl); (case hr => first | (go_simp; done) | (go_simp; rfl)); intro gb385 hg wv2 hbox hb; have n0_ := Aside0.mk (blk_below BK384.out hb); have n1_ := Aside0.mk (below_step HB.out hb); have n2_ := Aside0.mk (hbox); have n3_ := Aside0.mk ((by rw [hg]; exact Nat.le_trans HB.out.size ((show Kept wv1 wv1 (fun k_ => False) from by repeat (first | (with_reducible first | exact Kept.refl _ _ | apply Kept.alloc | apply Kept.drewN | apply Kept.drew) | exact Kept.refl _ _))).1 : w.heap.size ≤ gb385)); have n4_ := Aside0.mk ((⟨by rw [hg]; exact ((show Kept wv1 wv1 (fun k_ => False) from by repeat (first | (with_reducible first | exact Kept.refl _ _ | apply Kept.alloc | apply Kept.drewN | apply Kept.drew) | exact Kept.refl _ _))).1, blk_lt hbox⟩ : wv1.heap.size ≤ gb385 ∧ gb385 < wv2.heap.size)); have n5_ := Aside0.mk (And.intro HLA.out ((Kept.below (show Kept wv1 wv1 (fun k_ => False) from by repeat (first | (with_reducible first | exact Kept.refl _ _ | apply Kept.alloc | apply Kept.drewN | apply Kept.drew) | exact Kept.refl _ _)) hb).1 : wv1.heap.size ≤ wv2.heap.size)); clear BK384; clear HB; clear HLA; have BK384 := n0_; have HB := n1_; have BK385 := n2_; have GE385 := n3_; have HG385 := n4_; have HLA := n5_; clear n0_ n1_ n2_ n3_ n4_ n5_; clear hb hbox hg; obtain ⟨hcz1_0, hcz1_1, hcz1_f0, hcz1_f1⟩ := lk_c2 BK385.out) | ((with_reducible refine gate_callee (f := 20) rfl ?_); refine goesL_ (some 13) rfl rfl Try.func20 (by kernel_rfl) rfl #[.agg #[.int .i64 a1_0, .slice A1_1 l1_1.length c1_1], .int .i64 1048576] rfl (by (try simp only [List.map_toArray, List.map_cons, List.map_nil]); first | done | rfl | (simp only [List.length_drop, List.length_take]; rfl)) ?_; (with_reducible refine (laws_szEpochBoxes.calls k a1_0 _ _ l1_1 1048576 t386 _ ?side1 ?side2 A3.out).mono ?_); (case side1 => exact Kd.C_below HR1_1.out (by repeat (first | (with_reducible first | exact HB.out | apply below_alloc | apply pw_below_drewN | apply below_drew1) | exact HB.out))); (case side2 => exact HC1_1.out); rintro e wv3 ⟨rfl, hb⟩; refine ⟨_, rfl, ?_⟩; have hkW := (show Kept wv2 wv2 (fun k_ => False) from by repeat (first | (with_reducible first | exact Kept.refl _ _ | apply Kept.alloc | apply Kept.drewN | apply Kept.drew) | exact Kept.refl _ _)); have hk2 := Kept.below hkW hb; have n0_ := Aside0.mk (blk_below BK384.out hb); have n1_ := Aside0.mk (blk_below BK385.out hb); have n2_ := Aside0.mk (below_step (by repeat (first | (with_reducible first | exact HB.out | apply below_alloc | apply pw_below_drewN | apply below_drew1) | exact HB.out)) hb); have n3_ := Aside0.mk (And.intro HLA.out (hk2.1 : wv2.heap.size ≤ wv3.heap.size)); clear BK384; clear BK385; clear HB; clear HLA; have BK384 := n0_; have BK385 := n1_; have HB := n2_; have HLA := n3_; clear n0_ n1_ n2_ n3_; (try clear hb); (try clear hkW); (try clear hk2); (try clear hkp)))
          have n0_ := Aside0.mk ((blk_kept BK384.out (show Kept wv3 wv3.drew (fun k_ => False) from by repeat (first | (with_reducible first | exact Kept.refl _ _ | apply Kept.alloc | apply Kept.drewN | apply Kept.drew) | exact Kept.refl _ _)) (fun hs_ => hs_.elim)))
          have n1_ := Aside0.mk ((blk_kept BK385.out (show Kept wv3 wv3.drew (fun k_ => False) from by repeat (first | (with_reducible first | exact Kept.refl _ _ | apply Kept.alloc | apply Kept.drewN | apply Kept.drew) | exact Kept.refl _ _)) (fun hs_ => hs_.elim)))
          have n2_ := Aside0.mk ((show Below w.heap.size w (wv3.drew) from by repeat (first | (with_reducible first | exact HB.out | apply below_alloc | apply pw_below_drewN | apply below_drew1) | exact HB.out)))
          have n3_ := Aside0.mk (And.intro HLA.out ((show Kept wv3 wv3.drew (fun k_ => False) from by repeat (first | (with_reducible first | exact Kept.refl _ _ | apply Kept.alloc | apply Kept.drewN | apply Kept.drew) | exact Kept.refl _ _)).1 : wv3.heap.size ≤ (wv3.drew).heap.size))
          clear BK384
          clear BK385
          clear HB
          clear HLA
          have BK384 := n0_
          have BK385 := n1_
          have HB := n2_
          have HLA := n3_
          clear n0_ n1_ n2_ n3_
          refine start_ (n := 10) (S := fun w' => w'.cell? ⟨gb384, 0, none⟩ = some (.int .i64 a0_0) ∧ w'.cell? ⟨gb384, 1, none⟩ = some (.int .i64 a0_1) ∧ w'.cell? ⟨gb384, 2, none⟩ = some (.int .i64 a0_2) ∧ w'.cell? ⟨gb384, 3, none⟩ = some (.int .i64 a0_3) ∧ w'.cell? ⟨gb385, 0, none⟩ = some (.int .i64 a1_0) ∧ w'.cell? ⟨gb385, 1, none⟩ = some (.slice A1_1 l1_1.length c1_1)) (ds := []) #[false, false, false, false, false, false, false, false, false, false] (by kernel_rfl) rfl rfl ⟨(blk_cell BK384.out 0).trans rfl, (blk_cell BK384.out 1).trans rfl, (blk_cell BK384.out 2).trans rfl, (blk_cell BK384.out 3).trans rfl, (blk_cell BK385.out 0).trans rfl, (blk_cell BK385.out 1).trans rfl⟩ (fun hHeld => ?_)
          generalize wv3.drew = wv4 at BK384 BK385 HB HLA hHeld ⊢
          refine take_ (i := 0) (N := some 17) (v := ?_) (a' := ?_) #[true, false, false, false, false, false, false, false, false, false] rfl rfl (by kernel_rfl) (fun _ _ _ h => h) (Or.inl ⟨by rfl, ?_⟩) hHeld ?_ ?_
          rotate_left
          · rintro w' ⟨s0, s1, s2, s3, s4, s5⟩
            go_simp
            with_reducible rfl
          rotate_left
          · simp only [Act.put, List.setIfInBounds_toArray, List.set_cons_zero, List.set_cons_succ, i64_w, i32_w]
            rfl
          refine take_ (i := 2) (N := some 19) (v := ?_) (a' := ?_) #[true, false, true, false, false, false, false, false, false, false] rfl rfl (by kernel_rfl) (fun _ _ _ h => h) (Or.inl ⟨by rfl, ?_⟩) hHeld ?_ ?_
          rotate_left
          · rintro w' ⟨s0, s1, s2, s3, s4, s5⟩
            go_simp
            with_reducible rfl
          rotate_left
          · simp only [Act.put, List.setIfInBounds_toArray, List.set_cons_zero, List.set_cons_succ, i64_w, i32_w]
            rfl
          refine one_ (i := 1) (N := some 18) #[true, true, true, false, false, false, false, false, false, false] rfl rfl (by kernel_rfl) (by decide) (fun K hK => ?_)
          refine goes_ Try.func34 (by kernel_rfl) rfl #[.agg #[.int .i64 a0_0, .int .i64 a0_1, .int .i64 a0_2, .int .i64 a0_3]] (by rfl) rfl rfl (by (try simp only [List.map_toArray, List.map_cons, List.map_nil]); first | done | rfl | (simp only [List.length_drop, List.length_take]; rfl)) ?_
          (with_reducible refine (laws_toKeyStore.calls a0_0 a0_1 a0_2 a0_3 t387 t388 t389 t390 _  A5.out).mono ?_)
          rintro e wv5 ⟨rfl, hb⟩
          refine ⟨_, rfl, ?_⟩
          have hkW := (show Kept wv4 wv4 (fun k_ => False) from by repeat (first | (with_reducible first | exact Kept.refl _ _ | apply Kept.alloc | apply Kept.drewN | apply Kept.drew) | exact Kept.refl _ _))
          have hk2 := Kept.below hkW hb
          have n0_ := Aside0.mk (blk_below BK384.out hb)
          have n1_ := Aside0.mk (blk_below BK385.out hb)
          have n2_ := Aside0.mk (below_step (by repeat (first | (with_reducible first | exact HB.out | apply below_alloc | apply pw_below_drewN | apply below_drew1) | exact HB.out)) hb)
          have n3_ := Aside0.mk (And.intro HLA.out (hk2.1 : wv4.heap.size ≤ wv5.heap.size))
          clear BK384
          clear BK385
          clear HB
          clear HLA
          have BK384 := n0_
          have BK385 := n1_
          have HB := n2_
          have HLA := n3_
          clear n0_ n1_ n2_ n3_
          (try clear hb)
          (try clear hkW)
          (try clear hk2)
          (try clear hkp)
          refine hK.out _ _ ⟨(blk_cell BK384.out 0).trans rfl, (blk_cell BK384.out 1).trans rfl, (blk_cell BK384.out 2).trans rfl, (blk_cell BK384.out 3).trans rfl, (blk_cell BK385.out 0).trans rfl, (blk_cell BK385.out 1).trans rfl⟩ (fun hHeld => ?_)
          clear hK K
          refine norm_ (a' := ?_) ?_ ?_
          rotate_left
          · show Act.put _ (some 18) _ = _
            simp only [Act.put, List.setIfInBounds_toArray, List.set_cons_zero, List.set_cons_succ, i64_w, i32_w]
            rfl
          refine one_ (i := 3) (N := some 20) #[true, true, true, true, false, false, false, false, false, false] rfl rfl (by kernel_rfl) (by decide) (fun K hK => ?_)
          refine goes_ Try.func23 (by kernel_rfl) rfl #[.agg #[.int .i64 a1_0, .slice A1_1 l1_1.length c1_1]] (by rfl) rfl rfl (by (try simp only [List.map_toArray, List.map_cons, List.map_nil]); first | done | rfl | (simp only [List.length_drop, List.length_take]; rfl)) ?_
          (with_reducible refine (laws_toEpochBoxes.calls k a1_0 _ _ l1_1 t391 t392 _ ?side1 ?side2 A6.out).mono ?_)
          (case side1 => exact Kd.C_below HR1_1.out (by repeat (first | (with_reducible first | exact HB.out | apply below_alloc | apply pw_below_drewN | apply below_drew1) | exact HB.out)))
          (case side2 => exact HC1_1.out)
          rintro e wv6 ⟨vq2_, rfl, ho0, hb⟩
          refine ⟨_, rfl, ?_⟩
          have hkW := (show Kept wv5 wv5 (fun k_ => False) from by repeat (first | (with_reducible first | exact Kept.refl _ _ | apply Kept.alloc | apply Kept.drewN | apply Kept.drew) | exact Kept.refl _ _))
          have hk2 := Kept.below hkW hb
          obtain ⟨Aq2_, cq2_, rfl⟩ := Kd.S_slice ho0
          obtain ⟨okq2_, hoo0, hi0⟩ := lk_S ho0 (a := wv5.heap.size) (b := w.heap.size) hkW.1 (Nat.le_trans HB.out.size hkW.1)
          have n0_ := Aside0.mk (blk_below BK384.out hb)
          have n1_ := Aside0.mk (blk_below BK385.out hb)
          have n2_ := Aside0.mk (below_step (by repeat (first | (with_reducible first | exact HB.out | apply below_alloc | apply pw_below_drewN | apply below_drew1) | exact HB.out)) hb)
          have n3_ := Aside0.mk (And.intro HLA.out (hk2.1 : wv5.heap.size ≤ wv6.heap.size))
          have n4_ := Aside0.mk (hoo0)
          have n5_ := Aside0.mk (hi0)
          clear BK384
          clear BK385
          clear HB
          clear HLA
          have BK384 := n0_
          have BK385 := n1_
          have HB := n2_
          have HLA := n3_
          have HOq2_ := n4_
          have HIq2_ := n5_
          clear n0_ n1_ n2_ n3_ n4_ n5_
          (try clear hb)
          (try clear hkW)
          (try clear hk2)
          (try clear hkp)
          (try clear hoo0)
          (try clear hi0)
          (try clear ho0)
          refine hK.out _ _ ⟨(blk_cell BK384.out 0).trans rfl, (blk_cell BK384.out 1).trans rfl, (blk_cell BK384.out 2).trans rfl, (blk_cell BK384.out 3).trans rfl, (blk_cell BK385.out 0).trans rfl, (blk_cell BK385.out 1).trans rfl⟩ (fun hHeld => ?_)
          clear hK K
          refine norm_ (a' := ?_) ?_ ?_
          rotate_left
          · show Act.put _ (some 20) _ = _
            simp only [Act.put, List.setIfInBounds_toArray, List.set_cons_zero, List.set_cons_succ, i64_w, i32_w]
            rfl
          refine one_ (i := 4) (N := some 21) #[true, true, true, true, true, false, false, false, false, false] rfl rfl (by kernel_rfl) (by decide) (fun K hK => ?_)
          refine goes_ Try.func33 (by kernel_rfl) rfl #[.agg #[.int .i64 t387, .int .i64 t388, .int .i64 t389, .int .i64 t390], .agg #[.int .i64 t391, .slice Aq2_ t392.length cq2_]] (by rfl) rfl rfl (by (try simp only [List.map_toArray, List.map_cons, List.map_nil]); first | done | rfl | (simp only [List.length_drop, List.length_take]; rfl)) ?_
          (with_reducible refine (spec_OpenEpochBoxes.calls k t387 t388 t389 t390 t391 _ _ t392 t395 t396 _ ?side1 ?side2 A7.out).mono ?_)
          (case side1 => exact (Kd.S_reads' HOq2_.out).2.2)
          (case side2 => have h1_ := (Kd.S_reads' HOq2_.out).1; have h2_ := (Kd.S_reads' HOq2_.out).2.1; omega)
          rintro e wv7 ⟨rfl, hb⟩
          refine ⟨_, rfl, ?_⟩
          have hkW := (show Kept wv6 wv6 (fun k_ => False) from by repeat (first | (with_reducible first | exact Kept.refl _ _ | apply Kept.alloc | apply Kept.drewN | apply Kept.drew) | exact Kept.refl _ _))
          have hk2 := Kept.below hkW hb
          have n0_ := Aside0.mk (Kd.S_below HOq2_.out hb)
          have n1_ := Aside0.mk (blk_below BK384.out hb)
          have n2_ := Aside0.mk (blk_below BK385.out hb)
          have n3_ := Aside0.mk (below_step (by repeat (first | (with_reducible first | exact HB.out | apply below_alloc | apply pw_below_drewN | apply below_drew1) | exact HB.out)) hb)
          have n4_ := Aside0.mk (And.intro HLA.out (hk2.1 : wv6.heap.size ≤ wv7.heap.size))
          clear HOq2_
          clear BK384
          clear BK385
          clear HB
          clear HLA
          have HOq2_ := n0_
          have BK384 := n1_
          have BK385 := n2_
          have HB := n3_
          have HLA := n4_
          clear n0_ n1_ n2_ n3_ n4_
          (try clear hb)
          (try clear hkW)
          (try clear hk2)
          (try clear hkp)
          refine hK.out _ _ ⟨(blk_cell BK384.out 0).trans rfl, (blk_cell BK384.out 1).trans rfl, (blk_cell BK384.out 2).trans rfl, (blk_cell BK384.out 3).trans rfl, (blk_cell BK385.out 0).trans rfl, (blk_cell BK385.out 1).trans rfl⟩ (fun hHeld => ?_)
          clear hK K
          refine norm_ (a' := ?_) ?_ ?_
          rotate_left
          · show Act.put _ (some 21) _ = _
            simp only [Act.put, List.setIfInBounds_toArray, List.set_cons_zero, List.set_cons_succ, i64_w, i32_w]
            rfl
          refine pure_ (i := 5) (N := some 16) (v := ?_) (a' := ?_) #[true, true, true, true, true, true, false, false, false, false] rfl rfl (by kernel_rfl) (fun _ _ _ h => h) (Or.inl ⟨by rfl, ?_⟩) ?_ ?_
          rotate_left
          · intro w'
            go_simp
            with_reducible rfl
          rotate_left
          · simp only [Act.put, List.setIfInBounds_toArray, List.set_cons_zero, List.set_cons_succ, i64_w, i32_w]
            rfl
          refine pure_ (i := 6) (N := some 22) (v := ?_) (a' := ?_) #[true, true, true, true, true, true, true, false, false, false] rfl rfl (by kernel_rfl) (fun _ _ _ h => h) (Or.inl ⟨by rfl, ?_⟩) ?_ ?_
          rotate_left
          · intro w'
            go_simp
            with_reducible rfl
          rotate_left
          · simp only [Act.put, List.setIfInBounds_toArray, List.set_cons_zero, List.set_cons_succ, i64_w, i32_w]
            rfl
          refine pure_ (i := 7) (N := some 23) (v := ?_) (a' := ?_) #[true, true, true, true, true, true, true, true, false, false] rfl rfl (by kernel_rfl) (fun _ _ _ h => h) (Or.inl ⟨by rfl, ?_⟩) ?_ ?_
          rotate_left
          · intro w'
            go_simp
            with_reducible rfl
          rotate_left
          · simp only [Act.put, List.setIfInBounds_toArray, List.set_cons_zero, List.set_cons_succ, i64_w, i32_w]
            rfl
          refine pure_ (i := 8) (N := some 6) (v := ?_) (a' := ?_) #[true, true, true, true, true, true, true, true, true, false] rfl rfl (by kernel_rfl) (fun _ _ _ h => h) (Or.inl ⟨by rfl, ?_⟩) ?_ ?_
          rotate_left
          · intro w'
            go_simp
            with_reducible rfl
          rotate_left
          · simp only [Act.put, List.setIfInBounds_toArray, List.set_cons_zero, List.set_cons_succ, i64_w, i32_w]
            rfl
          refine pure_ (i := 9) (N := some 7) (v := ?_) (a' := ?_) #[true, true, true, true, true, true, true, true, true, true] rfl rfl (by kernel_rfl) (fun _ _ _ h => h) (Or.inl ⟨by rfl, ?_⟩) ?_ ?_
          rotate_left
          · intro w'
            go_simp
            with_reducible rfl
          rotate_left
          · simp only [Act.put, List.setIfInBounds_toArray, List.set_cons_zero, List.set_cons_succ, i64_w, i32_w]
            rfl
          refine done_ (by kernel_rfl) ?_
          (try clear hHeld)
          obtain ⟨hcz3_0, hcz3_1, hcz3_f0, hcz3_f1⟩ := lk_c2 BK385.out
          go_wp2_with (first | ((with_reducible refine gate_callee (f := 23) rfl ?_); refine goesL_ (some 25) rfl rfl Try.func23 (by kernel_rfl) rfl #[.agg #[.int .i64 a1_0, .slice A1_1 l1_1.length c1_1]] rfl (by (try simp only [List.map_toArray, List.map_cons, List.map_nil]); first | done | rfl | (simp only [List.length_drop, List.length_take]; rfl)) ?_; (with_reducible refine (laws_toEpochBoxes.calls k a1_0 _ _ l1_1 t397 t398 _ ?side1 ?side2 A8.out).mono ?_); (case side1 => exact Kd.C_below HR1_1.out (by repeat (first | (with_reducible first | exact HB.out | apply below_alloc | apply pw_below_drewN | apply below_drew1) | exact HB.out))); (case side2 => exact HC1_1.out); rintro e wv8 ⟨vq4_, rfl, ho0, hb⟩; refine ⟨_, rfl, ?_⟩; have hkW := (show Kept wv7 wv7 (fun k_ => False) from by repeat (first | (with_reducible first | exact Kept.refl _ _ | apply Kept.alloc | apply Kept.drewN | apply Kept.drew) | exact Kept.refl _ _)); have hk2 := Kept.below hkW hb; obtain ⟨Aq4_, cq4_, rfl⟩ := Kd.S_slice ho0; obtain ⟨okq4_, hoo0, hi0⟩ := lk_S ho0 (a := wv7.heap.size) (b := w.heap.size) hkW.1 (Nat.le_trans HB.out.size hkW.1); have n0_ := Aside0.mk (Kd.S_below HOq2_.out hb); have n1_ := Aside0.mk (blk_below BK384.out hb); have n2_ := Aside0.mk (blk_below BK385.out hb); have n3_ := Aside0.mk (below_step (by repeat (first | (with_reducible first | exact HB.out | apply below_alloc | apply pw_below_drewN | apply below_drew1) | exact HB.out)) hb); have n4_ := Aside0.mk (And.intro HLA.out (hk2.1 : wv7.heap.size ≤ wv8.heap.size)); have n5_ := Aside0.mk (hoo0); have n6_ := Aside0.mk (hi0); clear HOq2_; clear BK384; clear BK385; clear HB; clear HLA; have HOq2_ := n0_; have BK384 := n1_; have BK385 := n2_; have HB := n3_; have HLA := n4_; have HOq4_ := n5_; have HIq4_ := n6_; clear n0_ n1_ n2_ n3_ n4_ n5_ n6_; (try clear hb); (try clear hkW); (try clear hk2); (try clear hkp); (try clear hoo0); (try clear hi0); (try clear ho0)) | ((with_reducible refine gate_dst (N := 8) rfl ?_); refine box_event ?hg (N := 8) ?hd (cs := #[.int .i64 0, .slice none 0 0]) (t := 49) ?hr ?_; (case hd => rfl); (case hg => rfl); (case hr => first | (go_simp; done) | (go_simp; rfl)); intro gb401 hg wv9 hbox hb; have n0_ := Aside0.mk (Kd.S_below HOq2_.out hb); have n1_ := Aside0.mk (Kd.S_below HOq4_.out hb); have n2_ := Aside0.mk (blk_below BK384.out hb); have n3_ := Aside0.mk (blk_below BK385.out hb); have n4_ := Aside0.mk (below_step HB.out hb); have n5_ := Aside0.mk (hbox); have n6_ := Aside0.mk ((by rw [hg]; exact Nat.le_trans HB.out.size ((show Kept wv8 wv8 (fun k_ => False) from by repeat (first | (with_reducible first | exact Kept.refl _ _ | apply Kept.alloc | apply Kept.drewN | apply Kept.drew) | exact Kept.refl _ _))).1 : w.heap.size ≤ gb401)); have n7_ := Aside0.mk ((⟨by rw [hg]; exact ((show Kept wv8 wv8 (fun k_ => False) from by repeat (first | (with_reducible first | exact Kept.refl _ _ | apply Kept.alloc | apply Kept.drewN | apply Kept.drew) | exact Kept.refl _ _))).1, blk_lt hbox⟩ : wv8.heap.size ≤ gb401 ∧ gb401 < wv9.heap.size)); have n8_ := Aside0.mk (And.intro HLA.out ((Kept.below (show Kept wv8 wv8 (fun k_ => False) from by repeat (first | (with_reducible first | exact Kept.refl _ _ | apply Kept.alloc | apply Kept.drewN | apply Kept.drew) | exact Kept.refl _ _)) hb).1 : wv8.heap.size ≤ wv9.heap.size)); clear HOq2_; clear HOq4_; clear BK384; clear BK385; clear HB; clear HLA; have HOq2_ := n0_; have HOq4_ := n1_; have BK384 := n2_; have BK385 := n3_; have HB := n4_; have BK401 := n5_; have GE401 := n6_; have HG401 := n7_; have HLA := n8_; clear n0_ n1_ n2_ n3_ n4_ n5_ n6_ n7_ n8_; clear hb hbox hg; obtain ⟨hcz5_0, hcz5_1, hcz5_f0, hcz5_f1⟩ := lk_c2 BK401.out))
          have n0_ := Aside0.mk (Kd.S_kept HOq2_.out (show Kept wv9 ((wv9.setCell ⟨gb401, 0, none⟩ (.int .i64 t397)).setCell ⟨gb401, 1, none⟩ (.slice Aq4_ t398.length cq4_)).drew (fun k_ => k_ = gb401) from by repeat (first | (with_reducible first | exact Kept.refl _ _ | apply Kept.alloc | apply Kept.drewN | apply Kept.drew) | refine Kept.setCell ?_ (.inl (by first | exact rfl | exact .inl rfl | exact .inr rfl | exact .inr (.inl rfl) | exact .inr (.inr rfl))) _ | exact Kept.refl _ _)) (fun k_ hk_ hs_ => by have i_ := HIq2_.out k_ hk_; have hs2_ : k_ = gb401 := hs_; have g0_ := HG401.out; have z_ := HLA.out; omega))
          have n1_ := Aside0.mk (Kd.S_kept HOq4_.out (show Kept wv9 ((wv9.setCell ⟨gb401, 0, none⟩ (.int .i64 t397)).setCell ⟨gb401, 1, none⟩ (.slice Aq4_ t398.length cq4_)).drew (fun k_ => k_ = gb401) from by repeat (first | (with_reducible first | exact Kept.refl _ _ | apply Kept.alloc | apply Kept.drewN | apply Kept.drew) | refine Kept.setCell ?_ (.inl (by first | exact rfl | exact .inl rfl | exact .inr rfl | exact .inr (.inl rfl) | exact .inr (.inr rfl))) _ | exact Kept.refl _ _)) (fun k_ hk_ hs_ => by have i_ := HIq4_.out k_ hk_; have hs2_ : k_ = gb401 := hs_; have g0_ := HG401.out; have z_ := HLA.out; omega))
          have n2_ := Aside0.mk ((blk_kept BK384.out (show Kept wv9 ((wv9.setCell ⟨gb401, 0, none⟩ (.int .i64 t397)).setCell ⟨gb401, 1, none⟩ (.slice Aq4_ t398.length cq4_)).drew (fun k_ => k_ = gb401) from by repeat (first | (with_reducible first | exact Kept.refl _ _ | apply Kept.alloc | apply Kept.drewN | apply Kept.drew) | refine Kept.setCell ?_ (.inl (by first | exact rfl | exact .inl rfl | exact .inr rfl | exact .inr (.inl rfl) | exact .inr (.inr rfl))) _ | exact Kept.refl _ _)) (fun hs_ => by have hs2_ : gb384 = gb401 := hs_; have g_ := HG384.out; have g0_ := HG401.out; have z_ := HLA.out; omega)))
          have n3_ := Aside0.mk ((blk_kept BK385.out (show Kept wv9 ((wv9.setCell ⟨gb401, 0, none⟩ (.int .i64 t397)).setCell ⟨gb401, 1, none⟩ (.slice Aq4_ t398.length cq4_)).drew (fun k_ => k_ = gb401) from by repeat (first | (with_reducible first | exact Kept.refl _ _ | apply Kept.alloc | apply Kept.drewN | apply Kept.drew) | refine Kept.setCell ?_ (.inl (by first | exact rfl | exact .inl rfl | exact .inr rfl | exact .inr (.inl rfl) | exact .inr (.inr rfl))) _ | exact Kept.refl _ _)) (fun hs_ => by have hs2_ : gb385 = gb401 := hs_; have g_ := HG385.out; have g0_ := HG401.out; have z_ := HLA.out; omega)))
          have n4_ := Aside0.mk ((show ((wv9.setCell ⟨gb401, 0, none⟩ (.int .i64 t397)).setCell ⟨gb401, 1, none⟩ (.slice Aq4_ t398.length cq4_)).drew.heap[gb401]? = some (Obj.cells #[.int .i64 t397, .slice Aq4_ t398.length cq4_] 49 (0, 0)) from by (with_reducible repeat (first | refine blk_drewN ?_ _ | refine blk_drew ?_ | refine blk_alloc ?_ _)); refine blk_put (cs := #[.int .i64 t397, .slice none 0 0]) ?_ 1 _ rfl; (with_reducible repeat (first | refine blk_drewN ?_ _ | refine blk_drew ?_ | refine blk_alloc ?_ _)); refine blk_put (cs := #[.int .i64 0, .slice none 0 0]) ?_ 0 _ rfl; (with_reducible repeat (first | refine blk_drewN ?_ _ | refine blk_drew ?_ | refine blk_alloc ?_ _)); exact BK401.out))
          have n5_ := Aside0.mk ((show Below w.heap.size w (((wv9.setCell ⟨gb401, 0, none⟩ (.int .i64 t397)).setCell ⟨gb401, 1, none⟩ (.slice Aq4_ t398.length cq4_)).drew) from by repeat (first | (with_reducible first | exact HB.out | apply below_alloc | apply pw_below_drewN | apply below_drew1 | refine below_set ?_ GE401.out) | exact HB.out)))
          have n6_ := Aside0.mk (And.intro HLA.out ((show Kept wv9 ((wv9.setCell ⟨gb401, 0, none⟩ (.int .i64 t397)).setCell ⟨gb401, 1, none⟩ (.slice Aq4_ t398.length cq4_)).drew (fun k_ => k_ = gb401) from by repeat (first | (with_reducible first | exact Kept.refl _ _ | apply Kept.alloc | apply Kept.drewN | apply Kept.drew) | refine Kept.setCell ?_ (.inl (by first | exact rfl | exact .inl rfl | exact .inr rfl | exact .inr (.inl rfl) | exact .inr (.inr rfl))) _ | exact Kept.refl _ _)).1 : wv9.heap.size ≤ (((wv9.setCell ⟨gb401, 0, none⟩ (.int .i64 t397)).setCell ⟨gb401, 1, none⟩ (.slice Aq4_ t398.length cq4_)).drew).heap.size))
          clear HOq2_
          clear HOq4_
          clear BK384
          clear BK385
          clear BK401
          clear HB
          clear HLA
          have HOq2_ := n0_
          have HOq4_ := n1_
          have BK384 := n2_
          have BK385 := n3_
          have BK401 := n4_
          have HB := n5_
          have HLA := n6_
          clear n0_ n1_ n2_ n3_ n4_ n5_ n6_
          refine start_ (n := 9) (S := fun w' => w'.cell? ⟨gb384, 0, none⟩ = some (.int .i64 a0_0) ∧ w'.cell? ⟨gb384, 1, none⟩ = some (.int .i64 a0_1) ∧ w'.cell? ⟨gb384, 2, none⟩ = some (.int .i64 a0_2) ∧ w'.cell? ⟨gb384, 3, none⟩ = some (.int .i64 a0_3) ∧ w'.cell? ⟨gb401, 0, none⟩ = some (.int .i64 t397) ∧ w'.cell? ⟨gb401, 1, none⟩ = some (.slice Aq4_ t398.length cq4_)) (ds := []) #[false, false, false, false, false, false, false, false, false] (by kernel_rfl) rfl rfl ⟨(blk_cell BK384.out 0).trans rfl, (blk_cell BK384.out 1).trans rfl, (blk_cell BK384.out 2).trans rfl, (blk_cell BK384.out 3).trans rfl, (blk_cell BK401.out 0).trans rfl, (blk_cell BK401.out 1).trans rfl⟩ (fun hHeld => ?_)
          generalize ((wv9.setCell ⟨gb401, 0, none⟩ (.int .i64 t397)).setCell ⟨gb401, 1, none⟩ (.slice Aq4_ t398.length cq4_)).drew = wv10 at HOq2_ HOq4_ BK384 BK385 BK401 HB HLA hHeld ⊢
          refine take_ (i := 0) (N := some 27) (v := ?_) (a' := ?_) #[true, false, false, false, false, false, false, false, false] rfl rfl (by kernel_rfl) (fun _ _ _ h => h) (Or.inl ⟨by rfl, ?_⟩) hHeld ?_ ?_
          rotate_left
          · rintro w' ⟨s0, s1, s2, s3, s4, s5⟩
            go_simp
            with_reducible rfl
          rotate_left
          · simp only [Act.put, List.setIfInBounds_toArray, List.set_cons_zero, List.set_cons_succ, i64_w, i32_w]
            rfl
          refine take_ (i := 2) (N := some 29) (v := ?_) (a' := ?_) #[true, false, true, false, false, false, false, false, false] rfl rfl (by kernel_rfl) (fun _ _ _ h => h) (Or.inl ⟨by rfl, ?_⟩) hHeld ?_ ?_
          rotate_left
          · rintro w' ⟨s0, s1, s2, s3, s4, s5⟩
            go_simp
            with_reducible rfl
          rotate_left
          · simp only [Act.put, List.setIfInBounds_toArray, List.set_cons_zero, List.set_cons_succ, i64_w, i32_w]
            rfl
          refine one_ (i := 1) (N := some 28) #[true, true, true, false, false, false, false, false, false] rfl rfl (by kernel_rfl) (by decide) (fun K hK => ?_)
          refine goes_ Try.func34 (by kernel_rfl) rfl #[.agg #[.int .i64 a0_0, .int .i64 a0_1, .int .i64 a0_2, .int .i64 a0_3]] (by rfl) rfl rfl (by (try simp only [List.map_toArray, List.map_cons, List.map_nil]); first | done | rfl | (simp only [List.length_drop, List.length_take]; rfl)) ?_
          (with_reducible refine (laws_toKeyStore.calls a0_0 a0_1 a0_2 a0_3 t402 t403 t404 t405 _  A9.out).mono ?_)
          rintro e wv11 ⟨rfl, hb⟩
          refine ⟨_, rfl, ?_⟩
          have hkW := (show Kept wv10 wv10 (fun k_ => False) from by repeat (first | (with_reducible first | exact Kept.refl _ _ | apply Kept.alloc | apply Kept.drewN | apply Kept.drew) | exact Kept.refl _ _))
          have hk2 := Kept.below hkW hb
          have n0_ := Aside0.mk (Kd.S_below HOq2_.out hb)
          have n1_ := Aside0.mk (Kd.S_below HOq4_.out hb)
          have n2_ := Aside0.mk (blk_below BK384.out hb)
          have n3_ := Aside0.mk (blk_below BK385.out hb)
          have n4_ := Aside0.mk (blk_below BK401.out hb)
          have n5_ := Aside0.mk (below_step (by repeat (first | (with_reducible first | exact HB.out | apply below_alloc | apply pw_below_drewN | apply below_drew1) | exact HB.out)) hb)
          have n6_ := Aside0.mk (And.intro HLA.out (hk2.1 : wv10.heap.size ≤ wv11.heap.size))
          clear HOq2_
          clear HOq4_
          clear BK384
          clear BK385
          clear BK401
          clear HB
          clear HLA
          have HOq2_ := n0_
          have HOq4_ := n1_
          have BK384 := n2_
          have BK385 := n3_
          have BK401 := n4_
          have HB := n5_
          have HLA := n6_
          clear n0_ n1_ n2_ n3_ n4_ n5_ n6_
          (try clear hb)
          (try clear hkW)
          (try clear hk2)
          (try clear hkp)
          refine hK.out _ _ ⟨(blk_cell BK384.out 0).trans rfl, (blk_cell BK384.out 1).trans rfl, (blk_cell BK384.out 2).trans rfl, (blk_cell BK384.out 3).trans rfl, (blk_cell BK401.out 0).trans rfl, (blk_cell BK401.out 1).trans rfl⟩ (fun hHeld => ?_)
          clear hK K
          refine norm_ (a' := ?_) ?_ ?_
          rotate_left
          · show Act.put _ (some 28) _ = _
            simp only [Act.put, List.setIfInBounds_toArray, List.set_cons_zero, List.set_cons_succ, i64_w, i32_w]
            rfl
          refine one_ (i := 3) (N := some 30) #[true, true, true, true, false, false, false, false, false] rfl rfl (by kernel_rfl) (by decide) (fun K hK => ?_)
          refine goes_ Try.func35 (by kernel_rfl) rfl #[.agg #[.int .i64 t402, .int .i64 t403, .int .i64 t404, .int .i64 t405], .agg #[.int .i64 t397, .slice Aq4_ t398.length cq4_]] (by rfl) rfl rfl (by (try simp only [List.map_toArray, List.map_cons, List.map_nil]); first | done | rfl | (simp only [List.length_drop, List.length_take]; rfl)) ?_
          (with_reducible refine (impl_OpenEpochBoxes.calls k t402 t403 t404 t405 t397 _ _ t398 t406 t407 _ ?side1 ?side2 A10.out).mono ?_)
          (case side1 => exact (Kd.S_reads' HOq4_.out).2.2)
          (case side2 => have h1_ := (Kd.S_reads' HOq4_.out).1; have h2_ := (Kd.S_reads' HOq4_.out).2.1; omega)
          rintro e wv12 ⟨rfl, hb⟩
          refine ⟨_, rfl, ?_⟩
          have hkW := (show Kept wv11 wv11 (fun k_ => False) from by repeat (first | (with_reducible first | exact Kept.refl _ _ | apply Kept.alloc | apply Kept.drewN | apply Kept.drew) | exact Kept.refl _ _))
          have hk2 := Kept.below hkW hb
          have n0_ := Aside0.mk (Kd.S_below HOq2_.out hb)
          have n1_ := Aside0.mk (Kd.S_below HOq4_.out hb)
          have n2_ := Aside0.mk (blk_below BK384.out hb)
          have n3_ := Aside0.mk (blk_below BK385.out hb)
          have n4_ := Aside0.mk (blk_below BK401.out hb)
          have n5_ := Aside0.mk (below_step (by repeat (first | (with_reducible first | exact HB.out | apply below_alloc | apply pw_below_drewN | apply below_drew1) | exact HB.out)) hb)
          have n6_ := Aside0.mk (And.intro HLA.out (hk2.1 : wv11.heap.size ≤ wv12.heap.size))
          clear HOq2_
          clear HOq4_
          clear BK384
          clear BK385
          clear BK401
          clear HB
          clear HLA
          have HOq2_ := n0_
          have HOq4_ := n1_
          have BK384 := n2_
          have BK385 := n3_
          have BK401 := n4_
          have HB := n5_
          have HLA := n6_
          clear n0_ n1_ n2_ n3_ n4_ n5_ n6_
          (try clear hb)
          (try clear hkW)
          (try clear hk2)
          (try clear hkp)
          refine hK.out _ _ ⟨(blk_cell BK384.out 0).trans rfl, (blk_cell BK384.out 1).trans rfl, (blk_cell BK384.out 2).trans rfl, (blk_cell BK384.out 3).trans rfl, (blk_cell BK401.out 0).trans rfl, (blk_cell BK401.out 1).trans rfl⟩ (fun hHeld => ?_)
          clear hK K
          refine norm_ (a' := ?_) ?_ ?_
          rotate_left
          · show Act.put _ (some 30) _ = _
            simp only [Act.put, List.setIfInBounds_toArray, List.set_cons_zero, List.set_cons_succ, i64_w, i32_w]
            rfl
          refine pure_ (i := 4) (N := some 26) (v := ?_) (a' := ?_) #[true, true, true, true, true, false, false, false, false] rfl rfl (by kernel_rfl) (fun _ _ _ h => h) (Or.inl ⟨by rfl, ?_⟩) ?_ ?_
          rotate_left
          · intro w'
            go_simp
            with_reducible rfl
          rotate_left
          · simp only [Act.put, List.setIfInBounds_toArray, List.set_cons_zero, List.set_cons_succ, i64_w, i32_w]
            rfl
          refine pure_ (i := 5) (N := some 31) (v := ?_) (a' := ?_) #[true, true, true, true, true, true, false, false, false] rfl rfl (by kernel_rfl) (fun _ _ _ h => h) (Or.inl ⟨by rfl, ?_⟩) ?_ ?_
          rotate_left
          · intro w'
            go_simp
            with_reducible rfl
          rotate_left
          · simp only [Act.put, List.setIfInBounds_toArray, List.set_cons_zero, List.set_cons_succ, i64_w, i32_w]
            rfl
          refine pure_ (i := 6) (N := some 32) (v := ?_) (a' := ?_) #[true, true, true, true, true, true, true, false, false] rfl rfl (by kernel_rfl) (fun _ _ _ h => h) (Or.inl ⟨by rfl, ?_⟩) ?_ ?_
          rotate_left
          · intro w'
            go_simp
            with_reducible rfl
          rotate_left
          · simp only [Act.put, List.setIfInBounds_toArray, List.set_cons_zero, List.set_cons_succ, i64_w, i32_w]
            rfl
          refine pure_ (i := 7) (N := some 9) (v := ?_) (a' := ?_) #[true, true, true, true, true, true, true, true, false] rfl rfl (by kernel_rfl) (fun _ _ _ h => h) (Or.inl ⟨by rfl, ?_⟩) ?_ ?_
          rotate_left
          · intro w'
            go_simp
            with_reducible rfl
          rotate_left
          · simp only [Act.put, List.setIfInBounds_toArray, List.set_cons_zero, List.set_cons_succ, i64_w, i32_w]
            rfl
          refine pure_ (i := 8) (N := some 10) (v := ?_) (a' := ?_) #[true, true, true, true, true, true, true, true, true] rfl rfl (by kernel_rfl) (fun _ _ _ h => h) (Or.inl ⟨by rfl, ?_⟩) ?_ ?_
          rotate_left
          · intro w'
            go_simp
            with_reducible rfl
          rotate_left
          · simp only [Act.put, List.setIfInBounds_toArray, List.set_cons_zero, List.set_cons_succ, i64_w, i32_w]
            rfl
          refine done_ (by kernel_rfl) ?_
          (try clear hHeld)
          try go_wp2
          have n0_ := Aside0.mk (Kd.S_kept HOq2_.out (show Kept wv12 wv12.drew (fun k_ => False) from by repeat (first | (with_reducible first | exact Kept.refl _ _ | apply Kept.alloc | apply Kept.drewN | apply Kept.drew) | exact Kept.refl _ _)) (fun _ _ hs_ => hs_.elim))
          have n1_ := Aside0.mk (Kd.S_kept HOq4_.out (show Kept wv12 wv12.drew (fun k_ => False) from by repeat (first | (with_reducible first | exact Kept.refl _ _ | apply Kept.alloc | apply Kept.drewN | apply Kept.drew) | exact Kept.refl _ _)) (fun _ _ hs_ => hs_.elim))
          have n2_ := Aside0.mk ((blk_kept BK384.out (show Kept wv12 wv12.drew (fun k_ => False) from by repeat (first | (with_reducible first | exact Kept.refl _ _ | apply Kept.alloc | apply Kept.drewN | apply Kept.drew) | exact Kept.refl _ _)) (fun hs_ => hs_.elim)))
          have n3_ := Aside0.mk ((blk_kept BK385.out (show Kept wv12 wv12.drew (fun k_ => False) from by repeat (first | (with_reducible first | exact Kept.refl _ _ | apply Kept.alloc | apply Kept.drewN | apply Kept.drew) | exact Kept.refl _ _)) (fun hs_ => hs_.elim)))
          have n4_ := Aside0.mk ((blk_kept BK401.out (show Kept wv12 wv12.drew (fun k_ => False) from by repeat (first | (with_reducible first | exact Kept.refl _ _ | apply Kept.alloc | apply Kept.drewN | apply Kept.drew) | exact Kept.refl _ _)) (fun hs_ => hs_.elim)))
          have n5_ := Aside0.mk ((show Below w.heap.size w (wv12.drew) from by repeat (first | (with_reducible first | exact HB.out | apply below_alloc | apply pw_below_drewN | apply below_drew1) | exact HB.out)))
          have n6_ := Aside0.mk (And.intro HLA.out ((show Kept wv12 wv12.drew (fun k_ => False) from by repeat (first | (with_reducible first | exact Kept.refl _ _ | apply Kept.alloc | apply Kept.drewN | apply Kept.drew) | exact Kept.refl _ _)).1 : wv12.heap.size ≤ (wv12.drew).heap.size))
          clear HOq2_
          clear HOq4_
          clear BK384
          clear BK385
          clear BK401
          clear HB
          clear HLA
          have HOq2_ := n0_
          have HOq4_ := n1_
          have BK384 := n2_
          have BK385 := n3_
          have BK401 := n4_
          have HB := n5_
          have HLA := n6_
          clear n0_ n1_ n2_ n3_ n4_ n5_ n6_
          refine start_ (n := 5) (S := fun w' => w'.cell? ⟨gb401, 0, none⟩ = some (.int .i64 t397) ∧ w'.cell? ⟨gb401, 1, none⟩ = some (.slice Aq4_ t398.length cq4_) ∧ w'.cell? ⟨gb385, 0, none⟩ = some (.int .i64 a1_0) ∧ w'.cell? ⟨gb385, 1, none⟩ = some (.slice A1_1 l1_1.length c1_1)) (ds := []) #[false, false, false, false, false] (by kernel_rfl) rfl rfl ⟨(blk_cell BK401.out 0).trans rfl, (blk_cell BK401.out 1).trans rfl, (blk_cell BK385.out 0).trans rfl, (blk_cell BK385.out 1).trans rfl⟩ (fun hHeld => ?_)
          generalize wv12.drew = wv13 at HOq2_ HOq4_ BK384 BK385 BK401 HB HLA hHeld ⊢
          refine take_ (i := 0) (N := some 41) (v := ?_) (a' := ?_) #[true, false, false, false, false] rfl rfl (by kernel_rfl) (fun _ _ _ h => h) (Or.inl ⟨by rfl, ?_⟩) hHeld ?_ ?_
          rotate_left
          · rintro w' ⟨s0, s1, s2, s3⟩
            go_simp
            with_reducible rfl
          rotate_left
          · simp only [Act.put, List.setIfInBounds_toArray, List.set_cons_zero, List.set_cons_succ, i64_w, i32_w]
            rfl
          refine take_ (i := 1) (N := some 42) (v := ?_) (a' := ?_) #[true, true, false, false, false] rfl rfl (by kernel_rfl) (fun _ _ _ h => h) (Or.inl ⟨by rfl, ?_⟩) hHeld ?_ ?_
          rotate_left
          · rintro w' ⟨s0, s1, s2, s3⟩
            go_simp
            with_reducible rfl
          rotate_left
          · simp only [Act.put, List.setIfInBounds_toArray, List.set_cons_zero, List.set_cons_succ, i64_w, i32_w]
            rfl
          refine one_ (i := 2) (N := some 43) #[true, true, true, false, false] rfl rfl (by kernel_rfl) (by decide) (fun K hK => ?_)
          refine goes_ Try.func23 (by kernel_rfl) rfl #[.agg #[.int .i64 a1_0, .slice A1_1 l1_1.length c1_1]] (by rfl) rfl rfl (by (try simp only [List.map_toArray, List.map_cons, List.map_nil]); first | done | rfl | (simp only [List.length_drop, List.length_take]; rfl)) ?_
          (with_reducible refine (laws_toEpochBoxes.calls k a1_0 _ _ l1_1 t408 t409 _ ?side1 ?side2 A13.out).mono ?_)
          (case side1 => exact Kd.C_below HR1_1.out (by repeat (first | (with_reducible first | exact HB.out | apply below_alloc | apply pw_below_drewN | apply below_drew1) | exact HB.out)))
          (case side2 => exact HC1_1.out)
          rintro e wv14 ⟨vq6_, rfl, ho0, hb⟩
          refine ⟨_, rfl, ?_⟩
          have hkW := (show Kept wv13 wv13 (fun k_ => False) from by repeat (first | (with_reducible first | exact Kept.refl _ _ | apply Kept.alloc | apply Kept.drewN | apply Kept.drew) | exact Kept.refl _ _))
          have hk2 := Kept.below hkW hb
          obtain ⟨Aq6_, cq6_, rfl⟩ := Kd.S_slice ho0
          obtain ⟨okq6_, hoo0, hi0⟩ := lk_S ho0 (a := wv13.heap.size) (b := w.heap.size) hkW.1 (Nat.le_trans HB.out.size hkW.1)
          have n0_ := Aside0.mk (Kd.S_below HOq2_.out hb)
          have n1_ := Aside0.mk (Kd.S_below HOq4_.out hb)
          have n2_ := Aside0.mk (blk_below BK384.out hb)
          have n3_ := Aside0.mk (blk_below BK385.out hb)
          have n4_ := Aside0.mk (blk_below BK401.out hb)
          have n5_ := Aside0.mk (below_step (by repeat (first | (with_reducible first | exact HB.out | apply below_alloc | apply pw_below_drewN | apply below_drew1) | exact HB.out)) hb)
          have n6_ := Aside0.mk (And.intro HLA.out (hk2.1 : wv13.heap.size ≤ wv14.heap.size))
          have n7_ := Aside0.mk (hoo0)
          have n8_ := Aside0.mk (hi0)
          clear HOq2_
          clear HOq4_
          clear BK384
          clear BK385
          clear BK401
          clear HB
          clear HLA
          have HOq2_ := n0_
          have HOq4_ := n1_
          have BK384 := n2_
          have BK385 := n3_
          have BK401 := n4_
          have HB := n5_
          have HLA := n6_
          have HOq6_ := n7_
          have HIq6_ := n8_
          clear n0_ n1_ n2_ n3_ n4_ n5_ n6_ n7_ n8_
          (try clear hb)
          (try clear hkW)
          (try clear hk2)
          (try clear hkp)
          (try clear hoo0)
          (try clear hi0)
          (try clear ho0)
          refine hK.out _ _ ⟨(blk_cell BK401.out 0).trans rfl, (blk_cell BK401.out 1).trans rfl, (blk_cell BK385.out 0).trans rfl, (blk_cell BK385.out 1).trans rfl⟩ (fun hHeld => ?_)
          clear hK K
          refine norm_ (a' := ?_) ?_ ?_
          rotate_left
          · show Act.put _ (some 43) _ = _
            simp only [Act.put, List.setIfInBounds_toArray, List.set_cons_zero, List.set_cons_succ, i64_w, i32_w]
            rfl
          refine one_ (i := 3) (N := some 44) #[true, true, true, true, false] rfl rfl (by kernel_rfl) (by decide) (fun K hK => ?_)
          refine goes_ Try.func26 (by kernel_rfl) rfl #[.agg #[.int .i64 t397, .slice Aq4_ t398.length cq4_], .agg #[.int .i64 t408, .slice Aq6_ t409.length cq6_]] (by rfl) rfl rfl (by (try simp only [List.map_toArray, List.map_cons, List.map_nil]); first | done | rfl | (simp only [List.length_drop, List.length_take]; rfl)) ?_
          (with_reducible refine (laws_eqEpochBoxes.calls k t397 _ _ t398 t408 _ _ t409 true _ ?side1 ?side2 ?side3 ?side4 A14.out).mono ?_)
          (case side1 => exact (Kd.S_reads' HOq4_.out).2.2)
          (case side2 => have h1_ := (Kd.S_reads' HOq4_.out).1; have h2_ := (Kd.S_reads' HOq4_.out).2.1; omega)
          (case side3 => exact (Kd.S_reads' HOq6_.out).2.2)
          (case side4 => have h1_ := (Kd.S_reads' HOq6_.out).1; have h2_ := (Kd.S_reads' HOq6_.out).2.1; omega)
          rintro e wv15 ⟨rfl, hb⟩
          refine ⟨_, rfl, ?_⟩
          have hkW := (show Kept wv14 wv14 (fun k_ => False) from by repeat (first | (with_reducible first | exact Kept.refl _ _ | apply Kept.alloc | apply Kept.drewN | apply Kept.drew) | exact Kept.refl _ _))
          have hk2 := Kept.below hkW hb
          have n0_ := Aside0.mk (Kd.S_below HOq2_.out hb)
          have n1_ := Aside0.mk (Kd.S_below HOq4_.out hb)
          have n2_ := Aside0.mk (Kd.S_below HOq6_.out hb)
          have n3_ := Aside0.mk (blk_below BK384.out hb)
          have n4_ := Aside0.mk (blk_below BK385.out hb)
          have n5_ := Aside0.mk (blk_below BK401.out hb)
          have n6_ := Aside0.mk (below_step (by repeat (first | (with_reducible first | exact HB.out | apply below_alloc | apply pw_below_drewN | apply below_drew1) | exact HB.out)) hb)
          have n7_ := Aside0.mk (And.intro HLA.out (hk2.1 : wv14.heap.size ≤ wv15.heap.size))
          clear HOq2_
          clear HOq4_
          clear HOq6_
          clear BK384
          clear BK385
          clear BK401
          clear HB
          clear HLA
          have HOq2_ := n0_
          have HOq4_ := n1_
          have HOq6_ := n2_
          have BK384 := n3_
          have BK385 := n4_
          have BK401 := n5_
          have HB := n6_
          have HLA := n7_
          clear n0_ n1_ n2_ n3_ n4_ n5_ n6_ n7_
          (try clear hb)
          (try clear hkW)
          (try clear hk2)
          (try clear hkp)
          refine hK.out _ _ ⟨(blk_cell BK401.out 0).trans rfl, (blk_cell BK401.out 1).trans rfl, (blk_cell BK385.out 0).trans rfl, (blk_cell BK385.out 1).trans rfl⟩ (fun hHeld => ?_)
          clear hK K
          refine norm_ (a' := ?_) ?_ ?_
          rotate_left
          · show Act.put _ (some 44) _ = _
            simp only [Act.put, List.setIfInBounds_toArray, List.set_cons_zero, List.set_cons_succ, i64_w, i32_w]
            rfl
          refine pure_ (i := 4) (N := some 45) (v := ?_) (a' := ?_) #[true, true, true, true, true] rfl rfl (by kernel_rfl) (fun _ _ _ h => h) (Or.inl ⟨by rfl, ?_⟩) ?_ ?_
          rotate_left
          · intro w'
            go_simp
            with_reducible rfl
          rotate_left
          · simp only [Act.put, List.setIfInBounds_toArray, List.set_cons_zero, List.set_cons_succ, i64_w, i32_w]
            rfl
          refine done_ (by kernel_rfl) ?_
          (try clear hHeld)
          try go_wp2
          go_ret
          exact ⟨by first | rfl | (simp [*] <;> rfl), by repeat (first | (with_reducible first | exact HB.out | apply below_alloc | apply pw_below_drewN | apply below_drew1) | exact HB.out)⟩
        · replace c15 := Bool.eq_false_iff.mpr c15
          subst c15
          have H1 : (some false) = some r := by rw [if_neg (show ¬ (false = true) by decide)] at H; exact H
          clear H
          have H := H1
          clear H1
          exact absurd ((Option.some.inj H).trans hT.out) (by decide)
    · rw [if_neg c11] at H
      have c11b0 : (t406 == t395) = false := beq_eq_false_iff_ne.mpr c11
      have c11b1 : (t406 != t395) = true := bne_iff_ne.mpr c11
      exact absurd ((Option.some.inj H).trans hT.out) (by decide)

end Go.Proofs.Ytkmndimmglghoaa.PFnExactOpenEpochBoxes
