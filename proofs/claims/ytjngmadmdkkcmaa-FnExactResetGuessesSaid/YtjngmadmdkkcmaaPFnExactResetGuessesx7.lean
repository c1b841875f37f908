-- Made by a program of this session, after the kit's print of the translation. Lean checks it.
import Derived.Test.YtjngmadmdkkcmaaPFnExactResetGuessesx0
import Derived.Test.YtjngmadmdkkcmaaPFnExactResetGuessesx1
import Derived.Test.YtjngmadmdkkcmaaPFnExactResetGuessesx2
import Derived.Test.YtjngmadmdkkcmaaPFnExactResetGuessesx4
import Derived.Test.YtjngmadmdkkcmaaPFnExactResetGuessesx6
namespace Go.Proofs.Ytjngmadmdkkcmaa.PFnExactResetGuesses
open Go.RowKit Go.Proofs.YtjngmadmdkkcmaaW.PrintWords Go.Proofs.YtjngmadmdkkcmaaW.PrintLast Go.Proofs.YtjngmadmdkkcmaaW.PrintMore
attribute [local go_sem] max2_int min2_int max_two min_two max_three min_three max_four min_four   -- for this text's walks alone
set_option linter.unusedVariables false
set_option linter.unusedSimpArgs false

/-! ### laws_FnExactResetGuesses: function 6 -/
def laws_FnExactResetGuesses.f (k : Nat) (a0_0 : Int) (a0_1 : Int) (a0_2 : Int) (a0_3 : Int) (a0_4 : Int) (l0_5 : List (S44)) (a0_6 : Int) (a1_0 : Int) (a1_1 : Int) : Option (Bool) := (laws_szKeeperHost.f a0_0 a0_1 a0_2 a0_3 a0_4 l0_5 a0_6 1048576).bind fun t244 => (if t244 < 0 then (some true) else ((laws_toKeeperHost.f k a0_0 a0_1 a0_2 a0_3 a0_4 l0_5 a0_6).bind fun bt245 => ((laws_toShare.f a1_0 a1_1).bind fun bt254 => ((spec_ResetGuesses.f k bt245.1 bt245.2.1 bt245.2.2.1 bt245.2.2.2.1 bt245.2.2.2.2.1 bt245.2.2.2.2.2.1 bt245.2.2.2.2.2.2 bt254.1 bt254.2).bind fun bt256 => ((laws_toKeeperHost.f k a0_0 a0_1 a0_2 a0_3 a0_4 l0_5 a0_6).bind fun bt267 => ((laws_toShare.f a1_0 a1_1).bind fun bt277 => ((impl_ResetGuesses.f bt267.1 bt267.2.1 bt267.2.2.1 bt267.2.2.2.1 bt267.2.2.2.2.1 bt267.2.2.2.2.2.1 bt267.2.2.2.2.2.2 bt277.1 bt277.2).bind fun bt279 => ((laws_eqKeeperHost.f k bt279.1 bt279.2.1 bt279.2.2.1 bt279.2.2.2.1 bt279.2.2.2.2.1 bt279.2.2.2.2.2.1 bt279.2.2.2.2.2.2.1 bt256.1 bt256.2.1 bt256.2.2.1 bt256.2.2.2.1 bt256.2.2.2.2.1 bt256.2.2.2.2.2.1 bt256.2.2.2.2.2.2.1).bind fun t290 => (if t290 = true then (if (bt279.2.2.2.2.2.2.2 != bt256.2.2.2.2.2.2.2) = true then (some false) else ((laws_toKeeperHost.f k a0_0 a0_1 a0_2 a0_3 a0_4 l0_5 a0_6).bind fun bt291 => ((laws_eqKeeperHost.f k bt267.1 bt267.2.1 bt267.2.2.1 bt267.2.2.2.1 bt267.2.2.2.2.1 bt267.2.2.2.2.2.1 bt267.2.2.2.2.2.2 bt291.1 bt291.2.1 bt291.2.2.1 bt291.2.2.2.1 bt291.2.2.2.2.1 bt291.2.2.2.2.2.1 bt291.2.2.2.2.2.2).bind fun t300 => (if t300 = true then ((laws_markKeeperHost.f k bt267.1 bt267.2.1 bt267.2.2.1 bt267.2.2.2.1 bt267.2.2.2.2.1 bt267.2.2.2.2.2.1 bt267.2.2.2.2.2.2 1).bind fun bt301 => (if bt301.1 < 0 then (some false) else ((laws_eqKeeperHost.f k bt279.1 bt279.2.1 bt279.2.2.1 bt279.2.2.2.1 bt279.2.2.2.2.1 bt279.2.2.2.2.2.1 bt279.2.2.2.2.2.2.1 bt256.1 bt256.2.1 bt256.2.2.1 bt256.2.2.2.1 bt256.2.2.2.2.1 bt256.2.2.2.2.2.1 bt256.2.2.2.2.2.2.1).bind fun t303 => (if t303 = true then ((laws_markKeeperHost.f k bt279.1 bt279.2.1 bt279.2.2.1 bt279.2.2.2.1 bt279.2.2.2.2.1 bt279.2.2.2.2.2.1 bt279.2.2.2.2.2.2.1 1).bind fun bt304 => ((laws_heldKeeperHost.f k bt279.1 bt279.2.1 bt279.2.2.1 bt279.2.2.2.1 bt279.2.2.2.2.1 bt304.2 bt279.2.2.2.2.2.2.1 1).bind fun t306 => (if t306 < 0 then (some false) else (if t306 = bt304.1 then ((laws_toKeeperHost.f k a0_0 a0_1 a0_2 a0_3 a0_4 l0_5 a0_6).bind fun bt307 => ((laws_toShare.f a1_0 a1_1).bind fun bt316 => ((impl_ResetGuesses.f bt307.1 bt307.2.1 bt307.2.2.1 bt307.2.2.2.1 bt307.2.2.2.2.1 bt307.2.2.2.2.2.1 bt307.2.2.2.2.2.2 bt316.1 bt316.2).bind fun bt318 => ((laws_eqKeeperHost.f k bt318.1 bt318.2.1 bt318.2.2.1 bt318.2.2.2.1 bt318.2.2.2.2.1 bt318.2.2.2.2.2.1 bt318.2.2.2.2.2.2.1 bt256.1 bt256.2.1 bt256.2.2.1 bt256.2.2.2.1 bt256.2.2.2.2.1 bt256.2.2.2.2.2.1 bt256.2.2.2.2.2.2.1).bind fun t329 => (if t329 = true then (if (bt318.2.2.2.2.2.2.2 != bt256.2.2.2.2.2.2.2) = true then (some false) else ((laws_heldKeeperHost.f k bt279.1 bt279.2.1 bt279.2.2.1 bt279.2.2.2.1 bt279.2.2.2.2.1 bt304.2 bt279.2.2.2.2.2.2.1 1).bind fun t330 => (if t330 < 0 then (some false) else (if t330 = bt304.1 then (some true) else (some false))))) else (some false)))))) else (some false))))) else (some false))))) else (some false))))) else (some false))))))))))
theorem laws_FnExactResetGuesses.mono : ∀ a0 a1 a2 a3 a4 a5 a6 a7 a8 k, LeO (laws_FnExactResetGuesses.f k a0 a1 a2 a3 a4 a5 a6 a7 a8) (laws_FnExactResetGuesses.f (k + 1) a0 a1 a2 a3 a4 a5 a6 a7 a8) := by
  intro a0 a1 a2 a3 a4 a5 a6 a7 a8 k
  unfold laws_FnExactResetGuesses.f
  repeat' first
      | (with_reducible exact laws_eqKeeperHost.mono _ _ _ _ _ _ _ _ _ _ _ _ _ _ _)
      | (with_reducible exact laws_heldKeeperHost.mono _ _ _ _ _ _ _ _ _)
      | (with_reducible exact laws_markKeeperHost.mono _ _ _ _ _ _ _ _ _)
      | (with_reducible exact laws_toKeeperHost.mono _ _ _ _ _ _ _ _)
      | (with_reducible exact spec_ResetGuesses.mono _ _ _ _ _ _ _ _ _ _)
      | (with_reducible exact LeO.refl _)
      | (with_reducible exact LeO.none _)
      | (with_reducible refine LeO.ite ?_ ?_)
      | (with_reducible refine LeO.bind ?_ (fun _ => ?_))
      | exact laws_eqKeeperHost.mono _ _ _ _ _ _ _ _ _ _ _ _ _ _ _
      | exact laws_heldKeeperHost.mono _ _ _ _ _ _ _ _ _
      | exact laws_markKeeperHost.mono _ _ _ _ _ _ _ _ _
      | exact laws_toKeeperHost.mono _ _ _ _ _ _ _ _
      | exact spec_ResetGuesses.mono _ _ _ _ _ _ _ _ _ _
      | exact LeO.none _
      | refine LeO.ite ?_ ?_
      | refine LeO.bind ?_ (fun _ => ?_)
set_option maxHeartbeats 8000000 in
set_option maxRecDepth 100000 in
theorem laws_FnExactResetGuesses.calls (k : Nat) (a0_0 : Int) (a0_1 : Int) (a0_2 : Int) (a0_3 : Int) (a0_4 : Int) (A0_5 : Option Addr) (c0_5 : Nat) (l0_5 : List (S44)) (a0_6 : Int) (a1_0 : Int) (a1_1 : Int) (r : Bool) (w : World) (hr0_5 : Kd.C k44 w A0_5 l0_5.length l0_5) (hc0_5 : l0_5.length ≤ c0_5) (hT : Aside0 (r = true)) (h : laws_FnExactResetGuesses.f k a0_0 a0_1 a0_2 a0_3 a0_4 l0_5 a0_6 a1_0 a1_1 = some r) :
    Calls Try.prog 6 #[.agg #[.int .i64 a0_0, .int .i64 a0_1, .int .i64 a0_2, .int .i64 a0_3, .int .i64 a0_4, .slice A0_5 l0_5.length c0_5, .int .i64 a0_6], .agg #[.int .i64 a1_0, .int .i64 a1_1]] w fun e w' => e = .returned (.bool r) ∧ Below w.heap.size w w' := by
  have hu50 := Try.underlying50
  have hu42 := Try.underlying42
  have hu31 := Try.underlying31
  have HR0_5 := Aside0.mk hr0_5
  have HC0_5 := Aside0.mk hc0_5
  clear hr0_5 hc0_5
  have HB := Aside0.mk (Below.refl w.heap.size w)
  have H : ((laws_szKeeperHost.f a0_0 a0_1 a0_2 a0_3 a0_4 l0_5 a0_6 1048576).bind fun t244 => (if t244 < 0 then (some true) else ((laws_toKeeperHost.f k a0_0 a0_1 a0_2 a0_3 a0_4 l0_5 a0_6).bind fun bt245 => ((laws_toShare.f a1_0 a1_1).bind fun bt254 => ((spec_ResetGuesses.f k bt245.1 bt245.2.1 bt245.2.2.1 bt245.2.2.2.1 bt245.2.2.2.2.1 bt245.2.2.2.2.2.1 bt245.2.2.2.2.2.2 bt254.1 bt254.2).bind fun bt256 => ((laws_toKeeperHost.f k a0_0 a0_1 a0_2 a0_3 a0_4 l0_5 a0_6).bind fun bt267 => ((laws_toShare.f a1_0 a1_1).bind fun bt277 => ((impl_ResetGuesses.f bt267.1 bt267.2.1 bt267.2.2.1 bt267.2.2.2.1 bt267.2.2.2.2.1 bt267.2.2.2.2.2.1 bt267.2.2.2.2.2.2 bt277.1 bt277.2).bind fun bt279 => ((laws_eqKeeperHost.f k bt279.1 bt279.2.1 bt279.2.2.1 bt279.2.2.2.1 bt279.2.2.2.2.1 bt279.2.2.2.2.2.1 bt279.2.2.2.2.2.2.1 bt256.1 bt256.2.1 bt256.2.2.1 bt256.2.2.2.1 bt256.2.2.2.2.1 bt256.2.2.2.2.2.1 bt256.2.2.2.2.2.2.1).bind fun t290 => (if t290 = true then (if (bt279.2.2.2.2.2.2.2 != bt256.2.2.2.2.2.2.2) = true then (some false) else ((laws_toKeeperHost.f k a0_0 a0_1 a0_2 a0_3 a0_4 l0_5 a0_6).bind fun bt291 => ((laws_eqKeeperHost.f k bt267.1 bt267.2.1 bt267.2.2.1 bt267.2.2.2.1 bt267.2.2.2.2.1 bt267.2.2.2.2.2.1 bt267.2.2.2.2.2.2 bt291.1 bt291.2.1 bt291.2.2.1 bt291.2.2.2.1 bt291.2.2.2.2.1 bt291.2.2.2.2.2.1 bt291.2.2.2.2.2.2).bind fun t300 => (if t300 = true then ((laws_markKeeperHost.f k bt267.1 bt267.2.1 bt267.2.2.1 bt267.2.2.2.1 bt267.2.2.2.2.1 bt267.2.2.2.2.2.1 bt267.2.2.2.2.2.2 1).bind fun bt301 => (if bt301.1 < 0 then (some false) else ((laws_eqKeeperHost.f k bt279.1 bt279.2.1 bt279.2.2.1 bt279.2.2.2.1 bt279.2.2.2.2.1 bt279.2.2.2.2.2.1 bt279.2.2.2.2.2.2.1 bt256.1 bt256.2.1 bt256.2.2.1 bt256.2.2.2.1 bt256.2.2.2.2.1 bt256.2.2.2.2.2.1 bt256.2.2.2.2.2.2.1).bind fun t303 => (if t303 = true then ((laws_markKeeperHost.f k bt279.1 bt279.2.1 bt279.2.2.1 bt279.2.2.2.1 bt279.2.2.2.2.1 bt279.2.2.2.2.2.1 bt279.2.2.2.2.2.2.1 1).bind fun bt304 => ((laws_heldKeeperHost.f k bt279.1 bt279.2.1 bt279.2.2.1 bt279.2.2.2.1 bt279.2.2.2.2.1 bt304.2 bt279.2.2.2.2.2.2.1 1).bind fun t306 => (if t306 < 0 then (some false) else (if t306 = bt304.1 then ((laws_toKeeperHost.f k a0_0 a0_1 a0_2 a0_3 a0_4 l0_5 a0_6).bind fun bt307 => ((laws_toShare.f a1_0 a1_1).bind fun bt316 => ((impl_ResetGuesses.f bt307.1 bt307.2.1 bt307.2.2.1 bt307.2.2.2.1 bt307.2.2.2.2.1 bt307.2.2.2.2.2.1 bt307.2.2.2.2.2.2 bt316.1 bt316.2).bind fun bt318 => ((laws_eqKeeperHost.f k bt318.1 bt318.2.1 bt318.2.2.1 bt318.2.2.2.1 bt318.2.2.2.2.1 bt318.2.2.2.2.2.1 bt318.2.2.2.2.2.2.1 bt256.1 bt256.2.1 bt256.2.2.1 bt256.2.2.2.1 bt256.2.2.2.2.1 bt256.2.2.2.2.2.1 bt256.2.2.2.2.2.2.1).bind fun t329 => (if t329 = true then (if (bt318.2.2.2.2.2.2.2 != bt256.2.2.2.2.2.2.2) = true then (some false) else ((laws_heldKeeperHost.f k bt279.1 bt279.2.1 bt279.2.2.1 bt279.2.2.2.1 bt279.2.2.2.2.1 bt304.2 bt279.2.2.2.2.2.2.1 1).bind fun t330 => (if t330 < 0 then (some false) else (if t330 = bt304.1 then (some true) else (some false))))) else (some false)))))) else (some false))))) else (some false))))) else (some false))))) else (some false))))))))))) = some r := h
  clear h
  replace H := Option.bind_eq_some_iff.mp H
  obtain ⟨t244, A30, H⟩ := H
  replace H : (if t244 < 0 then (some true) else ((laws_toKeeperHost.f k a0_0 a0_1 a0_2 a0_3 a0_4 l0_5 a0_6).bind fun bt245 => ((laws_toShare.f a1_0 a1_1).bind fun bt254 => ((spec_ResetGuesses.f k bt245.1 bt245.2.1 bt245.2.2.1 bt245.2.2.2.1 bt245.2.2.2.2.1 bt245.2.2.2.2.2.1 bt245.2.2.2.2.2.2 bt254.1 bt254.2).bind fun bt256 => ((laws_toKeeperHost.f k a0_0 a0_1 a0_2 a0_3 a0_4 l0_5 a0_6).bind fun bt267 => ((laws_toShare.f a1_0 a1_1).bind fun bt277 => ((impl_ResetGuesses.f bt267.1 bt267.2.1 bt267.2.2.1 bt267.2.2.2.1 bt267.2.2.2.2.1 bt267.2.2.2.2.2.1 bt267.2.2.2.2.2.2 bt277.1 bt277.2).bind fun bt279 => ((laws_eqKeeperHost.f k bt279.1 bt279.2.1 bt279.2.2.1 bt279.2.2.2.1 bt279.2.2.2.2.1 bt279.2.2.2.2.2.1 bt279.2.2.2.2.2.2.1 bt256.1 bt256.2.1 bt256.2.2.1 bt256.2.2.2.1 bt256.2.2.2.2.1 bt256.2.2.2.2.2.1 bt256.2.2.2.2.2.2.1).bind fun t290 => (if t290 = true then (if (bt279.2.2.2.2.2.2.2 != bt256.2.2.2.2.2.2.2) = true then (some false) else ((laws_toKeeperHost.f k a0_0 a0_1 a0_2 a0_3 a0_4 l0_5 a0_6).bind fun bt291 => ((laws_eqKeeperHost.f k bt267.1 bt267.2.1 bt267.2.2.1 bt267.2.2.2.1 bt267.2.2.2.2.1 bt267.2.2.2.2.2.1 bt267.2.2.2.2.2.2 bt291.1 bt291.2.1 bt291.2.2.1 bt291.2.2.2.1 bt291.2.2.2.2.1 bt291.2.2.2.2.2.1 bt291.2.2.2.2.2.2).bind fun t300 => (if t300 = true then ((laws_markKeeperHost.f k bt267.1 bt267.2.1 bt267.2.2.1 bt267.2.2.2.1 bt267.2.2.2.2.1 bt267.2.2.2.2.2.1 bt267.2.2.2.2.2.2 1).bind fun bt301 => (if bt301.1 < 0 then (some false) else ((laws_eqKeeperHost.f k bt279.1 bt279.2.1 bt279.2.2.1 bt279.2.2.2.1 bt279.2.2.2.2.1 bt279.2.2.2.2.2.1 bt279.2.2.2.2.2.2.1 bt256.1 bt256.2.1 bt256.2.2.1 bt256.2.2.2.1 bt256.2.2.2.2.1 bt256.2.2.2.2.2.1 bt256.2.2.2.2.2.2.1).bind fun t303 => (if t303 = true then ((laws_markKeeperHost.f k bt279.1 bt279.2.1 bt279.2.2.1 bt279.2.2.2.1 bt279.2.2.2.2.1 bt279.2.2.2.2.2.1 bt279.2.2.2.2.2.2.1 1).bind fun bt304 => ((laws_heldKeeperHost.f k bt279.1 bt279.2.1 bt279.2.2.1 bt279.2.2.2.1 bt279.2.2.2.2.1 bt304.2 bt279.2.2.2.2.2.2.1 1).bind fun t306 => (if t306 < 0 then (some false) else (if t306 = bt304.1 then ((laws_toKeeperHost.f k a0_0 a0_1 a0_2 a0_3 a0_4 l0_5 a0_6).bind fun bt307 => ((laws_toShare.f a1_0 a1_1).bind fun bt316 => ((impl_ResetGuesses.f bt307.1 bt307.2.1 bt307.2.2.1 bt307.2.2.2.1 bt307.2.2.2.2.1 bt307.2.2.2.2.2.1 bt307.2.2.2.2.2.2 bt316.1 bt316.2).bind fun bt318 => ((laws_eqKeeperHost.f k bt318.1 bt318.2.1 bt318.2.2.1 bt318.2.2.2.1 bt318.2.2.2.2.1 bt318.2.2.2.2.2.1 bt318.2.2.2.2.2.2.1 bt256.1 bt256.2.1 bt256.2.2.1 bt256.2.2.2.1 bt256.2.2.2.2.1 bt256.2.2.2.2.2.1 bt256.2.2.2.2.2.2.1).bind fun t329 => (if t329 = true then (if (bt318.2.2.2.2.2.2.2 != bt256.2.2.2.2.2.2.2) = true then (some false) else ((laws_heldKeeperHost.f k bt279.1 bt279.2.1 bt279.2.2.1 bt279.2.2.2.1 bt279.2.2.2.2.1 bt304.2 bt279.2.2.2.2.2.2.1 1).bind fun t330 => (if t330 < 0 then (some false) else (if t330 = bt304.1 then (some true) else (some false))))) else (some false)))))) else (some false))))) else (some false))))) else (some false))))) else (some false)))))))))) = some r := H
  have A3 := Aside0.mk A30
  clear A30
  by_cases c4 : t244 < 0
  · rw [if_pos c4] at H
    have c4b0 : decide (t244 < 0) = true := decide_eq_true c4
    clear c4
    obtain rfl := Option.some.inj H
    go_enter Try.func6, Try.ntmps6
    go_wp2_with (first | ((with_reducible refine gate_dst (N := 2) rfl ?_); refine box_event ?hg (N := 2) ?hd (cs := #[.int .i64 a0_0, .int .i64 a0_1, .int .i64 a0_2, .int .i64 a0_3, .int .i64 a0_4, .slice A0_5 l0_5.length c0_5, .int .i64 a0_6]) (t := 50) ?hr ?_; (case hd => rfl); (case hg => rfl); (case hr => first | (go_simp; done) | (go_simp; rfl)); intro gb242 hg wv1 hbox hb; have BK242 := Aside0.mk (hbox); have GE242 := Aside0.mk ((by rw [hg]; exact Nat.le_trans HB.out.size ((Kept.refl w (fun _ => False))).1 : w.heap.size ≤ gb242)); have HG242 := Aside0.mk ((⟨by rw [hg]; exact ((Kept.refl w (fun _ => False))).1, blk_lt hbox⟩ : w.heap.size ≤ gb242 ∧ gb242 < wv1.heap.size)); have HLA := Aside0.mk (((Kept.below (Kept.refl w (fun _ => False)) hb).1 : w.heap.size ≤ wv1.heap.size)); replace HB := Aside0.mk (below_step HB.out hb); clear hb hbox hg) | ((with_reducible refine gate_dst (N := 3) rfl ?_); refine box_event ?hg (N := 3) ?hd (cs := #[.int .i64 a1_0, .int .i64 a1_1]) (t := 42) ?hr ?_; (case hd => rfl); (case hg => rfl); (case hr => first | (go_simp; done) | (go_simp; rfl)); intro gb243 hg wv2 hbox hb; have BK243 := Aside0.mk (hbox); have GE243 := Aside0.mk ((by rw [hg]; exact Nat.le_trans HB.out.size ((Kept.refl wv1 (fun _ => False))).1 : w.heap.size ≤ gb243)); have HG243 := Aside0.mk ((⟨by rw [hg]; exact ((Kept.refl wv1 (fun _ => False))).1, blk_lt hbox⟩ : wv1.heap.size ≤ gb243 ∧ gb243 < wv2.heap.size)); replace BK242 := Aside0.mk (blk_below BK242.out hb); replace HB := Aside0.mk (below_step HB.out hb); replace HLA := Aside0.mk (And.intro HLA.out ((Kept.below (Kept.refl wv1 (fun _ => False)) hb).1 : wv1.heap.size ≤ wv2.heap.size)); clear hb hbox hg; obtain ⟨hcz1_0, hcz1_1, hcz1_2, hcz1_3, hcz1_4, hcz1_5, hcz1_6, hcz1_f0, hcz1_f1, hcz1_f2, hcz1_f3, hcz1_f4, hcz1_f5, hcz1_f6⟩ := lk_c7 BK242.out) | ((with_reducible refine gate_callee (f := 27) rfl ?_); refine goesL_ (some 18) rfl rfl Try.func27 (by kernel_rfl) rfl #[.agg #[.int .i64 a0_0, .int .i64 a0_1, .int .i64 a0_2, .int .i64 a0_3, .int .i64 a0_4, .slice A0_5 l0_5.length c0_5, .int .i64 a0_6], .int .i64 1048576] rfl (by (try simp only [List.map_toArray, List.map_cons, List.map_nil]); first | done | rfl | (simp only [List.length_drop, List.length_take]; rfl)) ?_; (with_reducible refine (laws_szKeeperHost.calls a0_0 a0_1 a0_2 a0_3 a0_4 _ _ l0_5 a0_6 1048576 t244 _ ?side1 ?side2 A3.out).mono ?_); (case side1 => exact Kd.C_below HR0_5.out (by repeat (first | (with_reducible first | exact HB.out | apply below_alloc | apply pw_below_drewN | apply below_drew1) | exact HB.out))); (case side2 => exact HC0_5.out); rintro e wv3 ⟨rfl, hb⟩; refine ⟨_, rfl, ?_⟩; have hkW := (Kept.refl wv2 (fun _ => False)); have hk2 := Kept.below hkW hb; replace BK242 := Aside0.mk (blk_below BK242.out hb); replace BK243 := Aside0.mk (blk_below BK243.out hb); replace HB := Aside0.mk (below_step (by repeat (first | (with_reducible first | exact HB.out | apply below_alloc | apply pw_below_drewN | apply below_drew1) | exact HB.out)) hb); replace HLA := Aside0.mk (And.intro HLA.out (hk2.1 : wv2.heap.size ≤ wv3.heap.size)); (try clear hb); (try clear hkW); (try clear hk2); (try clear hkp)))
    go_ret
    exact ⟨by first | rfl | (simp [*] <;> rfl), by repeat (first | (with_reducible first | exact HB.out | apply below_alloc | apply pw_below_drewN | apply below_drew1) | exact HB.out)⟩
  rw [if_neg c4] at H
  have c4b0 : decide (t244 < 0) = false := decide_eq_false c4
  clear c4
  replace H := Option.bind_eq_some_iff.mp H
  obtain ⟨⟨t245, t246, t247, t248, t249, t250, t253⟩, A50, H⟩ := H
  replace H : ((laws_toShare.f a1_0 a1_1).bind fun bt254 => ((spec_ResetGuesses.f k t245 t246 t247 t248 t249 t250 t253 bt254.1 bt254.2).bind fun bt256 => ((laws_toKeeperHost.f k a0_0 a0_1 a0_2 a0_3 a0_4 l0_5 a0_6).bind fun bt267 => ((laws_toShare.f a1_0 a1_1).bind fun bt277 => ((impl_ResetGuesses.f bt267.1 bt267.2.1 bt267.2.2.1 bt267.2.2.2.1 bt267.2.2.2.2.1 bt267.2.2.2.2.2.1 bt267.2.2.2.2.2.2 bt277.1 bt277.2).bind fun bt279 => ((laws_eqKeeperHost.f k bt279.1 bt279.2.1 bt279.2.2.1 bt279.2.2.2.1 bt279.2.2.2.2.1 bt279.2.2.2.2.2.1 bt279.2.2.2.2.2.2.1 bt256.1 bt256.2.1 bt256.2.2.1 bt256.2.2.2.1 bt256.2.2.2.2.1 bt256.2.2.2.2.2.1 bt256.2.2.2.2.2.2.1).bind fun t290 => (if t290 = true then (if (bt279.2.2.2.2.2.2.2 != bt256.2.2.2.2.2.2.2) = true then (some false) else ((laws_toKeeperHost.f k a0_0 a0_1 a0_2 a0_3 a0_4 l0_5 a0_6).bind fun bt291 => ((laws_eqKeeperHost.f k bt267.1 bt267.2.1 bt267.2.2.1 bt267.2.2.2.1 bt267.2.2.2.2.1 bt267.2.2.2.2.2.1 bt267.2.2.2.2.2.2 bt291.1 bt291.2.1 bt291.2.2.1 bt291.2.2.2.1 bt291.2.2.2.2.1 bt291.2.2.2.2.2.1 bt291.2.2.2.2.2.2).bind fun t300 => (if t300 = true then ((laws_markKeeperHost.f k bt267.1 bt267.2.1 bt267.2.2.1 bt267.2.2.2.1 bt267.2.2.2.2.1 bt267.2.2.2.2.2.1 bt267.2.2.2.2.2.2 1).bind fun bt301 => (if bt301.1 < 0 then (some false) else ((laws_eqKeeperHost.f k bt279.1 bt279.2.1 bt279.2.2.1 bt279.2.2.2.1 bt279.2.2.2.2.1 bt279.2.2.2.2.2.1 bt279.2.2.2.2.2.2.1 bt256.1 bt256.2.1 bt256.2.2.1 bt256.2.2.2.1 bt256.2.2.2.2.1 bt256.2.2.2.2.2.1 bt256.2.2.2.2.2.2.1).bind fun t303 => (if t303 = true then ((laws_markKeeperHost.f k bt279.1 bt279.2.1 bt279.2.2.1 bt279.2.2.2.1 bt279.2.2.2.2.1 bt279.2.2.2.2.2.1 bt279.2.2.2.2.2.2.1 1).bind fun bt304 => ((laws_heldKeeperHost.f k bt279.1 bt279.2.1 bt279.2.2.1 bt279.2.2.2.1 bt279.2.2.2.2.1 bt304.2 bt279.2.2.2.2.2.2.1 1).bind fun t306 => (if t306 < 0 then (some false) else (if t306 = bt304.1 then ((laws_toKeeperHost.f k a0_0 a0_1 a0_2 a0_3 a0_4 l0_5 a0_6).bind fun bt307 => ((laws_toShare.f a1_0 a1_1).bind fun bt316 => ((impl_ResetGuesses.f bt307.1 bt307.2.1 bt307.2.2.1 bt307.2.2.2.1 bt307.2.2.2.2.1 bt307.2.2.2.2.2.1 bt307.2.2.2.2.2.2 bt316.1 bt316.2).bind fun bt318 => ((laws_eqKeeperHost.f k bt318.1 bt318.2.1 bt318.2.2.1 bt318.2.2.2.1 bt318.2.2.2.2.1 bt318.2.2.2.2.2.1 bt318.2.2.2.2.2.2.1 bt256.1 bt256.2.1 bt256.2.2.1 bt256.2.2.2.1 bt256.2.2.2.2.1 bt256.2.2.2.2.2.1 bt256.2.2.2.2.2.2.1).bind fun t329 => (if t329 = true then (if (bt318.2.2.2.2.2.2.2 != bt256.2.2.2.2.2.2.2) = true then (some false) else ((laws_heldKeeperHost.f k bt279.1 bt279.2.1 bt279.2.2.1 bt279.2.2.2.1 bt279.2.2.2.2.1 bt304.2 bt279.2.2.2.2.2.2.1 1).bind fun t330 => (if t330 < 0 then (some false) else (if t330 = bt304.1 then (some true) else (some false))))) else (some false)))))) else (some false))))) else (some false))))) else (some false))))) else (some false)))))))) = some r := H
  have A5 := Aside0.mk A50
  clear A50
  replace H := Option.bind_eq_some_iff.mp H
  obtain ⟨⟨t254, t255⟩, A60, H⟩ := H
  replace H : ((spec_ResetGuesses.f k t245 t246 t247 t248 t249 t250 t253 t254 t255).bind fun bt256 => ((laws_toKeeperHost.f k a0_0 a0_1 a0_2 a0_3 a0_4 l0_5 a0_6).bind fun bt267 => ((laws_toShare.f a1_0 a1_1).bind fun bt277 => ((impl_ResetGuesses.f bt267.1 bt267.2.1 bt267.2.2.1 bt267.2.2.2.1 bt267.2.2.2.2.1 bt267.2.2.2.2.2.1 bt267.2.2.2.2.2.2 bt277.1 bt277.2).bind fun bt279 => ((laws_eqKeeperHost.f k bt279.1 bt279.2.1 bt279.2.2.1 bt279.2.2.2.1 bt279.2.2.2.2.1 bt279.2.2.2.2.2.1 bt279.2.2.2.2.2.2.1 bt256.1 bt256.2.1 bt256.2.2.1 bt256.2.2.2.1 bt256.2.2.2.2.1 bt256.2.2.2.2.2.1 bt256.2.2.2.2.2.2.1).bind fun t290 => (if t290 = true then (if (bt279.2.2.2.2.2.2.2 != bt256.2.2.2.2.2.2.2) = true then (some false) else ((laws_toKeeperHost.f k a0_0 a0_1 a0_2 a0_3 a0_4 l0_5 a0_6).bind fun bt291 => ((laws_eqKeeperHost.f k bt267.1 bt267.2.1 bt267.2.2.1 bt267.2.2.2.1 bt267.2.2.2.2.1 bt267.2.2.2.2.2.1 bt267.2.2.2.2.2.2 bt291.1 bt291.2.1 bt291.2.2.1 bt291.2.2.2.1 bt291.2.2.2.2.1 bt291.2.2.2.2.2.1 bt291.2.2.2.2.2.2).bind fun t300 => (if t300 = true then ((laws_markKeeperHost.f k bt267.1 bt267.2.1 bt267.2.2.1 bt267.2.2.2.1 bt267.2.2.2.2.1 bt267.2.2.2.2.2.1 bt267.2.2.2.2.2.2 1).bind fun bt301 => (if bt301.1 < 0 then (some false) else ((laws_eqKeeperHost.f k bt279.1 bt279.2.1 bt279.2.2.1 bt279.2.2.2.1 bt279.2.2.2.2.1 bt279.2.2.2.2.2.1 bt279.2.2.2.2.2.2.1 bt256.1 bt256.2.1 bt256.2.2.1 bt256.2.2.2.1 bt256.2.2.2.2.1 bt256.2.2.2.2.2.1 bt256.2.2.2.2.2.2.1).bind fun t303 => (if t303 = true then ((laws_markKeeperHost.f k bt279.1 bt279.2.1 bt279.2.2.1 bt279.2.2.2.1 bt279.2.2.2.2.1 bt279.2.2.2.2.2.1 bt279.2.2.2.2.2.2.1 1).bind fun bt304 => ((laws_heldKeeperHost.f k bt279.1 bt279.2.1 bt279.2.2.1 bt279.2.2.2.1 bt279.2.2.2.2.1 bt304.2 bt279.2.2.2.2.2.2.1 1).bind fun t306 => (if t306 < 0 then (some false) else (if t306 = bt304.1 then ((laws_toKeeperHost.f k a0_0 a0_1 a0_2 a0_3 a0_4 l0_5 a0_6).bind fun bt307 => ((laws_toShare.f a1_0 a1_1).bind fun bt316 => ((impl_ResetGuesses.f bt307.1 bt307.2.1 bt307.2.2.1 bt307.2.2.2.1 bt307.2.2.2.2.1 bt307.2.2.2.2.2.1 bt307.2.2.2.2.2.2 bt316.1 bt316.2).bind fun bt318 => ((laws_eqKeeperHost.f k bt318.1 bt318.2.1 bt318.2.2.1 bt318.2.2.2.1 bt318.2.2.2.2.1 bt318.2.2.2.2.2.1 bt318.2.2.2.2.2.2.1 bt256.1 bt256.2.1 bt256.2.2.1 bt256.2.2.2.1 bt256.2.2.2.2.1 bt256.2.2.2.2.2.1 bt256.2.2.2.2.2.2.1).bind fun t329 => (if t329 = true then (if (bt318.2.2.2.2.2.2.2 != bt256.2.2.2.2.2.2.2) = true then (some false) else ((laws_heldKeeperHost.f k bt279.1 bt279.2.1 bt279.2.2.1 bt279.2.2.2.1 bt279.2.2.2.2.1 bt304.2 bt279.2.2.2.2.2.2.1 1).bind fun t330 => (if t330 < 0 then (some false) else (if t330 = bt304.1 then (some true) else (some false))))) else (some false)))))) else (some false))))) else (some false))))) else (some false))))) else (some false))))))) = some r := H
  have A6 := Aside0.mk A60
  clear A60
  replace H := Option.bind_eq_some_iff.mp H
  obtain ⟨⟨t256, t257, t258, t259, t260, t261, t264, t265⟩, A70, H⟩ := H
  replace H : ((laws_toKeeperHost.f k a0_0 a0_1 a0_2 a0_3 a0_4 l0_5 a0_6).bind fun bt267 => ((laws_toShare.f a1_0 a1_1).bind fun bt277 => ((impl_ResetGuesses.f bt267.1 bt267.2.1 bt267.2.2.1 bt267.2.2.2.1 bt267.2.2.2.2.1 bt267.2.2.2.2.2.1 bt267.2.2.2.2.2.2 bt277.1 bt277.2).bind fun bt279 => ((laws_eqKeeperHost.f k bt279.1 bt279.2.1 bt279.2.2.1 bt279.2.2.2.1 bt279.2.2.2.2.1 bt279.2.2.2.2.2.1 bt279.2.2.2.2.2.2.1 t256 t257 t258 t259 t260 t261 t264).bind fun t290 => (if t290 = true then (if (bt279.2.2.2.2.2.2.2 != t265) = true then (some false) else ((laws_toKeeperHost.f k a0_0 a0_1 a0_2 a0_3 a0_4 l0_5 a0_6).bind fun bt291 => ((laws_eqKeeperHost.f k bt267.1 bt267.2.1 bt267.2.2.1 bt267.2.2.2.1 bt267.2.2.2.2.1 bt267.2.2.2.2.2.1 bt267.2.2.2.2.2.2 bt291.1 bt291.2.1 bt291.2.2.1 bt291.2.2.2.1 bt291.2.2.2.2.1 bt291.2.2.2.2.2.1 bt291.2.2.2.2.2.2).bind fun t300 => (if t300 = true then ((laws_markKeeperHost.f k bt267.1 bt267.2.1 bt267.2.2.1 bt267.2.2.2.1 bt267.2.2.2.2.1 bt267.2.2.2.2.2.1 bt267.2.2.2.2.2.2 1).bind fun bt301 => (if bt301.1 < 0 then (some false) else ((laws_eqKeeperHost.f k bt279.1 bt279.2.1 bt279.2.2.1 bt279.2.2.2.1 bt279.2.2.2.2.1 bt279.2.2.2.2.2.1 bt279.2.2.2.2.2.2.1 t256 t257 t258 t259 t260 t261 t264).bind fun t303 => (if t303 = true then ((laws_markKeeperHost.f k bt279.1 bt279.2.1 bt279.2.2.1 bt279.2.2.2.1 bt279.2.2.2.2.1 bt279.2.2.2.2.2.1 bt279.2.2.2.2.2.2.1 1).bind fun bt304 => ((laws_heldKeeperHost.f k bt279.1 bt279.2.1 bt279.2.2.1 bt279.2.2.2.1 bt279.2.2.2.2.1 bt304.2 bt279.2.2.2.2.2.2.1 1).bind fun t306 => (if t306 < 0 then (some false) else (if t306 = bt304.1 then ((laws_toKeeperHost.f k a0_0 a0_1 a0_2 a0_3 a0_4 l0_5 a0_6).bind fun bt307 => ((laws_toShare.f a1_0 a1_1).bind fun bt316 => ((impl_ResetGuesses.f bt307.1 bt307.2.1 bt307.2.2.1 bt307.2.2.2.1 bt307.2.2.2.2.1 bt307.2.2.2.2.2.1 bt307.2.2.2.2.2.2 bt316.1 bt316.2).bind fun bt318 => ((laws_eqKeeperHost.f k bt318.1 bt318.2.1 bt318.2.2.1 bt318.2.2.2.1 bt318.2.2.2.2.1 bt318.2.2.2.2.2.1 bt318.2.2.2.2.2.2.1 t256 t257 t258 t259 t260 t261 t264).bind fun t329 => (if t329 = true then (if (bt318.2.2.2.2.2.2.2 != t265) = true then (some false) else ((laws_heldKeeperHost.f k bt279.1 bt279.2.1 bt279.2.2.1 bt279.2.2.2.1 bt279.2.2.2.2.1 bt304.2 bt279.2.2.2.2.2.2.1 1).bind fun t330 => (if t330 < 0 then (some false) else (if t330 = bt304.1 then (some true) else (some false))))) else (some false)))))) else (some false))))) else (some false))))) else (some false))))) else (some false)))))) = some r := H
  have A7 := Aside0.mk A70
  clear A70
  replace H := Option.bind_eq_some_iff.mp H
  obtain ⟨⟨t267, t268, t269, t270, t271, t272, t275⟩, A80, H⟩ := H
  replace H : ((laws_toShare.f a1_0 a1_1).bind fun bt277 => ((impl_ResetGuesses.f t267 t268 t269 t270 t271 t272 t275 bt277.1 bt277.2).bind fun bt279 => ((laws_eqKeeperHost.f k bt279.1 bt279.2.1 bt279.2.2.1 bt279.2.2.2.1 bt279.2.2.2.2.1 bt279.2.2.2.2.2.1 bt279.2.2.2.2.2.2.1 t256 t257 t258 t259 t260 t261 t264).bind fun t290 => (if t290 = true then (if (bt279.2.2.2.2.2.2.2 != t265) = true then (some false) else ((laws_toKeeperHost.f k a0_0 a0_1 a0_2 a0_3 a0_4 l0_5 a0_6).bind fun bt291 => ((laws_eqKeeperHost.f k t267 t268 t269 t270 t271 t272 t275 bt291.1 bt291.2.1 bt291.2.2.1 bt291.2.2.2.1 bt291.2.2.2.2.1 bt291.2.2.2.2.2.1 bt291.2.2.2.2.2.2).bind fun t300 => (if t300 = true then ((laws_markKeeperHost.f k t267 t268 t269 t270 t271 t272 t275 1).bind fun bt301 => (if bt301.1 < 0 then (some false) else ((laws_eqKeeperHost.f k bt279.1 bt279.2.1 bt279.2.2.1 bt279.2.2.2.1 bt279.2.2.2.2.1 bt279.2.2.2.2.2.1 bt279.2.2.2.2.2.2.1 t256 t257 t258 t259 t260 t261 t264).bind fun t303 => (if t303 = true then ((laws_markKeeperHost.f k bt279.1 bt279.2.1 bt279.2.2.1 bt279.2.2.2.1 bt279.2.2.2.2.1 bt279.2.2.2.2.2.1 bt279.2.2.2.2.2.2.1 1).bind fun bt304 => ((laws_heldKeeperHost.f k bt279.1 bt279.2.1 bt279.2.2.1 bt279.2.2.2.1 bt279.2.2.2.2.1 bt304.2 bt279.2.2.2.2.2.2.1 1).bind fun t306 => (if t306 < 0 then (some false) else (if t306 = bt304.1 then ((laws_toKeeperHost.f k a0_0 a0_1 a0_2 a0_3 a0_4 l0_5 a0_6).bind fun bt307 => ((laws_toShare.f a1_0 a1_1).bind fun bt316 => ((impl_ResetGuesses.f bt307.1 bt307.2.1 bt307.2.2.1 bt307.2.2.2.1 bt307.2.2.2.2.1 bt307.2.2.2.2.2.1 bt307.2.2.2.2.2.2 bt316.1 bt316.2).bind fun bt318 => ((laws_eqKeeperHost.f k bt318.1 bt318.2.1 bt318.2.2.1 bt318.2.2.2.1 bt318.2.2.2.2.1 bt318.2.2.2.2.2.1 bt318.2.2.2.2.2.2.1 t256 t257 t258 t259 t260 t261 t264).bind fun t329 => (if t329 = true then (if (bt318.2.2.2.2.2.2.2 != t265) = true then (some false) else ((laws_heldKeeperHost.f k bt279.1 bt279.2.1 bt279.2.2.1 bt279.2.2.2.1 bt279.2.2.2.2.1 bt304.2 bt279.2.2.2.2.2.2.1 1).bind fun t330 => (if t330 < 0 then (some false) else (if t330 = bt304.1 then (some true) else (some false))))) else (some false)))))) else (some false))))) else (some false))))) else (some false))))) else (some false))))) = some r := H
  have A8 := Aside0.mk A80
  clear A80
  replace H := Option.bind_eq_some_iff.mp H
  obtain ⟨⟨t277, t278⟩, A90, H⟩ := H
  replace H : ((impl_ResetGuesses.f t267 t268 t269 t270 t271 t272 t275 t277 t278).bind fun bt279 => ((laws_eqKeeperHost.f k bt279.1 bt279.2.1 bt279.2.2.1 bt279.2.2.2.1 bt279.2.2.2.2.1 bt279.2.2.2.2.2.1 bt279.2.2.2.2.2.2.1 t256 t257 t258 t259 t260 t261 t264).bind fun t290 => (if t290 = true then (if (bt279.2.2.2.2.2.2.2 != t265) = true then (some false) else ((laws_toKeeperHost.f k a0_0 a0_1 a0_2 a0_3 a0_4 l0_5 a0_6).bind fun bt291 => ((laws_eqKeeperHost.f k t267 t268 t269 t270 t271 t272 t275 bt291.1 bt291.2.1 bt291.2.2.1 bt291.2.2.2.1 bt291.2.2.2.2.1 bt291.2.2.2.2.2.1 bt291.2.2.2.2.2.2).bind fun t300 => (if t300 = true then ((laws_markKeeperHost.f k t267 t268 t269 t270 t271 t272 t275 1).bind fun bt301 => (if bt301.1 < 0 then (some false) else ((laws_eqKeeperHost.f k bt279.1 bt279.2.1 bt279.2.2.1 bt279.2.2.2.1 bt279.2.2.2.2.1 bt279.2.2.2.2.2.1 bt279.2.2.2.2.2.2.1 t256 t257 t258 t259 t260 t261 t264).bind fun t303 => (if t303 = true then ((laws_markKeeperHost.f k bt279.1 bt279.2.1 bt279.2.2.1 bt279.2.2.2.1 bt279.2.2.2.2.1 bt279.2.2.2.2.2.1 bt279.2.2.2.2.2.2.1 1).bind fun bt304 => ((laws_heldKeeperHost.f k bt279.1 bt279.2.1 bt279.2.2.1 bt279.2.2.2.1 bt279.2.2.2.2.1 bt304.2 bt279.2.2.2.2.2.2.1 1).bind fun t306 => (if t306 < 0 then (some false) else (if t306 = bt304.1 then ((laws_toKeeperHost.f k a0_0 a0_1 a0_2 a0_3 a0_4 l0_5 a0_6).bind fun bt307 => ((laws_toShare.f a1_0 a1_1).bind fun bt316 => ((impl_ResetGuesses.f bt307.1 bt307.2.1 bt307.2.2.1 bt307.2.2.2.1 bt307.2.2.2.2.1 bt307.2.2.2.2.2.1 bt307.2.2.2.2.2.2 bt316.1 bt316.2).bind fun bt318 => ((laws_eqKeeperHost.f k bt318.1 bt318.2.1 bt318.2.2.1 bt318.2.2.2.1 bt318.2.2.2.2.1 bt318.2.2.2.2.2.1 bt318.2.2.2.2.2.2.1 t256 t257 t258 t259 t260 t261 t264).bind fun t329 => (if t329 = true then (if (bt318.2.2.2.2.2.2.2 != t265) = true then (some false) else ((laws_heldKeeperHost.f k bt279.1 bt279.2.1 bt279.2.2.1 bt279.2.2.2.1 bt279.2.2.2.2.1 bt304.2 bt279.2.2.2.2.2.2.1 1).bind fun t330 => (if t330 < 0 then (some false) else (if t330 = bt304.1 then (some true) else (some false))))) else (some false)))))) else (some false))))) else (some false))))) else (some false))))) else (some false)))) = some r := H
  have A9 := Aside0.mk A90
  clear A90
  replace H := Option.bind_eq_some_iff.mp H
  obtain ⟨⟨t279, t280, t281, t282, t283, t284, t287, t288⟩, A100, H⟩ := H
  replace H : ((laws_eqKeeperHost.f k t279 t280 t281 t282 t283 t284 t287 t256 t257 t258 t259 t260 t261 t264).bind fun t290 => (if t290 = true then (if (t288 != t265) = true then (some false) else ((laws_toKeeperHost.f k a0_0 a0_1 a0_2 a0_3 a0_4 l0_5 a0_6).bind fun bt291 => ((laws_eqKeeperHost.f k t267 t268 t269 t270 t271 t272 t275 bt291.1 bt291.2.1 bt291.2.2.1 bt291.2.2.2.1 bt291.2.2.2.2.1 bt291.2.2.2.2.2.1 bt291.2.2.2.2.2.2).bind fun t300 => (if t300 = true then ((laws_markKeeperHost.f k t267 t268 t269 t270 t271 t272 t275 1).bind fun bt301 => (if bt301.1 < 0 then (some false) else ((laws_eqKeeperHost.f k t279 t280 t281 t282 t283 t284 t287 t256 t257 t258 t259 t260 t261 t264).bind fun t303 => (if t303 = true then ((laws_markKeeperHost.f k t279 t280 t281 t282 t283 t284 t287 1).bind fun bt304 => ((laws_heldKeeperHost.f k t279 t280 t281 t282 t283 bt304.2 t287 1).bind fun t306 => (if t306 < 0 then (some false) else (if t306 = bt304.1 then ((laws_toKeeperHost.f k a0_0 a0_1 a0_2 a0_3 a0_4 l0_5 a0_6).bind fun bt307 => ((laws_toShare.f a1_0 a1_1).bind fun bt316 => ((impl_ResetGuesses.f bt307.1 bt307.2.1 bt307.2.2.1 bt307.2.2.2.1 bt307.2.2.2.2.1 bt307.2.2.2.2.2.1 bt307.2.2.2.2.2.2 bt316.1 bt316.2).bind fun bt318 => ((laws_eqKeeperHost.f k bt318.1 bt318.2.1 bt318.2.2.1 bt318.2.2.2.1 bt318.2.2.2.2.1 bt318.2.2.2.2.2.1 bt318.2.2.2.2.2.2.1 t256 t257 t258 t259 t260 t261 t264).bind fun t329 => (if t329 = true then (if (bt318.2.2.2.2.2.2.2 != t265) = true then (some false) else ((laws_heldKeeperHost.f k t279 t280 t281 t282 t283 bt304.2 t287 1).bind fun t330 => (if t330 < 0 then (some false) else (if t330 = bt304.1 then (some true) else (some false))))) else (some false)))))) else (some false))))) else (some false))))) else (some false))))) else (some false))) = some r := H
  have A10 := Aside0.mk A100
  clear A100
  replace H := Option.bind_eq_some_iff.mp H
  obtain ⟨t290, A110, H⟩ := H
  replace H : (if t290 = true then (if (t288 != t265) = true then (some false) else ((laws_toKeeperHost.f k a0_0 a0_1 a0_2 a0_3 a0_4 l0_5 a0_6).bind fun bt291 => ((laws_eqKeeperHost.f k t267 t268 t269 t270 t271 t272 t275 bt291.1 bt291.2.1 bt291.2.2.1 bt291.2.2.2.1 bt291.2.2.2.2.1 bt291.2.2.2.2.2.1 bt291.2.2.2.2.2.2).bind fun t300 => (if t300 = true then ((laws_markKeeperHost.f k t267 t268 t269 t270 t271 t272 t275 1).bind fun bt301 => (if bt301.1 < 0 then (some false) else ((laws_eqKeeperHost.f k t279 t280 t281 t282 t283 t284 t287 t256 t257 t258 t259 t260 t261 t264).bind fun t303 => (if t303 = true then ((laws_markKeeperHost.f k t279 t280 t281 t282 t283 t284 t287 1).bind fun bt304 => ((laws_heldKeeperHost.f k t279 t280 t281 t282 t283 bt304.2 t287 1).bind fun t306 => (if t306 < 0 then (some false) else (if t306 = bt304.1 then ((laws_toKeeperHost.f k a0_0 a0_1 a0_2 a0_3 a0_4 l0_5 a0_6).bind fun bt307 => ((laws_toShare.f a1_0 a1_1).bind fun bt316 => ((impl_ResetGuesses.f bt307.1 bt307.2.1 bt307.2.2.1 bt307.2.2.2.1 bt307.2.2.2.2.1 bt307.2.2.2.2.2.1 bt307.2.2.2.2.2.2 bt316.1 bt316.2).bind fun bt318 => ((laws_eqKeeperHost.f k bt318.1 bt318.2.1 bt318.2.2.1 bt318.2.2.2.1 bt318.2.2.2.2.1 bt318.2.2.2.2.2.1 bt318.2.2.2.2.2.2.1 t256 t257 t258 t259 t260 t261 t264).bind fun t329 => (if t329 = true then (if (bt318.2.2.2.2.2.2.2 != t265) = true then (some false) else ((laws_heldKeeperHost.f k t279 t280 t281 t282 t283 bt304.2 t287 1).bind fun t330 => (if t330 < 0 then (some false) else (if t330 = bt304.1 then (some true) else (some false))))) else (some false)))))) else (some false))))) else (some false))))) else (some false))))) else (some false)) = some r := H
  have A11 := Aside0.mk A110
  clear A110
  by_cases c12 : t290 = true
  rotate_left
  · replace c12 := Bool.eq_false_iff.mpr c12
    subst c12
    have H1 : (some false) = some r := by rw [if_neg (show ¬ (false = true) by decide)] at H; exact H
    clear H
    have H := H1
    clear H1
    exact absurd ((Option.some.inj H).trans hT.out) (by decide)
  subst c12
  have H1 : (if (t288 != t265) = true then (some false) else ((laws_toKeeperHost.f k a0_0 a0_1 a0_2 a0_3 a0_4 l0_5 a0_6).bind fun bt291 => ((laws_eqKeeperHost.f k t267 t268 t269 t270 t271 t272 t275 bt291.1 bt291.2.1 bt291.2.2.1 bt291.2.2.2.1 bt291.2.2.2.2.1 bt291.2.2.2.2.2.1 bt291.2.2.2.2.2.2).bind fun t300 => (if t300 = true then ((laws_markKeeperHost.f k t267 t268 t269 t270 t271 t272 t275 1).bind fun bt301 => (if bt301.1 < 0 then (some false) else ((laws_eqKeeperHost.f k t279 t280 t281 t282 t283 t284 t287 t256 t257 t258 t259 t260 t261 t264).bind fun t303 => (if t303 = true then ((laws_markKeeperHost.f k t279 t280 t281 t282 t283 t284 t287 1).bind fun bt304 => ((laws_heldKeeperHost.f k t279 t280 t281 t282 t283 bt304.2 t287 1).bind fun t306 => (if t306 < 0 then (some false) else (if t306 = bt304.1 then ((laws_toKeeperHost.f k a0_0 a0_1 a0_2 a0_3 a0_4 l0_5 a0_6).bind fun bt307 => ((laws_toShare.f a1_0 a1_1).bind fun bt316 => ((impl_ResetGuesses.f bt307.1 bt307.2.1 bt307.2.2.1 bt307.2.2.2.1 bt307.2.2.2.2.1 bt307.2.2.2.2.2.1 bt307.2.2.2.2.2.2 bt316.1 bt316.2).bind fun bt318 => ((laws_eqKeeperHost.f k bt318.1 bt318.2.1 bt318.2.2.1 bt318.2.2.2.1 bt318.2.2.2.2.1 bt318.2.2.2.2.2.1 bt318.2.2.2.2.2.2.1 t256 t257 t258 t259 t260 t261 t264).bind fun t329 => (if t329 = true then (if (bt318.2.2.2.2.2.2.2 != t265) = true then (some false) else ((laws_heldKeeperHost.f k t279 t280 t281 t282 t283 bt304.2 t287 1).bind fun t330 => (if t330 < 0 then (some false) else (if t330 = bt304.1 then (some true) else (some false))))) else (some false)))))) else (some false))))) else (some false))))) else (some false))))) = some r := by rw [if_pos rfl] at H; exact H
  clear H
  have H := H1
  clear H1
  by_cases c13 : (t288 != t265) = true
  · rw [if_pos c13] at H
    have c13b0 : (t288 != t265) = true := c13
    (try (have c13b1 : decide (t288 = t265) = false := by simpa using c13))
    (try (have c13b2 : (t288 == t265) = false := by simpa using c13))
    (try (have c13b3 : ¬ (t288 = t265) := by simpa using c13))
    clear c13
    exact absurd ((Option.some.inj H).trans hT.out) (by decide)
  rw [if_neg c13] at H
  have c13b0 : (t288 != t265) = false := by simpa using c13
  (try (have c13b1 : decide (t288 = t265) = true := by simpa using c13))
  (try (have c13b2 : (t288 == t265) = true := by simpa using c13))
  clear c13
  replace H := Option.bind_eq_some_iff.mp H
  obtain ⟨⟨t291, t292, t293, t294, t295, t296, t299⟩, A140, H⟩ := H
  replace H : ((laws_eqKeeperHost.f k t267 t268 t269 t270 t271 t272 t275 t291 t292 t293 t294 t295 t296 t299).bind fun t300 => (if t300 = true then ((laws_markKeeperHost.f k t267 t268 t269 t270 t271 t272 t275 1).bind fun bt301 => (if bt301.1 < 0 then (some false) else ((laws_eqKeeperHost.f k t279 t280 t281 t282 t283 t284 t287 t256 t257 t258 t259 t260 t261 t264).bind fun t303 => (if t303 = true then ((laws_markKeeperHost.f k t279 t280 t281 t282 t283 t284 t287 1).bind fun bt304 => ((laws_heldKeeperHost.f k t279 t280 t281 t282 t283 bt304.2 t287 1).bind fun t306 => (if t306 < 0 then (some false) else (if t306 = bt304.1 then ((laws_toKeeperHost.f k a0_0 a0_1 a0_2 a0_3 a0_4 l0_5 a0_6).bind fun bt307 => ((laws_toShare.f a1_0 a1_1).bind fun bt316 => ((impl_ResetGuesses.f bt307.1 bt307.2.1 bt307.2.2.1 bt307.2.2.2.1 bt307.2.2.2.2.1 bt307.2.2.2.2.2.1 bt307.2.2.2.2.2.2 bt316.1 bt316.2).bind fun bt318 => ((laws_eqKeeperHost.f k bt318.1 bt318.2.1 bt318.2.2.1 bt318.2.2.2.1 bt318.2.2.2.2.1 bt318.2.2.2.2.2.1 bt318.2.2.2.2.2.2.1 t256 t257 t258 t259 t260 t261 t264).bind fun t329 => (if t329 = true then (if (bt318.2.2.2.2.2.2.2 != t265) = true then (some false) else ((laws_heldKeeperHost.f k t279 t280 t281 t282 t283 bt304.2 t287 1).bind fun t330 => (if t330 < 0 then (some false) else (if t330 = bt304.1 then (some true) else (some false))))) else (some false)))))) else (some false))))) else (some false))))) else (some false))) = some r := H
  have A14 := Aside0.mk A140
  clear A140
  replace H := Option.bind_eq_some_iff.mp H
  obtain ⟨t300, A150, H⟩ := H
  replace H : (if t300 = true then ((laws_markKeeperHost.f k t267 t268 t269 t270 t271 t272 t275 1).bind fun bt301 => (if bt301.1 < 0 then (some false) else ((laws_eqKeeperHost.f k t279 t280 t281 t282 t283 t284 t287 t256 t257 t258 t259 t260 t261 t264).bind fun t303 => (if t303 = true then ((laws_markKeeperHost.f k t279 t280 t281 t282 t283 t284 t287 1).bind fun bt304 => ((laws_heldKeeperHost.f k t279 t280 t281 t282 t283 bt304.2 t287 1).bind fun t306 => (if t306 < 0 then (some false) else (if t306 = bt304.1 then ((laws_toKeeperHost.f k a0_0 a0_1 a0_2 a0_3 a0_4 l0_5 a0_6).bind fun bt307 => ((laws_toShare.f a1_0 a1_1).bind fun bt316 => ((impl_ResetGuesses.f bt307.1 bt307.2.1 bt307.2.2.1 bt307.2.2.2.1 bt307.2.2.2.2.1 bt307.2.2.2.2.2.1 bt307.2.2.2.2.2.2 bt316.1 bt316.2).bind fun bt318 => ((laws_eqKeeperHost.f k bt318.1 bt318.2.1 bt318.2.2.1 bt318.2.2.2.1 bt318.2.2.2.2.1 bt318.2.2.2.2.2.1 bt318.2.2.2.2.2.2.1 t256 t257 t258 t259 t260 t261 t264).bind fun t329 => (if t329 = true then (if (bt318.2.2.2.2.2.2.2 != t265) = true then (some false) else ((laws_heldKeeperHost.f k t279 t280 t281 t282 t283 bt304.2 t287 1).bind fun t330 => (if t330 < 0 then (some false) else (if t330 = bt304.1 then (some true) else (some false))))) else (some false)))))) else (some false))))) else (some false))))) else (some false)) = some r := H
  have A15 := Aside0.mk A150
  clear A150
  by_cases c16 : t300 = true
  rotate_left
  · replace c16 := Bool.eq_false_iff.mpr c16
    subst c16
    have H1 : (some false) = some r := by rw [if_neg (show ¬ (false = true) by decide)] at H; exact H
    clear H
    have H := H1
    clear H1
    exact absurd ((Option.some.inj H).trans hT.out) (by decide)
  subst c16
  have H1 : ((laws_markKeeperHost.f k t267 t268 t269 t270 t271 t272 t275 1).bind fun bt301 => (if bt301.1 < 0 then (some false) else ((laws_eqKeeperHost.f k t279 t280 t281 t282 t283 t284 t287 t256 t257 t258 t259 t260 t261 t264).bind fun t303 => (if t303 = true then ((laws_markKeeperHost.f k t279 t280 t281 t282 t283 t284 t287 1).bind fun bt304 => ((laws_heldKeeperHost.f k t279 t280 t281 t282 t283 bt304.2 t287 1).bind fun t306 => (if t306 < 0 then (some false) else (if t306 = bt304.1 then ((laws_toKeeperHost.f k a0_0 a0_1 a0_2 a0_3 a0_4 l0_5 a0_6).bind fun bt307 => ((laws_toShare.f a1_0 a1_1).bind fun bt316 => ((impl_ResetGuesses.f bt307.1 bt307.2.1 bt307.2.2.1 bt307.2.2.2.1 bt307.2.2.2.2.1 bt307.2.2.2.2.2.1 bt307.2.2.2.2.2.2 bt316.1 bt316.2).bind fun bt318 => ((laws_eqKeeperHost.f k bt318.1 bt318.2.1 bt318.2.2.1 bt318.2.2.2.1 bt318.2.2.2.2.1 bt318.2.2.2.2.2.1 bt318.2.2.2.2.2.2.1 t256 t257 t258 t259 t260 t261 t264).bind fun t329 => (if t329 = true then (if (bt318.2.2.2.2.2.2.2 != t265) = true then (some false) else ((laws_heldKeeperHost.f k t279 t280 t281 t282 t283 bt304.2 t287 1).bind fun t330 => (if t330 < 0 then (some false) else (if t330 = bt304.1 then (some true) else (some false))))) else (some false)))))) else (some false))))) else (some false))))) = some r := by rw [if_pos rfl] at H; exact H
  clear H
  have H := H1
  clear H1
  replace H := Option.bind_eq_some_iff.mp H
  obtain ⟨⟨t301, t302⟩, A170, H⟩ := H
  replace H : (if t301 < 0 then (some false) else ((laws_eqKeeperHost.f k t279 t280 t281 t282 t283 t284 t287 t256 t257 t258 t259 t260 t261 t264).bind fun t303 => (if t303 = true then ((laws_markKeeperHost.f k t279 t280 t281 t282 t283 t284 t287 1).bind fun bt304 => ((laws_heldKeeperHost.f k t279 t280 t281 t282 t283 bt304.2 t287 1).bind fun t306 => (if t306 < 0 then (some false) else (if t306 = bt304.1 then ((laws_toKeeperHost.f k a0_0 a0_1 a0_2 a0_3 a0_4 l0_5 a0_6).bind fun bt307 => ((laws_toShare.f a1_0 a1_1).bind fun bt316 => ((impl_ResetGuesses.f bt307.1 bt307.2.1 bt307.2.2.1 bt307.2.2.2.1 bt307.2.2.2.2.1 bt307.2.2.2.2.2.1 bt307.2.2.2.2.2.2 bt316.1 bt316.2).bind fun bt318 => ((laws_eqKeeperHost.f k bt318.1 bt318.2.1 bt318.2.2.1 bt318.2.2.2.1 bt318.2.2.2.2.1 bt318.2.2.2.2.2.1 bt318.2.2.2.2.2.2.1 t256 t257 t258 t259 t260 t261 t264).bind fun t329 => (if t329 = true then (if (bt318.2.2.2.2.2.2.2 != t265) = true then (some false) else ((laws_heldKeeperHost.f k t279 t280 t281 t282 t283 bt304.2 t287 1).bind fun t330 => (if t330 < 0 then (some false) else (if t330 = bt304.1 then (some true) else (some false))))) else (some false)))))) else (some false))))) else (some false)))) = some r := H
  have A17 := Aside0.mk A170
  clear A170
  by_cases c18 : t301 < 0
  · rw [if_pos c18] at H
    have c18b0 : decide (t301 < 0) = true := decide_eq_true c18
    clear c18
    exact absurd ((Option.some.inj H).trans hT.out) (by decide)
  rw [if_neg c18] at H
  have c18b0 : decide (t301 < 0) = false := decide_eq_false c18
  clear c18
  replace H := Option.bind_eq_some_iff.mp H
  obtain ⟨t303, A190, H⟩ := H
  replace H : (if t303 = true then ((laws_markKeeperHost.f k t279 t280 t281 t282 t283 t284 t287 1).bind fun bt304 => ((laws_heldKeeperHost.f k t279 t280 t281 t282 t283 bt304.2 t287 1).bind fun t306 => (if t306 < 0 then (some false) else (if t306 = bt304.1 then ((laws_toKeeperHost.f k a0_0 a0_1 a0_2 a0_3 a0_4 l0_5 a0_6).bind fun bt307 => ((laws_toShare.f a1_0 a1_1).bind fun bt316 => ((impl_ResetGuesses.f bt307.1 bt307.2.1 bt307.2.2.1 bt307.2.2.2.1 bt307.2.2.2.2.1 bt307.2.2.2.2.2.1 bt307.2.2.2.2.2.2 bt316.1 bt316.2).bind fun bt318 => ((laws_eqKeeperHost.f k bt318.1 bt318.2.1 bt318.2.2.1 bt318.2.2.2.1 bt318.2.2.2.2.1 bt318.2.2.2.2.2.1 bt318.2.2.2.2.2.2.1 t256 t257 t258 t259 t260 t261 t264).bind fun t329 => (if t329 = true then (if (bt318.2.2.2.2.2.2.2 != t265) = true then (some false) else ((laws_heldKeeperHost.f k t279 t280 t281 t282 t283 bt304.2 t287 1).bind fun t330 => (if t330 < 0 then (some false) else (if t330 = bt304.1 then (some true) else (some false))))) else (some false)))))) else (some false))))) else (some false)) = some r := H
  have A19 := Aside0.mk A190
  clear A190
  by_cases c20 : t303 = true
  rotate_left
  · replace c20 := Bool.eq_false_iff.mpr c20
    subst c20
    have H1 : (some false) = some r := by rw [if_neg (show ¬ (false = true) by decide)] at H; exact H
    clear H
    have H := H1
    clear H1
    exact absurd ((Option.some.inj H).trans hT.out) (by decide)
  subst c20
  have H1 : ((laws_markKeeperHost.f k t279 t280 t281 t282 t283 t284 t287 1).bind fun bt304 => ((laws_heldKeeperHost.f k t279 t280 t281 t282 t283 bt304.2 t287 1).bind fun t306 => (if t306 < 0 then (some false) else (if t306 = bt304.1 then ((laws_toKeeperHost.f k a0_0 a0_1 a0_2 a0_3 a0_4 l0_5 a0_6).bind fun bt307 => ((laws_toShare.f a1_0 a1_1).bind fun bt316 => ((impl_ResetGuesses.f bt307.1 bt307.2.1 bt307.2.2.1 bt307.2.2.2.1 bt307.2.2.2.2.1 bt307.2.2.2.2.2.1 bt307.2.2.2.2.2.2 bt316.1 bt316.2).bind fun bt318 => ((laws_eqKeeperHost.f k bt318.1 bt318.2.1 bt318.2.2.1 bt318.2.2.2.1 bt318.2.2.2.2.1 bt318.2.2.2.2.2.1 bt318.2.2.2.2.2.2.1 t256 t257 t258 t259 t260 t261 t264).bind fun t329 => (if t329 = true then (if (bt318.2.2.2.2.2.2.2 != t265) = true then (some false) else ((laws_heldKeeperHost.f k t279 t280 t281 t282 t283 bt304.2 t287 1).bind fun t330 => (if t330 < 0 then (some false) else (if t330 = bt304.1 then (some true) else (some false))))) else (some false)))))) else (some false))))) = some r := by rw [if_pos rfl] at H; exact H
  clear H
  have H := H1
  clear H1
  replace H := Option.bind_eq_some_iff.mp H
  obtain ⟨⟨t304, t305⟩, A210, H⟩ := H
  replace H : ((laws_heldKeeperHost.f k t279 t280 t281 t282 t283 t305 t287 1).bind fun t306 => (if t306 < 0 then (some false) else (if t306 = t304 then ((laws_toKeeperHost.f k a0_0 a0_1 a0_2 a0_3 a0_4 l0_5 a0_6).bind fun bt307 => ((laws_toShare.f a1_0 a1_1).bind fun bt316 => ((impl_ResetGuesses.f bt307.1 bt307.2.1 bt307.2.2.1 bt307.2.2.2.1 bt307.2.2.2.2.1 bt307.2.2.2.2.2.1 bt307.2.2.2.2.2.2 bt316.1 bt316.2).bind fun bt318 => ((laws_eqKeeperHost.f k bt318.1 bt318.2.1 bt318.2.2.1 bt318.2.2.2.1 bt318.2.2.2.2.1 bt318.2.2.2.2.2.1 bt318.2.2.2.2.2.2.1 t256 t257 t258 t259 t260 t261 t264).bind fun t329 => (if t329 = true then (if (bt318.2.2.2.2.2.2.2 != t265) = true then (some false) else ((laws_heldKeeperHost.f k t279 t280 t281 t282 t283 t305 t287 1).bind fun t330 => (if t330 < 0 then (some false) else (if t330 = t304 then (some true) else (some false))))) else (some false)))))) else (some false)))) = some r := H
  have A21 := Aside0.mk A210
  clear A210
  replace H := Option.bind_eq_some_iff.mp H
  obtain ⟨t306, A220, H⟩ := H
  replace H : (if t306 < 0 then (some false) else (if t306 = t304 then ((laws_toKeeperHost.f k a0_0 a0_1 a0_2 a0_3 a0_4 l0_5 a0_6).bind fun bt307 => ((laws_toShare.f a1_0 a1_1).bind fun bt316 => ((impl_ResetGuesses.f bt307.1 bt307.2.1 bt307.2.2.1 bt307.2.2.2.1 bt307.2.2.2.2.1 bt307.2.2.2.2.2.1 bt307.2.2.2.2.2.2 bt316.1 bt316.2).bind fun bt318 => ((laws_eqKeeperHost.f k bt318.1 bt318.2.1 bt318.2.2.1 bt318.2.2.2.1 bt318.2.2.2.2.1 bt318.2.2.2.2.2.1 bt318.2.2.2.2.2.2.1 t256 t257 t258 t259 t260 t261 t264).bind fun t329 => (if t329 = true then (if (bt318.2.2.2.2.2.2.2 != t265) = true then (some false) else ((laws_heldKeeperHost.f k t279 t280 t281 t282 t283 t305 t287 1).bind fun t330 => (if t330 < 0 then (some false) else (if t330 = t304 then (some true) else (some false))))) else (some false)))))) else (some false))) = some r := H
  have A22 := Aside0.mk A220
  clear A220
  by_cases c23 : t306 < 0
  · rw [if_pos c23] at H
    have c23b0 : decide (t306 < 0) = true := decide_eq_true c23
    clear c23
    exact absurd ((Option.some.inj H).trans hT.out) (by decide)
  rw [if_neg c23] at H
  have c23b0 : decide (t306 < 0) = false := decide_eq_false c23
  clear c23
  by_cases c24 : t306 = t304
  rotate_left
  · rw [if_neg c24] at H
    have c24b0 : (t306 == t304) = false := beq_eq_false_iff_ne.mpr c24
    have c24b1 : (t306 != t304) = true := bne_iff_ne.mpr c24
    exact absurd ((Option.some.inj H).trans hT.out) (by decide)
  rw [if_pos c24] at H
  have c24b0 : (t306 == t304) = true := beq_iff_eq.mpr c24
  have c24b1 : (t306 != t304) = false := bne_eq_false_iff_eq.mpr c24
  clear c24
  replace H := Option.bind_eq_some_iff.mp H
  obtain ⟨⟨t307, t308, t309, t310, t311, t312, t315⟩, A250, H⟩ := H
  replace H : ((laws_toShare.f a1_0 a1_1).bind fun bt316 => ((impl_ResetGuesses.f t307 t308 t309 t310 t311 t312 t315 bt316.1 bt316.2).bind fun bt318 => ((laws_eqKeeperHost.f k bt318.1 bt318.2.1 bt318.2.2.1 bt318.2.2.2.1 bt318.2.2.2.2.1 bt318.2.2.2.2.2.1 bt318.2.2.2.2.2.2.1 t256 t257 t258 t259 t260 t261 t264).bind fun t329 => (if t329 = true then (if (bt318.2.2.2.2.2.2.2 != t265) = true then (some false) else ((laws_heldKeeperHost.f k t279 t280 t281 t282 t283 t305 t287 1).bind fun t330 => (if t330 < 0 then (some false) else (if t330 = t304 then (some true) else (some false))))) else (some false))))) = some r := H
  have A25 := Aside0.mk A250
  clear A250
  replace H := Option.bind_eq_some_iff.mp H
  obtain ⟨⟨t316, t317⟩, A260, H⟩ := H
  replace H : ((impl_ResetGuesses.f t307 t308 t309 t310 t311 t312 t315 t316 t317).bind fun bt318 => ((laws_eqKeeperHost.f k bt318.1 bt318.2.1 bt318.2.2.1 bt318.2.2.2.1 bt318.2.2.2.2.1 bt318.2.2.2.2.2.1 bt318.2.2.2.2.2.2.1 t256 t257 t258 t259 t260 t261 t264).bind fun t329 => (if t329 = true then (if (bt318.2.2.2.2.2.2.2 != t265) = true then (some false) else ((laws_heldKeeperHost.f k t279 t280 t281 t282 t283 t305 t287 1).bind fun t330 => (if t330 < 0 then (some false) else (if t330 = t304 then (some true) else (some false))))) else (some false)))) = some r := H
  have A26 := Aside0.mk A260
  clear A260
  replace H := Option.bind_eq_some_iff.mp H
  obtain ⟨⟨t318, t319, t320, t321, t322, t323, t326, t327⟩, A270, H⟩ := H
  replace H : ((laws_eqKeeperHost.f k t318 t319 t320 t321 t322 t323 t326 t256 t257 t258 t259 t260 t261 t264).bind fun t329 => (if t329 = true then (if (t327 != t265) = true then (some false) else ((laws_heldKeeperHost.f k t279 t280 t281 t282 t283 t305 t287 1).bind fun t330 => (if t330 < 0 then (some false) else (if t330 = t304 then (some true) else (some false))))) else (some false))) = some r := H
  have A27 := Aside0.mk A270
  clear A270
  replace H := Option.bind_eq_some_iff.mp H
  obtain ⟨t329, A280, H⟩ := H
  replace H : (if t329 = true then (if (t327 != t265) = true then (some false) else ((laws_heldKeeperHost.f k t279 t280 t281 t282 t283 t305 t287 1).bind fun t330 => (if t330 < 0 then (some false) else (if t330 = t304 then (some true) else (some false))))) else (some false)) = some r := H
  have A28 := Aside0.mk A280
  clear A280
  by_cases c29 : t329 = true
  rotate_left
  · replace c29 := Bool.eq_false_iff.mpr c29
    subst c29
    have H1 : (some false) = some r := by rw [if_neg (show ¬ (false = true) by decide)] at H; exact H
    clear H
    have H := H1
    clear H1
    exact absurd ((Option.some.inj H).trans hT.out) (by decide)
  subst c29
  have H1 : (if (t327 != t265) = true then (some false) else ((laws_heldKeeperHost.f k t279 t280 t281 t282 t283 t305 t287 1).bind fun t330 => (if t330 < 0 then (some false) else (if t330 = t304 then (some true) else (some false))))) = some r := by rw [if_pos rfl] at H; exact H
  clear H
  have H := H1
  clear H1
  by_cases c30 : (t327 != t265) = true
  · rw [if_pos c30] at H
    have c30b0 : (t327 != t265) = true := c30
    (try (have c30b1 : decide (t327 = t265) = false := by simpa using c30))
    (try (have c30b2 : (t327 == t265) = false := by simpa using c30))
    (try (have c30b3 : ¬ (t327 = t265) := by simpa using c30))
    clear c30
    exact absurd ((Option.some.inj H).trans hT.out) (by decide)
  rw [if_neg c30] at H
  have c30b0 : (t327 != t265) = false := by simpa using c30
  (try (have c30b1 : decide (t327 = t265) = true := by simpa using c30))
  (try (have c30b2 : (t327 == t265) = true := by simpa using c30))
  clear c30
  replace H := Option.bind_eq_some_iff.mp H
  obtain ⟨t330, A310, H⟩ := H
  replace H : (if t330 < 0 then (some false) else (if t330 = t304 then (some true) else (some false))) = some r := H
  have A31 := Aside0.mk A310
  clear A310
  by_cases c32 : t330 < 0
  · rw [if_pos c32] at H
    have c32b0 : decide (t330 < 0) = true := decide_eq_true c32
    clear c32
    exact absurd ((Option.some.inj H).trans hT.out) (by decide)
  rw [if_neg c32] at H
  have c32b0 : decide (t330 < 0) = false := decide_eq_false c32
  clear c32
  by_cases c33 : t330 = t304
  rotate_left
  · rw [if_neg c33] at H
    have c33b0 : (t330 == t304) = false := beq_eq_false_iff_ne.mpr c33
    have c33b1 : (t330 != t304) = true := bne_iff_ne.mpr c33
    exact absurd ((Option.some.inj H).trans hT.out) (by decide)
  rw [if_pos c33] at H
  have c33b0 : (t330 == t304) = true := beq_iff_eq.mpr c33
  have c33b1 : (t330 != t304) = false := bne_eq_false_iff_eq.mpr c33
  clear c33
  obtain rfl := Option.some.inj H
  go_enter Try.func6, Try.ntmps6
  go_wp2_with (first | ((with_reducible refine gate_dst (N := 2) rfl ?_); refine box_event ?hg (N := 2) ?hd (cs := #[.int .i64 a0_0, .int .i64 a0_1, .int .i64 a0_2, .int .i64 a0_3, .int .i64 a0_4, .slice A0_5 l0_5.length c0_5, .int .i64 a0_6]) (t := 50) ?hr ?_; (case hd => rfl); (case hg => rfl); (case hr => first | (go_simp; done) | (go_simp; rfl)); intro gb242 hg wv1 hbox hb; have BK242 := Aside0.mk (hbox); have GE242 := Aside0.mk ((by rw [hg]; exact Nat.le_trans HB.out.size ((Kept.refl w (fun _ => False))).1 : w.heap.size ≤ gb242)); have HG242 := Aside0.mk ((⟨by rw [hg]; exact ((Kept.refl w (fun _ => False))).1, blk_lt hbox⟩ : w.heap.size ≤ gb242 ∧ gb242 < wv1.heap.size)); have HLA := Aside0.mk (((Kept.below (Kept.refl w (fun _ => False)) hb).1 : w.heap.size ≤ wv1.heap.size)); replace HB := Aside0.mk (below_step HB.out hb); clear hb hbox hg) | ((with_reducible refine gate_dst (N := 3) rfl ?_); refine box_event ?hg (N := 3) ?hd (cs := #[.int .i64 a1_0, .int .i64 a1_1]) (t := 42) ?hr ?_; (case hd => rfl); (case hg => rfl); (case hr => first | (go_simp; done) | (go_simp; rfl)); intro gb243 hg wv2 hbox hb; have BK243 := Aside0.mk (hbox); have GE243 := Aside0.mk ((by rw [hg]; exact Nat.le_trans HB.out.size ((Kept.refl wv1 (fun _ => False))).1 : w.heap.size ≤ gb243)); have HG243 := Aside0.mk ((⟨by rw [hg]; exact ((Kept.refl wv1 (fun _ => False))).1, blk_lt hbox⟩ : wv1.heap.size ≤ gb243 ∧ gb243 < wv2.heap.size)); replace BK242 := Aside0.mk (blk_below BK242.out hb); replace HB := Aside0.mk (below_step HB.out hb); replace HLA := Aside0.mk (And.intro HLA.out ((Kept.below (Kept.refl wv1 (fun _ => False)) hb).1 : wv1.heap.size ≤ wv2.heap.size)); clear hb hbox hg; obtain ⟨hcz1_0, hcz1_1, hcz1_2, hcz1_3, hcz1_4, hcz1_5, hcz1_6, hcz1_f0, hcz1_f1, hcz1_f2, hcz1_f3, hcz1_f4, hcz1_f5, hcz1_f6⟩ := lk_c7 BK242.out) | ((with_reducible refine gate_callee (f := 27) rfl ?_); refine goesL_ (some 18) rfl rfl Try.func27 (by kernel_rfl) rfl #[.agg #[.int .i64 a0_0, .int .i64 a0_1, .int .i64 a0_2, .int .i64 a0_3, .int .i64 a0_4, .slice A0_5 l0_5.length c0_5, .int .i64 a0_6], .int .i64 1048576] rfl (by (try simp only [List.map_toArray, List.map_cons, List.map_nil]); first | done | rfl | (simp only [List.length_drop, List.length_take]; rfl)) ?_; (with_reducible refine (laws_szKeeperHost.calls a0_0 a0_1 a0_2 a0_3 a0_4 _ _ l0_5 a0_6 1048576 t244 _ ?side1 ?side2 A3.out).mono ?_); (case side1 => exact Kd.C_below HR0_5.out (by repeat (first | (with_reducible first | exact HB.out | apply below_alloc | apply pw_below_drewN | apply below_drew1) | exact HB.out))); (case side2 => exact HC0_5.out); rintro e wv3 ⟨rfl, hb⟩; refine ⟨_, rfl, ?_⟩; have hkW := (Kept.refl wv2 (fun _ => False)); have hk2 := Kept.below hkW hb; replace BK242 := Aside0.mk (blk_below BK242.out hb); replace BK243 := Aside0.mk (blk_below BK243.out hb); replace HB := Aside0.mk (below_step (by repeat (first | (with_reducible first | exact HB.out | apply below_alloc | apply pw_below_drewN | apply below_drew1) | exact HB.out)) hb); replace HLA := Aside0.mk (And.intro HLA.out (hk2.1 : wv2.heap.size ≤ wv3.heap.size)); (try clear hb); (try clear hkW); (try clear hk2); (try clear hkp)))
  replace BK242 := Aside0.mk ((blk_kept BK242.out (show Kept wv3 wv3.drew (fun k_ => False) from by repeat (first | (with_reducible first | exact Kept.refl _ _ | apply Kept.alloc | apply Kept.drewN | apply Kept.drew) | exact Kept.refl _ _)) (fun hs_ => hs_.elim)))
  replace BK243 := Aside0.mk ((blk_kept BK243.out (show Kept wv3 wv3.drew (fun k_ => False) from by repeat (first | (with_reducible first | exact Kept.refl _ _ | apply Kept.alloc | apply Kept.drewN | apply Kept.drew) | exact Kept.refl _ _)) (fun hs_ => hs_.elim)))
  replace HB := Aside0.mk ((show Below w.heap.size w (wv3.drew) from by repeat (first | (with_reducible first | exact HB.out | apply below_alloc | apply pw_below_drewN | apply below_drew1) | exact HB.out)))
  replace HLA := Aside0.mk (And.intro HLA.out ((show Kept wv3 wv3.drew (fun k_ => False) from by repeat (first | (with_reducible first | exact Kept.refl _ _ | apply Kept.alloc | apply Kept.drewN | apply Kept.drew) | exact Kept.refl _ _)).1 : wv3.heap.size ≤ (wv3.drew).heap.size))
  refine start_ (n := 11) (S := fun w' => w'.cell? ⟨gb242, 0, none⟩ = some (.int .i64 a0_0) ∧ w'.cell? ⟨gb242, 1, none⟩ = some (.int .i64 a0_1) ∧ w'.cell? ⟨gb242, 2, none⟩ = some (.int .i64 a0_2) ∧ w'.cell? ⟨gb242, 3, none⟩ = some (.int .i64 a0_3) ∧ w'.cell? ⟨gb242, 4, none⟩ = some (.int .i64 a0_4) ∧ w'.cell? ⟨gb242, 5, none⟩ = some (.slice A0_5 l0_5.length c0_5) ∧ w'.cell? ⟨gb242, 6, none⟩ = some (.int .i64 a0_6) ∧ w'.cell? ⟨gb243, 0, none⟩ = some (.int .i64 a1_0) ∧ w'.cell? ⟨gb243, 1, none⟩ = some (.int .i64 a1_1)) (ds := []) #[false, false, false, false, false, false, false, false, false, false, false] (by kernel_rfl) rfl rfl (lk_t7 BK242.out (lk_e2 BK243.out)) (fun hHeld => ?_)
  generalize wv3.drew = wv4 at BK242 BK243 HB HLA hHeld ⊢
  refine take_ (i := 0) (N := some 22) (v := ?_) (a' := ?_) #[true, false, false, false, false, false, false, false, false, false, false] rfl rfl (by kernel_rfl) (fun _ _ _ h => h) (Or.inl ⟨by rfl, ?_⟩) hHeld ?_ ?_
  rotate_left
  · rintro w' ⟨s0, s1, s2, s3, s4, s5, s6, s7, s8⟩
    go_simp
    with_reducible rfl
  rotate_left
  · simp only [Act.put, List.setIfInBounds_toArray, List.set_cons_zero, List.set_cons_succ, i64_w, i32_w]
    rfl
  refine take_ (i := 2) (N := some 24) (v := ?_) (a' := ?_) #[true, false, true, false, false, false, false, false, false, false, false] rfl rfl (by kernel_rfl) (fun _ _ _ h => h) (Or.inl ⟨by rfl, ?_⟩) hHeld ?_ ?_
  rotate_left
  · rintro w' ⟨s0, s1, s2, s3, s4, s5, s6, s7, s8⟩
    go_simp
    with_reducible rfl
  rotate_left
  · simp only [Act.put, List.setIfInBounds_toArray, List.set_cons_zero, List.set_cons_succ, i64_w, i32_w]
    rfl
  refine join_ (σ := (Nat → Prop) × (Option Addr) × Nat × (Nat → Prop) × (Option Addr) × Nat × Nat) 2 #[true, true, true, true, true, true, true, true, true, false, false] (fun s => [(23, .agg #[.int .i64 t245, .int .i64 t246, .int .i64 t247, .int .i64 t248, .int .i64 t249, .slice s.2.1 t250.length s.2.2.1, .int .i64 t253]), (25, .agg #[.int .i64 t254, .int .i64 t255]), (26, .tuple #[.agg #[.int .i64 t256, .int .i64 t257, .int .i64 t258, .int .i64 t259, .int .i64 t260, .slice s.2.2.2.2.1 t261.length s.2.2.2.2.2.1, .int .i64 t264], .bool t265]), (21, .tuple #[.agg #[.int .i64 t256, .int .i64 t257, .int .i64 t258, .int .i64 t259, .int .i64 t260, .slice s.2.2.2.2.1 t261.length s.2.2.2.2.2.1, .int .i64 t264], .bool t265]), (27, .agg #[.int .i64 t256, .int .i64 t257, .int .i64 t258, .int .i64 t259, .int .i64 t260, .slice s.2.2.2.2.1 t261.length s.2.2.2.2.2.1, .int .i64 t264]), (28, .bool t265), (6, .pointer (some ⟨s.2.2.2.2.2.2, 0, none⟩))]) (fun s w' => (w'.heap[gb242]? = some (Obj.cells #[.int .i64 a0_0, .int .i64 a0_1, .int .i64 a0_2, .int .i64 a0_3, .int .i64 a0_4, .slice A0_5 l0_5.length c0_5, .int .i64 a0_6] 50 (0, 0))) ∧ (w'.heap[gb243]? = some (Obj.cells #[.int .i64 a1_0, .int .i64 a1_1] 42 (0, 0))) ∧ (Below w.heap.size w w') ∧ (wv4.heap.size ≤ w'.heap.size) ∧ (Kd.R k28 28 w' w.heap.size (s.1) (.slice (s.2.1) t250.length (s.2.2.1)) t250) ∧ (∀ k_, (s.1) k_ → (wv4.heap.size ≤ k_ ∧ k_ < w'.heap.size) ∧ k_ ≠ (s.2.2.2.2.2.2)) ∧ (Kd.R k28 28 w' w.heap.size (s.2.2.2.1) (.slice (s.2.2.2.2.1) t261.length (s.2.2.2.2.2.1)) t261) ∧ (∀ k_, (s.2.2.2.1) k_ → (wv4.heap.size ≤ k_ ∧ k_ < w'.heap.size) ∧ k_ ≠ (s.2.2.2.2.2.2)) ∧ (∀ k_, (s.1) k_ → ¬ (s.2.2.2.1) k_) ∧ (w'.heap[(s.2.2.2.2.2.2)]? = some (Obj.cells #[.int .i64 0, .int .i64 0, .int .i64 0, .int .i64 0, .int .i64 0, .slice none 0 0, .int .i64 0] 31 (0, 0))) ∧ (wv4.heap.size ≤ (s.2.2.2.2.2.2) ∧ (s.2.2.2.2.2.2) < w'.heap.size) ∧ (w.heap.size ≤ (s.2.2.2.2.2.2))) ?_ ?_
  rotate_left
  · intro hCont
    refine two_ (i := 1) (j := 8) (Ni := some 23) (Nj := some 6) #[true, true, true, false, false, false, false, false, false, false, false] #[true, false, true, false, false, false, false, false, true, false, false] rfl rfl rfl rfl (by kernel_rfl) (by decide) (by decide) (fun K hK => ?_) (fun K hK => ?_)
    · skip
      refine goes_ Try.func29 (by kernel_rfl) rfl #[.agg #[.int .i64 a0_0, .int .i64 a0_1, .int .i64 a0_2, .int .i64 a0_3, .int .i64 a0_4, .slice A0_5 l0_5.length c0_5, .int .i64 a0_6]] (by rfl) rfl rfl (by (try simp only [List.map_toArray, List.map_cons, List.map_nil]); first | done | rfl | (simp only [List.length_drop, List.length_take]; rfl)) ?_
      (with_reducible refine (laws_toKeeperHost.calls k a0_0 a0_1 a0_2 a0_3 a0_4 _ _ l0_5 a0_6 t245 t246 t247 t248 t249 t250 t253 _ ?side1 ?side2 A5.out).mono ?_)
      (case side1 => exact Kd.C_below HR0_5.out (by repeat (first | (with_reducible first | exact HB.out | apply below_alloc | apply pw_below_drewN | apply below_drew1) | exact HB.out)))
      (case side2 => exact HC0_5.out)
      rintro e wv5 ⟨vq2_, rfl, ho0, hb⟩
      refine ⟨_, rfl, ?_⟩
      have hkW := (Kept.refl wv4 (fun _ => False))
      have hk2 := Kept.below hkW hb
      obtain ⟨Aq2_, cq2_, rfl⟩ := Kd.R_slice ho0
      obtain ⟨okq2_, hoo0, hi0⟩ := lk_R ho0 (a := wv4.heap.size) (b := w.heap.size) hkW.1 (Nat.le_trans HB.out.size hkW.1)
      have HOq2_ := Aside0.mk (hoo0)
      have HIq2_ := Aside0.mk (hi0)
      replace BK242 := Aside0.mk (blk_below BK242.out hb)
      replace BK243 := Aside0.mk (blk_below BK243.out hb)
      replace HB := Aside0.mk (below_step (by repeat (first | (with_reducible first | exact HB.out | apply below_alloc | apply pw_below_drewN | apply below_drew1) | exact HB.out)) hb)
      replace HLA := Aside0.mk (And.intro HLA.out (hk2.1 : wv4.heap.size ≤ wv5.heap.size))
      (try clear hb)
      (try clear hkW)
      (try clear hk2)
      (try clear hkp)
      (try clear hoo0)
      (try clear hi0)
      (try clear ho0)
      refine hK.out _ _ (lk_t7 BK242.out (lk_e2 BK243.out)) (fun hHeld => ?_)
      clear hK K
      refine norm_ (a' := ?_) ?_ ?_
      rotate_left
      · show Act.put _ (some 23) _ = _
        simp only [Act.put, List.setIfInBounds_toArray, List.set_cons_zero, List.set_cons_succ, i64_w, i32_w]
        rfl
      refine two_ (i := 3) (j := 8) (Ni := some 25) (Nj := some 6) #[true, true, true, true, false, false, false, false, false, false, false] #[true, true, true, false, false, false, false, false, true, false, false] rfl rfl rfl rfl (by kernel_rfl) (by decide) (by decide) (fun K hK => ?_) (fun K hK => ?_)
      · skip
        refine goes_ Try.func34 (by kernel_rfl) rfl #[.agg #[.int .i64 a1_0, .int .i64 a1_1]] (by rfl) rfl rfl (by (try simp only [List.map_toArray, List.map_cons, List.map_nil]); first | done | rfl | (simp only [List.length_drop, List.length_take]; rfl)) ?_
        (with_reducible refine (laws_toShare.calls a1_0 a1_1 t254 t255 _  A6.out).mono ?_)
        rintro e wv6 ⟨rfl, hb⟩
        refine ⟨_, rfl, ?_⟩
        have hkW := (Kept.refl wv5 (fun _ => False))
        have hk2 := Kept.below hkW hb
        replace HOq2_ := Aside0.mk (Kd.R_below HOq2_.out hb)
        replace BK242 := Aside0.mk (blk_below BK242.out hb)
        replace BK243 := Aside0.mk (blk_below BK243.out hb)
        replace HB := Aside0.mk (below_step (by repeat (first | (with_reducible first | exact HB.out | apply below_alloc | apply pw_below_drewN | apply below_drew1) | exact HB.out)) hb)
        replace HLA := Aside0.mk (And.intro HLA.out (hk2.1 : wv5.heap.size ≤ wv6.heap.size))
        (try clear hb)
        (try clear hkW)
        (try clear hk2)
        (try clear hkp)
        refine hK.out _ _ (lk_t7 BK242.out (lk_e2 BK243.out)) (fun hHeld => ?_)
        clear hK K
        refine norm_ (a' := ?_) ?_ ?_
        rotate_left
        · show Act.put _ (some 25) _ = _
          simp only [Act.put, List.setIfInBounds_toArray, List.set_cons_zero, List.set_cons_succ, i64_w, i32_w]
          rfl
        refine two_ (i := 4) (j := 8) (Ni := some 26) (Nj := some 6) #[true, true, true, true, true, false, false, false, false, false, false] #[true, true, true, true, false, false, false, false, true, false, false] rfl rfl rfl rfl (by kernel_rfl) (by decide) (by decide) (fun K hK => ?_) (fun K hK => ?_)
        · skip
          refine goes_ Try.func33 (by kernel_rfl) rfl #[.agg #[.int .i64 t245, .int .i64 t246, .int .i64 t247, .int .i64 t248, .int .i64 t249, .slice Aq2_ t250.length cq2_, .int .i64 t253], .agg #[.int .i64 t254, .int .i64 t255]] (by rfl) rfl rfl (by (try simp only [List.map_toArray, List.map_cons, List.map_nil]); first | done | rfl | (simp only [List.length_drop, List.length_take]; rfl)) ?_
          (with_reducible refine (spec_ResetGuesses.calls k t245 t246 t247 t248 t249 _ _ t250 t253 t254 t255 t256 t257 t258 t259 t260 t261 t264 t265 _ ?side1 ?side2 A7.out).mono ?_)
          (case side1 => exact (Kd.R_reads' HOq2_.out).2.2)
          (case side2 => have h1_ := (Kd.R_reads' HOq2_.out).1; have h2_ := (Kd.R_reads' HOq2_.out).2.1; omega)
          rintro e wv7 ⟨vq3_, rfl, ho0, hb⟩
          refine ⟨_, rfl, ?_⟩
          have hkW := (Kept.refl wv6 (fun _ => False))
          have hk2 := Kept.below hkW hb
          obtain ⟨Aq3_, cq3_, rfl⟩ := Kd.R_slice ho0
          obtain ⟨okq3_, hoo0, hi0⟩ := lk_R ho0 (a := wv6.heap.size) (b := w.heap.size) hkW.1 (Nat.le_trans HB.out.size hkW.1)
          have HOq3_ := Aside0.mk (hoo0)
          have HIq3_ := Aside0.mk (hi0)
          replace HOq2_ := Aside0.mk (Kd.R_below HOq2_.out hb)
          replace BK242 := Aside0.mk (blk_below BK242.out hb)
          replace BK243 := Aside0.mk (blk_below BK243.out hb)
          replace HB := Aside0.mk (below_step (by repeat (first | (with_reducible first | exact HB.out | apply below_alloc | apply pw_below_drewN | apply below_drew1) | exact HB.out)) hb)
          replace HLA := Aside0.mk (And.intro HLA.out (hk2.1 : wv6.heap.size ≤ wv7.heap.size))
          (try clear hb)
          (try clear hkW)
          (try clear hk2)
          (try clear hkp)
          (try clear hoo0)
          (try clear hi0)
          (try clear ho0)
          refine hK.out _ _ (lk_t7 BK242.out (lk_e2 BK243.out)) (fun hHeld => ?_)
          clear hK K
          refine norm_ (a' := ?_) ?_ ?_
          rotate_left
          · show Act.put _ (some 26) _ = _
            simp only [Act.put, List.setIfInBounds_toArray, List.set_cons_zero, List.set_cons_succ, i64_w, i32_w]
            rfl
          refine pure_ (i := 5) (N := some 21) (v := ?_) (a' := ?_) #[true, true, true, true, true, true, false, false, false, false, false] rfl rfl (by kernel_rfl) (fun _ _ _ h => h) (Or.inl ⟨by rfl, ?_⟩) ?_ ?_
          rotate_left
          · intro w'
            go_simp
            with_reducible rfl
          rotate_left
          · simp only [Act.put, List.setIfInBounds_toArray, List.set_cons_zero, List.set_cons_succ, i64_w, i32_w]
            rfl
          refine pure_ (i := 6) (N := some 27) (v := ?_) (a' := ?_) #[true, true, true, true, true, true, true, false, false, false, false] rfl rfl (by kernel_rfl) (fun _ _ _ h => h) (Or.inl ⟨by rfl, ?_⟩) ?_ ?_
          rotate_left
          · intro w'
            go_simp
            with_reducible rfl
          rotate_left
          · simp only [Act.put, List.setIfInBounds_toArray, List.set_cons_zero, List.set_cons_succ, i64_w, i32_w]
            rfl
          refine pure_ (i := 7) (N := some 28) (v := ?_) (a' := ?_) #[true, true, true, true, true, true, true, true, false, false, false] rfl rfl (by kernel_rfl) (fun _ _ _ h => h) (Or.inl ⟨by rfl, ?_⟩) ?_ ?_
          rotate_left
          · intro w'
            go_simp
            with_reducible rfl
          rotate_left
          · simp only [Act.put, List.setIfInBounds_toArray, List.set_cons_zero, List.set_cons_succ, i64_w, i32_w]
            rfl
          refine one_ (i := 8) (N := some 6) #[true, true, true, true, true, true, true, true, true, false, false] rfl rfl (by kernel_rfl) (by decide) (fun K hK => ?_)
          refine box_step ?hg (N := 6) ?hd (cs := #[.int .i64 0, .int .i64 0, .int .i64 0, .int .i64 0, .int .i64 0, .slice none 0 0, .int .i64 0]) (t := 31) ?hr ?_
          (case hd => rfl)
          (case hg => rfl)
          (case hr => first | (go_simp; done) | (go_simp; rfl))
          intro gb266 hg wv8 hbox hb
          have BK266 := Aside0.mk (hbox)
          have GE266 := Aside0.mk ((by rw [hg]; exact Nat.le_trans HB.out.size ((Kept.refl wv7 (fun _ => False))).1 : w.heap.size ≤ gb266))
          have HG266 := Aside0.mk ((⟨by rw [hg]; exact ((Kept.refl wv7 (fun _ => False))).1, blk_lt hbox⟩ : wv7.heap.size ≤ gb266 ∧ gb266 < wv8.heap.size))
          replace HOq2_ := Aside0.mk (Kd.R_below HOq2_.out hb)
          replace HOq3_ := Aside0.mk (Kd.R_below HOq3_.out hb)
          replace BK242 := Aside0.mk (blk_below BK242.out hb)
          replace BK243 := Aside0.mk (blk_below BK243.out hb)
          replace HB := Aside0.mk (below_step HB.out hb)
          replace HLA := Aside0.mk (And.intro HLA.out ((Kept.below (Kept.refl wv7 (fun _ => False)) hb).1 : wv7.heap.size ≤ wv8.heap.size))
          clear hb hbox hg
          refine hK.out _ _ (lk_t7 BK242.out (lk_e2 BK243.out)) (fun hHeld => ?_)
          clear hK K
          refine norm_ (a' := ?_) ?_ ?_
          rotate_left
          · show Act.put _ (some 6) _ = _
            simp only [Act.put, List.setIfInBounds_toArray, List.set_cons_zero, List.set_cons_succ, i64_w, i32_w]
            rfl
          exact norm_ (by simp only [putAll, Act.put, List.setIfInBounds_toArray, List.set_cons_zero, List.set_cons_succ]) (hCont (okq2_, Aq2_, cq2_, okq3_, Aq3_, cq3_, gb266) _ ⟨BK242.out, BK243.out, HB.out, (by have z_ := HLA.out; omega), HOq2_.out, (fun k_ hk_ => by have i_ := HIq2_.out k_ hk_; have g0_ := HG266.out; have z_ := HLA.out; (try dsimp only); first | omega | (refine ⟨?_, ?_⟩ <;> omega) | (refine ⟨⟨?_, ?_⟩, ?_⟩ <;> omega) | (refine ⟨⟨?_, ?_⟩, ?_, ?_⟩ <;> omega)), HOq3_.out, (fun k_ hk_ => by have i_ := HIq3_.out k_ hk_; have g0_ := HG266.out; have z_ := HLA.out; (try dsimp only); first | omega | (refine ⟨?_, ?_⟩ <;> omega) | (refine ⟨⟨?_, ?_⟩, ?_⟩ <;> omega) | (refine ⟨⟨?_, ?_⟩, ?_, ?_⟩ <;> omega)), (fun k_ h1_ h2_ => by have i_ := HIq2_.out k_ h1_; have j_ := HIq3_.out k_ h2_; have z_ := HLA.out; omega), BK266.out, (by have g_ := HG266.out; have z_ := HLA.out; (try dsimp only); first | omega | (refine ⟨?_, ?_⟩ <;> omega) | (refine ⟨⟨?_, ?_⟩, ?_⟩ <;> omega) | (refine ⟨⟨?_, ?_⟩, ?_, ?_⟩ <;> omega)), GE266.out⟩)
        skip
        refine box_step ?hg (N := 6) ?hd (cs := #[.int .i64 0, .int .i64 0, .int .i64 0, .int .i64 0, .int .i64 0, .slice none 0 0, .int .i64 0]) (t := 31) ?hr ?_
        (case hd => rfl)
        (case hg => rfl)
        (case hr => first | (go_simp; done) | (go_simp; rfl))
        intro gb266 hg wv7 hbox hb
        have BK266 := Aside0.mk (hbox)
        have GE266 := Aside0.mk ((by rw [hg]; exact Nat.le_trans HB.out.size ((Kept.refl wv6 (fun _ => False))).1 : w.heap.size ≤ gb266))
        have HG266 := Aside0.mk ((⟨by rw [hg]; exact ((Kept.refl wv6 (fun _ => False))).1, blk_lt hbox⟩ : wv6.heap.size ≤ gb266 ∧ gb266 < wv7.heap.size))
        replace HOq2_ := Aside0.mk (Kd.R_below HOq2_.out hb)
        replace BK242 := Aside0.mk (blk_below BK242.out hb)
        replace BK243 := Aside0.mk (blk_below BK243.out hb)
        replace HB := Aside0.mk (below_step HB.out hb)
        replace HLA := Aside0.mk (And.intro HLA.out ((Kept.below (Kept.refl wv6 (fun _ => False)) hb).1 : wv6.heap.size ≤ wv7.heap.size))
        clear hb hbox hg
        refine hK.out _ _ (lk_t7 BK242.out (lk_e2 BK243.out)) (fun hHeld => ?_)
        clear hK K
        refine norm_ (a' := ?_) ?_ ?_
        rotate_left
        · show Act.put _ (some 6) _ = _
          simp only [Act.put, List.setIfInBounds_toArray, List.set_cons_zero, List.set_cons_succ, i64_w, i32_w]
          rfl
        refine one_ (i := 4) (N := some 26) #[true, true, true, true, true, false, false, false, true, false, false] rfl rfl (by kernel_rfl) (by decide) (fun K hK => ?_)
        refine goes_ Try.func33 (by kernel_rfl) rfl #[.agg #[.int .i64 t245, .int .i64 t246, .int .i64 t247, .int .i64 t248, .int .i64 t249, .slice Aq2_ t250.length cq2_, .int .i64 t253], .agg #[.int .i64 t254, .int .i64 t255]] (by rfl) rfl rfl (by (try simp only [List.map_toArray, List.map_cons, List.map_nil]); first | done | rfl | (simp only [List.length_drop, List.length_take]; rfl)) ?_
        (with_reducible refine (spec_ResetGuesses.calls k t245 t246 t247 t248 t249 _ _ t250 t253 t254 t255 t256 t257 t258 t259 t260 t261 t264 t265 _ ?side1 ?side2 A7.out).mono ?_)
        (case side1 => exact (Kd.R_reads' HOq2_.out).2.2)
        (case side2 => have h1_ := (Kd.R_reads' HOq2_.out).1; have h2_ := (Kd.R_reads' HOq2_.out).2.1; omega)
        rintro e wv8 ⟨vq3_, rfl, ho0, hb⟩
        refine ⟨_, rfl, ?_⟩
        have hkW := (Kept.refl wv7 (fun _ => False))
        have hk2 := Kept.below hkW hb
        obtain ⟨Aq3_, cq3_, rfl⟩ := Kd.R_slice ho0
        obtain ⟨okq3_, hoo0, hi0⟩ := lk_R ho0 (a := wv7.heap.size) (b := w.heap.size) hkW.1 (Nat.le_trans HB.out.size hkW.1)
        have HOq3_ := Aside0.mk (hoo0)
        have HIq3_ := Aside0.mk (hi0)
        replace HOq2_ := Aside0.mk (Kd.R_below HOq2_.out hb)
        replace BK242 := Aside0.mk (blk_below BK242.out hb)
        replace BK243 := Aside0.mk (blk_below BK243.out hb)
        replace BK266 := Aside0.mk (blk_below BK266.out hb)
        replace HB := Aside0.mk (below_step (by repeat (first | (with_reducible first | exact HB.out | apply below_alloc | apply pw_below_drewN | apply below_drew1) | exact HB.out)) hb)
        replace HLA := Aside0.mk (And.intro HLA.out (hk2.1 : wv7.heap.size ≤ wv8.heap.size))
        (try clear hb)
        (try clear hkW)
        (try clear hk2)
        (try clear hkp)
        (try clear hoo0)
        (try clear hi0)
        (try clear ho0)
        refine hK.out _ _ (lk_t7 BK242.out (lk_e2 BK243.out)) (fun hHeld => ?_)
        clear hK K
        refine norm_ (a' := ?_) ?_ ?_
        rotate_left
        · show Act.put _ (some 26) _ = _
          simp only [Act.put, List.setIfInBounds_toArray, List.set_cons_zero, List.set_cons_succ, i64_w, i32_w]
          rfl
        refine pure_ (i := 5) (N := some 21) (v := ?_) (a' := ?_) #[true, true, true, true, true, true, false, false, true, false, false] rfl rfl (by kernel_rfl) (fun _ _ _ h => h) (Or.inl ⟨by rfl, ?_⟩) ?_ ?_
        rotate_left
        · intro w'
          go_simp
          with_reducible rfl
        rotate_left
        · simp only [Act.put, List.setIfInBounds_toArray, List.set_cons_zero, List.set_cons_succ, i64_w, i32_w]
          rfl
        refine pure_ (i := 6) (N := some 27) (v := ?_) (a' := ?_) #[true, true, true, true, true, true, true, false, true, false, false] rfl rfl (by kernel_rfl) (fun _ _ _ h => h) (Or.inl ⟨by rfl, ?_⟩) ?_ ?_
        rotate_left
        · intro w'
          go_simp
          with_reducible rfl
        rotate_left
        · simp only [Act.put, List.setIfInBounds_toArray, List.set_cons_zero, List.set_cons_succ, i64_w, i32_w]
          rfl
        refine pure_ (i := 7) (N := some 28) (v := ?_) (a' := ?_) #[true, true, true, true, true, true, true, true, true, false, false] rfl rfl (by kernel_rfl) (fun _ _ _ h => h) (Or.inl ⟨by rfl, ?_⟩) ?_ ?_
        rotate_left
        · intro w'
          go_simp
          with_reducible rfl
        rotate_left
        · simp only [Act.put, List.setIfInBounds_toArray, List.set_cons_zero, List.set_cons_succ, i64_w, i32_w]
          rfl
        exact norm_ (by simp only [putAll, Act.put, List.setIfInBounds_toArray, List.set_cons_zero, List.set_cons_succ]) (hCont (okq2_, Aq2_, cq2_, okq3_, Aq3_, cq3_, gb266) _ ⟨BK242.out, BK243.out, HB.out, (by have z_ := HLA.out; omega), HOq2_.out, (fun k_ hk_ => by have i_ := HIq2_.out k_ hk_; have g0_ := HG266.out; have z_ := HLA.out; (try dsimp only); first | omega | (refine ⟨?_, ?_⟩ <;> omega) | (refine ⟨⟨?_, ?_⟩, ?_⟩ <;> omega) | (refine ⟨⟨?_, ?_⟩, ?_, ?_⟩ <;> omega)), HOq3_.out, (fun k_ hk_ => by have i_ := HIq3_.out k_ hk_; have g0_ := HG266.out; have z_ := HLA.out; (try dsimp only); first | omega | (refine ⟨?_, ?_⟩ <;> omega) | (refine ⟨⟨?_, ?_⟩, ?_⟩ <;> omega) | (refine ⟨⟨?_, ?_⟩, ?_, ?_⟩ <;> omega)), (fun k_ h1_ h2_ => by have i_ := HIq2_.out k_ h1_; have j_ := HIq3_.out k_ h2_; have z_ := HLA.out; omega), BK266.out, (by have g_ := HG266.out; have z_ := HLA.out; (try dsimp only); first | omega | (refine ⟨?_, ?_⟩ <;> omega) | (refine ⟨⟨?_, ?_⟩, ?_⟩ <;> omega) | (refine ⟨⟨?_, ?_⟩, ?_, ?_⟩ <;> omega)), GE266.out⟩)
      skip
      refine box_step ?hg (N := 6) ?hd (cs := #[.int .i64 0, .int .i64 0, .int .i64 0, .int .i64 0, .int .i64 0, .slice none 0 0, .int .i64 0]) (t := 31) ?hr ?_
      (case hd => rfl)
      (case hg => rfl)
      (case hr => first | (go_simp; done) | (go_simp; rfl))
      intro gb266 hg wv6 hbox hb
      have BK266 := Aside0.mk (hbox)
      have GE266 := Aside0.mk ((by rw [hg]; exact Nat.le_trans HB.out.size ((Kept.refl wv5 (fun _ => False))).1 : w.heap.size ≤ gb266))
      have HG266 := Aside0.mk ((⟨by rw [hg]; exact ((Kept.refl wv5 (fun _ => False))).1, blk_lt hbox⟩ : wv5.heap.size ≤ gb266 ∧ gb266 < wv6.heap.size))
      replace HOq2_ := Aside0.mk (Kd.R_below HOq2_.out hb)
      replace BK242 := Aside0.mk (blk_below BK242.out hb)
      replace BK243 := Aside0.mk (blk_below BK243.out hb)
      replace HB := Aside0.mk (below_step HB.out hb)
      replace HLA := Aside0.mk (And.intro HLA.out ((Kept.below (Kept.refl wv5 (fun _ => False)) hb).1 : wv5.heap.size ≤ wv6.heap.size))
      clear hb hbox hg
      refine hK.out _ _ (lk_t7 BK242.out (lk_e2 BK243.out)) (fun hHeld => ?_)
      clear hK K
      refine norm_ (a' := ?_) ?_ ?_
      rotate_left
      · show Act.put _ (some 6) _ = _
        simp only [Act.put, List.setIfInBounds_toArray, List.set_cons_zero, List.set_cons_succ, i64_w, i32_w]
        rfl
      refine one_ (i := 3) (N := some 25) #[true, true, true, true, false, false, false, false, true, false, false] rfl rfl (by kernel_rfl) (by decide) (fun K hK => ?_)
      refine goes_ Try.func34 (by kernel_rfl) rfl #[.agg #[.int .i64 a1_0, .int .i64 a1_1]] (by rfl) rfl rfl (by (try simp only [List.map_toArray, List.map_cons, List.map_nil]); first | done | rfl | (simp only [List.length_drop, List.length_take]; rfl)) ?_
      (with_reducible refine (laws_toShare.calls a1_0 a1_1 t254 t255 _  A6.out).mono ?_)
      rintro e wv7 ⟨rfl, hb⟩
      refine ⟨_, rfl, ?_⟩
      have hkW := (Kept.refl wv6 (fun _ => False))
      have hk2 := Kept.below hkW hb
      replace HOq2_ := Aside0.mk (Kd.R_below HOq2_.out hb)
      replace BK242 := Aside0.mk (blk_below BK242.out hb)
      replace BK243 := Aside0.mk (blk_below BK243.out hb)
      replace BK266 := Aside0.mk (blk_below BK266.out hb)
      replace HB := Aside0.mk (below_step (by repeat (first | (with_reducible first | exact HB.out | apply below_alloc | apply pw_below_drewN | apply below_drew1) | exact HB.out)) hb)
      replace HLA := Aside0.mk (And.intro HLA.out (hk2.1 : wv6.heap.size ≤ wv7.heap.size))
      (try clear hb)
      (try clear hkW)
      (try clear hk2)
      (try clear hkp)
      refine hK.out _ _ (lk_t7 BK242.out (lk_e2 BK243.out)) (fun hHeld => ?_)
      clear hK K
      refine norm_ (a' := ?_) ?_ ?_
      rotate_left
      · show Act.put _ (some 25) _ = _
        simp only [Act.put, List.setIfInBounds_toArray, List.set_cons_zero, List.set_cons_succ, i64_w, i32_w]
        rfl
      refine one_ (i := 4) (N := some 26) #[true, true, true, true, true, false, false, false, true, false, false] rfl rfl (by kernel_rfl) (by decide) (fun K hK => ?_)
      refine goes_ Try.func33 (by kernel_rfl) rfl #[.agg #[.int .i64 t245, .int .i64 t246, .int .i64 t247, .int .i64 t248, .int .i64 t249, .slice Aq2_ t250.length cq2_, .int .i64 t253], .agg #[.int .i64 t254, .int .i64 t255]] (by rfl) rfl rfl (by (try simp only [List.map_toArray, List.map_cons, List.map_nil]); first | done | rfl | (simp only [List.length_drop, List.length_take]; rfl)) ?_
      (with_reducible refine (spec_ResetGuesses.calls k t245 t246 t247 t248 t249 _ _ t250 t253 t254 t255 t256 t257 t258 t259 t260 t261 t264 t265 _ ?side1 ?side2 A7.out).mono ?_)
      (case side1 => exact (Kd.R_reads' HOq2_.out).2.2)
      (case side2 => have h1_ := (Kd.R_reads' HOq2_.out).1; have h2_ := (Kd.R_reads' HOq2_.out).2.1; omega)
      rintro e wv8 ⟨vq3_, rfl, ho0, hb⟩
      refine ⟨_, rfl, ?_⟩
      have hkW := (Kept.refl wv7 (fun _ => False))
      have hk2 := Kept.below hkW hb
      obtain ⟨Aq3_, cq3_, rfl⟩ := Kd.R_slice ho0
      obtain ⟨okq3_, hoo0, hi0⟩ := lk_R ho0 (a := wv7.heap.size) (b := w.heap.size) hkW.1 (Nat.le_trans HB.out.size hkW.1)
      have HOq3_ := Aside0.mk (hoo0)
      have HIq3_ := Aside0.mk (hi0)
      replace HOq2_ := Aside0.mk (Kd.R_below HOq2_.out hb)
      replace BK242 := Aside0.mk (blk_below BK242.out hb)
      replace BK243 := Aside0.mk (blk_below BK243.out hb)
      replace BK266 := Aside0.mk (blk_below BK266.out hb)
      replace HB := Aside0.mk (below_step (by repeat (first | (with_reducible first | exact HB.out | apply below_alloc | apply pw_below_drewN | apply below_drew1) | exact HB.out)) hb)
      replace HLA := Aside0.mk (And.intro HLA.out (hk2.1 : wv7.heap.size ≤ wv8.heap.size))
      (try clear hb)
      (try clear hkW)
      (try clear hk2)
      (try clear hkp)
      (try clear hoo0)
      (try clear hi0)
      (try clear ho0)
      refine hK.out _ _ (lk_t7 BK242.out (lk_e2 BK243.out)) (fun hHeld => ?_)
      clear hK K
      refine norm_ (a' := ?_) ?_ ?_
      rotate_left
      · show Act.put _ (some 26) _ = _
        simp only [Act.put, List.setIfInBounds_toArray, List.set_cons_zero, List.set_cons_succ, i64_w, i32_w]
        rfl
      refine pure_ (i := 5) (N := some 21) (v := ?_) (a' := ?_) #[true, true, true, true, true, true, false, false, true, false, false] rfl rfl (by kernel_rfl) (fun _ _ _ h => h) (Or.inl ⟨by rfl, ?_⟩) ?_ ?_
      rotate_left
      · intro w'
        go_simp
        with_reducible rfl
      rotate_left
      · simp only [Act.put, List.setIfInBounds_toArray, List.set_cons_zero, List.set_cons_succ, i64_w, i32_w]
        rfl
      refine pure_ (i := 6) (N := some 27) (v := ?_) (a' := ?_) #[true, true, true, true, true, true, true, false, true, false, false] rfl rfl (by kernel_rfl) (fun _ _ _ h => h) (Or.inl ⟨by rfl, ?_⟩) ?_ ?_
      rotate_left
      · intro w'
        go_simp
        with_reducible rfl
      rotate_left
      · simp only [Act.put, List.setIfInBounds_toArray, List.set_cons_zero, List.set_cons_succ, i64_w, i32_w]
        rfl
      refine pure_ (i := 7) (N := some 28) (v := ?_) (a' := ?_) #[true, true, true, true, true, true, true, true, true, false, false] rfl rfl (by kernel_rfl) (fun _ _ _ h => h) (Or.inl ⟨by rfl, ?_⟩) ?_ ?_
      rotate_left
      · intro w'
        go_simp
        with_reducible rfl
      rotate_left
      · simp only [Act.put, List.setIfInBounds_toArray, List.set_cons_zero, List.set_cons_succ, i64_w, i32_w]
        rfl
      exact norm_ (by simp only [putAll, Act.put, List.setIfInBounds_toArray, List.set_cons_zero, List.set_cons_succ]) (hCont (okq2_, Aq2_, cq2_, okq3_, Aq3_, cq3_, gb266) _ ⟨BK242.out, BK243.out, HB.out, (by have z_ := HLA.out; omega), HOq2_.out, (fun k_ hk_ => by have i_ := HIq2_.out k_ hk_; have g0_ := HG266.out; have z_ := HLA.out; (try dsimp only); first | omega | (refine ⟨?_, ?_⟩ <;> omega) | (refine ⟨⟨?_, ?_⟩, ?_⟩ <;> omega) | (refine ⟨⟨?_, ?_⟩, ?_, ?_⟩ <;> omega)), HOq3_.out, (fun k_ hk_ => by have i_ := HIq3_.out k_ hk_; have g0_ := HG266.out; have z_ := HLA.out; (try dsimp only); first | omega | (refine ⟨?_, ?_⟩ <;> omega) | (refine ⟨⟨?_, ?_⟩, ?_⟩ <;> omega) | (refine ⟨⟨?_, ?_⟩, ?_, ?_⟩ <;> omega)), (fun k_ h1_ h2_ => by have i_ := HIq2_.out k_ h1_; have j_ := HIq3_.out k_ h2_; have z_ := HLA.out; omega), BK266.out, (by have g_ := HG266.out; have z_ := HLA.out; (try dsimp only); first | omega | (refine ⟨?_, ?_⟩ <;> omega) | (refine ⟨⟨?_, ?_⟩, ?_⟩ <;> omega) | (refine ⟨⟨?_, ?_⟩, ?_, ?_⟩ <;> omega)), GE266.out⟩)
    skip
    refine box_step ?hg (N := 6) ?hd (cs := #[.int .i64 0, .int .i64 0, .int .i64 0, .int .i64 0, .int .i64 0, .slice none 0 0, .int .i64 0]) (t := 31) ?hr ?_
    (case hd => rfl)
    (case hg => rfl)
    (case hr => first | (go_simp; done) | (go_simp; rfl))
    intro gb266 hg wv5 hbox hb
    have BK266 := Aside0.mk (hbox)
    have GE266 := Aside0.mk ((by rw [hg]; exact Nat.le_trans HB.out.size ((Kept.refl wv4 (fun _ => False))).1 : w.heap.size ≤ gb266))
    have HG266 := Aside0.mk ((⟨by rw [hg]; exact ((Kept.refl wv4 (fun _ => False))).1, blk_lt hbox⟩ : wv4.heap.size ≤ gb266 ∧ gb266 < wv5.heap.size))
    replace BK242 := Aside0.mk (blk_below BK242.out hb)
    replace BK243 := Aside0.mk (blk_below BK243.out hb)
    replace HB := Aside0.mk (below_step HB.out hb)
    replace HLA := Aside0.mk (And.intro HLA.out ((Kept.below (Kept.refl wv4 (fun _ => False)) hb).1 : wv4.heap.size ≤ wv5.heap.size))
    clear hb hbox hg
    refine hK.out _ _ (lk_t7 BK242.out (lk_e2 BK243.out)) (fun hHeld => ?_)
    clear hK K
    refine norm_ (a' := ?_) ?_ ?_
    rotate_left
    · show Act.put _ (some 6) _ = _
      simp only [Act.put, List.setIfInBounds_toArray, List.set_cons_zero, List.set_cons_succ, i64_w, i32_w]
      rfl
    refine one_ (i := 1) (N := some 23) #[true, true, true, false, false, false, false, false, true, false, false] rfl rfl (by kernel_rfl) (by decide) (fun K hK => ?_)
    refine goes_ Try.func29 (by kernel_rfl) rfl #[.agg #[.int .i64 a0_0, .int .i64 a0_1, .int .i64 a0_2, .int .i64 a0_3, .int .i64 a0_4, .slice A0_5 l0_5.length c0_5, .int .i64 a0_6]] (by rfl) rfl rfl (by (try simp only [List.map_toArray, List.map_cons, List.map_nil]); first | done | rfl | (simp only [List.length_drop, List.length_take]; rfl)) ?_
    (with_reducible refine (laws_toKeeperHost.calls k a0_0 a0_1 a0_2 a0_3 a0_4 _ _ l0_5 a0_6 t245 t246 t247 t248 t249 t250 t253 _ ?side1 ?side2 A5.out).mono ?_)
    (case side1 => exact Kd.C_below HR0_5.out (by repeat (first | (with_reducible first | exact HB.out | apply below_alloc | apply pw_below_drewN | apply below_drew1) | exact HB.out)))
    (case side2 => exact HC0_5.out)
    rintro e wv6 ⟨vq2_, rfl, ho0, hb⟩
    refine ⟨_, rfl, ?_⟩
    have hkW := (Kept.refl wv5 (fun _ => False))
    have hk2 := Kept.below hkW hb
    obtain ⟨Aq2_, cq2_, rfl⟩ := Kd.R_slice ho0
    obtain ⟨okq2_, hoo0, hi0⟩ := lk_R ho0 (a := wv5.heap.size) (b := w.heap.size) hkW.1 (Nat.le_trans HB.out.size hkW.1)
    have HOq2_ := Aside0.mk (hoo0)
    have HIq2_ := Aside0.mk (hi0)
    replace BK242 := Aside0.mk (blk_below BK242.out hb)
    replace BK243 := Aside0.mk (blk_below BK243.out hb)
    replace BK266 := Aside0.mk (blk_below BK266.out hb)
    replace HB := Aside0.mk (below_step (by repeat (first | (with_reducible first | exact HB.out | apply below_alloc | apply pw_below_drewN | apply below_drew1) | exact HB.out)) hb)
    replace HLA := Aside0.mk (And.intro HLA.out (hk2.1 : wv5.heap.size ≤ wv6.heap.size))
    (try clear hb)
    (try clear hkW)
    (try clear hk2)
    (try clear hkp)
    (try clear hoo0)
    (try clear hi0)
    (try clear ho0)
    refine hK.out _ _ (lk_t7 BK242.out (lk_e2 BK243.out)) (fun hHeld => ?_)
    clear hK K
    refine norm_ (a' := ?_) ?_ ?_
    rotate_left
    · show Act.put _ (some 23) _ = _
      simp only [Act.put, List.setIfInBounds_toArray, List.set_cons_zero, List.set_cons_succ, i64_w, i32_w]
      rfl
    refine one_ (i := 3) (N := some 25) #[true, true, true, true, false, false, false, false, true, false, false] rfl rfl (by kernel_rfl) (by decide) (fun K hK => ?_)
    refine goes_ Try.func34 (by kernel_rfl) rfl #[.agg #[.int .i64 a1_0, .int .i64 a1_1]] (by rfl) rfl rfl (by (try simp only [List.map_toArray, List.map_cons, List.map_nil]); first | done | rfl | (simp only [List.length_drop, List.length_take]; rfl)) ?_
    (with_reducible refine (laws_toShare.calls a1_0 a1_1 t254 t255 _  A6.out).mono ?_)
    rintro e wv7 ⟨rfl, hb⟩
    refine ⟨_, rfl, ?_⟩
    have hkW := (Kept.refl wv6 (fun _ => False))
    have hk2 := Kept.below hkW hb
    replace HOq2_ := Aside0.mk (Kd.R_below HOq2_.out hb)
    replace BK242 := Aside0.mk (blk_below BK242.out hb)
    replace BK243 := Aside0.mk (blk_below BK243.out hb)
    replace BK266 := Aside0.mk (blk_below BK266.out hb)
    replace HB := Aside0.mk (below_step (by repeat (first | (with_reducible first | exact HB.out | apply below_alloc | apply pw_below_drewN | apply below_drew1) | exact HB.out)) hb)
    replace HLA := Aside0.mk (And.intro HLA.out (hk2.1 : wv6.heap.size ≤ wv7.heap.size))
    (try clear hb)
    (try clear hkW)
    (try clear hk2)
    (try clear hkp)
    refine hK.out _ _ (lk_t7 BK242.out (lk_e2 BK243.out)) (fun hHeld => ?_)
    clear hK K
    refine norm_ (a' := ?_) ?_ ?_
    rotate_left
    · show Act.put _ (some 25) _ = _
      simp only [Act.put, List.setIfInBounds_toArray, List.set_cons_zero, List.set_cons_succ, i64_w, i32_w]
      rfl
    refine one_ (i := 4) (N := some 26) #[true, true, true, true, true, false, false, false, true, false, false] rfl rfl (by kernel_rfl) (by decide) (fun K hK => ?_)
    refine goes_ Try.func33 (by kernel_rfl) rfl #[.agg #[.int .i64 t245, .int .i64 t246, .int .i64 t247, .int .i64 t248, .int .i64 t249, .slice Aq2_ t250.length cq2_, .int .i64 t253], .agg #[.int .i64 t254, .int .i64 t255]] (by rfl) rfl rfl (by (try simp only [List.map_toArray, List.map_cons, List.map_nil]); first | done | rfl | (simp only [List.length_drop, List.length_take]; rfl)) ?_
    (with_reducible refine (spec_ResetGuesses.calls k t245 t246 t247 t248 t249 _ _ t250 t253 t254 t255 t256 t257 t258 t259 t260 t261 t264 t265 _ ?side1 ?side2 A7.out).mono ?_)
    (case side1 => exact (Kd.R_reads' HOq2_.out).2.2)
    (case side2 => have h1_ := (Kd.R_reads' HOq2_.out).1; have h2_ := (Kd.R_reads' HOq2_.out).2.1; omega)
    rintro e wv8 ⟨vq3_, rfl, ho0, hb⟩
    refine ⟨_, rfl, ?_⟩
    have hkW := (Kept.refl wv7 (fun _ => False))
    have hk2 := Kept.below hkW hb
    obtain ⟨Aq3_, cq3_, rfl⟩ := Kd.R_slice ho0
    obtain ⟨okq3_, hoo0, hi0⟩ := lk_R ho0 (a := wv7.heap.size) (b := w.heap.size) hkW.1 (Nat.le_trans HB.out.size hkW.1)
    have HOq3_ := Aside0.mk (hoo0)
    have HIq3_ := Aside0.mk (hi0)
    replace HOq2_ := Aside0.mk (Kd.R_below HOq2_.out hb)
    replace BK242 := Aside0.mk (blk_below BK242.out hb)
    replace BK243 := Aside0.mk (blk_below BK243.out hb)
    replace BK266 := Aside0.mk (blk_below BK266.out hb)
    replace HB := Aside0.mk (below_step (by repeat (first | (with_reducible first | exact HB.out | apply below_alloc | apply pw_below_drewN | apply below_drew1) | exact HB.out)) hb)
    replace HLA := Aside0.mk (And.intro HLA.out (hk2.1 : wv7.heap.size ≤ wv8.heap.size))
    (try clear hb)
    (try clear hkW)
    (try clear hk2)
    (try clear hkp)
    (try clear hoo0)
    (try clear hi0)
    (try clear ho0)
    refine hK.out _ _ (lk_t7 BK242.out (lk_e2 BK243.out)) (fun hHeld => ?_)
    clear hK K
    refine norm_ (a' := ?_) ?_ ?_
    rotate_left
    · show Act.put _ (some 26) _ = _
      simp only [Act.put, List.setIfInBounds_toArray, List.set_cons_zero, List.set_cons_succ, i64_w, i32_w]
      rfl
    refine pure_ (i := 5) (N := some 21) (v := ?_) (a' := ?_) #[true, true, true, true, true, true, false, false, true, false, false] rfl rfl (by kernel_rfl) (fun _ _ _ h => h) (Or.inl ⟨by rfl, ?_⟩) ?_ ?_
    rotate_left
    · intro w'
      go_simp
      with_reducible rfl
    rotate_left
    · simp only [Act.put, List.setIfInBounds_toArray, List.set_cons_zero, List.set_cons_succ, i64_w, i32_w]
      rfl
    refine pure_ (i := 6) (N := some 27) (v := ?_) (a' := ?_) #[true, true, true, true, true, true, true, false, true, false, false] rfl rfl (by kernel_rfl) (fun _ _ _ h => h) (Or.inl ⟨by rfl, ?_⟩) ?_ ?_
    rotate_left
    · intro w'
      go_simp
      with_reducible rfl
    rotate_left
    · simp only [Act.put, List.setIfInBounds_toArray, List.set_cons_zero, List.set_cons_succ, i64_w, i32_w]
      rfl
    refine pure_ (i := 7) (N := some 28) (v := ?_) (a' := ?_) #[true, true, true, true, true, true, true, true, true, false, false] rfl rfl (by kernel_rfl) (fun _ _ _ h => h) (Or.inl ⟨by rfl, ?_⟩) ?_ ?_
    rotate_left
    · intro w'
      go_simp
      with_reducible rfl
    rotate_left
    · simp only [Act.put, List.setIfInBounds_toArray, List.set_cons_zero, List.set_cons_succ, i64_w, i32_w]
      rfl
    exact norm_ (by simp only [putAll, Act.put, List.setIfInBounds_toArray, List.set_cons_zero, List.set_cons_succ]) (hCont (okq2_, Aq2_, cq2_, okq3_, Aq3_, cq3_, gb266) _ ⟨BK242.out, BK243.out, HB.out, (by have z_ := HLA.out; omega), HOq2_.out, (fun k_ hk_ => by have i_ := HIq2_.out k_ hk_; have g0_ := HG266.out; have z_ := HLA.out; (try dsimp only); first | omega | (refine ⟨?_, ?_⟩ <;> omega) | (refine ⟨⟨?_, ?_⟩, ?_⟩ <;> omega) | (refine ⟨⟨?_, ?_⟩, ?_, ?_⟩ <;> omega)), HOq3_.out, (fun k_ hk_ => by have i_ := HIq3_.out k_ hk_; have g0_ := HG266.out; have z_ := HLA.out; (try dsimp only); first | omega | (refine ⟨?_, ?_⟩ <;> omega) | (refine ⟨⟨?_, ?_⟩, ?_⟩ <;> omega) | (refine ⟨⟨?_, ?_⟩, ?_, ?_⟩ <;> omega)), (fun k_ h1_ h2_ => by have i_ := HIq2_.out k_ h1_; have j_ := HIq3_.out k_ h2_; have z_ := HLA.out; omega), BK266.out, (by have g_ := HG266.out; have z_ := HLA.out; (try dsimp only); first | omega | (refine ⟨?_, ?_⟩ <;> omega) | (refine ⟨⟨?_, ?_⟩, ?_⟩ <;> omega) | (refine ⟨⟨?_, ?_⟩, ?_, ?_⟩ <;> omega)), GE266.out⟩)
  rintro ⟨okq4_, Aq4_, cq4_, okq5_, Aq5_, cq5_, gm266⟩ wv9 ⟨f0_, f1_, f2_, f3_, f4_, f5_, f6_, f7_, f8_, f9_, f10_, f11_⟩
  replace BK242 := Aside0.mk (show wv9.heap[gb242]? = some (Obj.cells #[.int .i64 a0_0, .int .i64 a0_1, .int .i64 a0_2, .int .i64 a0_3, .int .i64 a0_4, .slice A0_5 l0_5.length c0_5, .int .i64 a0_6] 50 (0, 0)) from f0_)
  replace BK243 := Aside0.mk (show wv9.heap[gb243]? = some (Obj.cells #[.int .i64 a1_0, .int .i64 a1_1] 42 (0, 0)) from f1_)
  replace HB := Aside0.mk (show Below w.heap.size w wv9 from f2_)
  replace HLA := Aside0.mk (And.intro HLA.out (show wv4.heap.size ≤ wv9.heap.size from f3_))
  have HOq4_ := Aside0.mk (show Kd.R k28 28 wv9 w.heap.size okq4_ (.slice Aq4_ t250.length cq4_) t250 from f4_)
  have HIq4_ := Aside0.mk (show ∀ k_, okq4_ k_ → (wv4.heap.size ≤ k_ ∧ k_ < wv9.heap.size) ∧ k_ ≠ gm266 from f5_)
  have HOq5_ := Aside0.mk (show Kd.R k28 28 wv9 w.heap.size okq5_ (.slice Aq5_ t261.length cq5_) t261 from f6_)
  have HIq5_ := Aside0.mk (show ∀ k_, okq5_ k_ → (wv4.heap.size ≤ k_ ∧ k_ < wv9.heap.size) ∧ k_ ≠ gm266 from f7_)
  have HFq4__q5_ := Aside0.mk (show ∀ k_, okq4_ k_ → ¬ okq5_ k_ from f8_)
  have BK266 := Aside0.mk (show wv9.heap[gm266]? = some (Obj.cells #[.int .i64 0, .int .i64 0, .int .i64 0, .int .i64 0, .int .i64 0, .slice none 0 0, .int .i64 0] 31 (0, 0)) from f9_)
  have HG266 := Aside0.mk (show wv4.heap.size ≤ gm266 ∧ gm266 < wv9.heap.size from f10_)
  have GE266 := Aside0.mk (show w.heap.size ≤ gm266 from f11_)
  clear f0_ f1_ f2_ f3_ f4_ f5_ f6_ f7_ f8_ f9_ f10_ f11_
  have hHeld : wv9.cell? ⟨gb242, 0, none⟩ = some (.int .i64 a0_0) ∧ wv9.cell? ⟨gb242, 1, none⟩ = some (.int .i64 a0_1) ∧ wv9.cell? ⟨gb242, 2, none⟩ = some (.int .i64 a0_2) ∧ wv9.cell? ⟨gb242, 3, none⟩ = some (.int .i64 a0_3) ∧ wv9.cell? ⟨gb242, 4, none⟩ = some (.int .i64 a0_4) ∧ wv9.cell? ⟨gb242, 5, none⟩ = some (.slice A0_5 l0_5.length c0_5) ∧ wv9.cell? ⟨gb242, 6, none⟩ = some (.int .i64 a0_6) ∧ wv9.cell? ⟨gb243, 0, none⟩ = some (.int .i64 a1_0) ∧ wv9.cell? ⟨gb243, 1, none⟩ = some (.int .i64 a1_1) := lk_t7 BK242.out (lk_e2 BK243.out)
  refine norm_ (a' := ?_) ?_ ?_
  rotate_left
  · simp only [putAll, Act.put, List.setIfInBounds_toArray, List.set_cons_zero, List.set_cons_succ]
    rfl
  refine one_ (i := 9) (N := none) #[true, true, true, true, true, true, true, true, true, true, false] rfl rfl (by kernel_rfl) (by decide) (fun K hK => ?_)
  have hcz6_0 : wv9.cell? ⟨gm266, 0, none⟩ = some (.int .i64 0) := (blk_cell BK266.out 0).trans rfl
  have hcz6_f0 := blk_frozen BK266.out 0
  have hcz6_1 : wv9.cell? ⟨gm266, 1, none⟩ = some (.int .i64 0) := (blk_cell BK266.out 1).trans rfl
  have hcz6_f1 := blk_frozen BK266.out 1
  have hcz6_2 : wv9.cell? ⟨gm266, 2, none⟩ = some (.int .i64 0) := (blk_cell BK266.out 2).trans rfl
  have hcz6_f2 := blk_frozen BK266.out 2
  have hcz6_3 : wv9.cell? ⟨gm266, 3, none⟩ = some (.int .i64 0) := (blk_cell BK266.out 3).trans rfl
  have hcz6_f3 := blk_frozen BK266.out 3
  have hcz6_4 : wv9.cell? ⟨gm266, 4, none⟩ = some (.int .i64 0) := (blk_cell BK266.out 4).trans rfl
  have hcz6_f4 := blk_frozen BK266.out 4
  have hcz6_5 : wv9.cell? ⟨gm266, 5, none⟩ = some (.slice none 0 0) := (blk_cell BK266.out 5).trans rfl
  have hcz6_f5 := blk_frozen BK266.out 5
  have hcz6_6 : wv9.cell? ⟨gm266, 6, none⟩ = some (.int .i64 0) := (blk_cell BK266.out 6).trans rfl
  have hcz6_f6 := blk_frozen BK266.out 6
  refine skip_ (w1 := ?_) (by rfl) rfl ?_ ?_
  rotate_left
  · go_simp
    rfl
  refine hK.out _ _ (lk_t7 (blk_kept BK242.out (show Kept wv9 (((((((wv9.setCell ⟨gm266, 0, none⟩ (.int .i64 t256)).setCell ⟨gm266, 1, none⟩ (.int .i64 t257)).setCell ⟨gm266, 2, none⟩ (.int .i64 t258)).setCell ⟨gm266, 3, none⟩ (.int .i64 t259)).setCell ⟨gm266, 4, none⟩ (.int .i64 t260)).setCell ⟨gm266, 5, none⟩ (.slice Aq5_ t261.length cq5_)).setCell ⟨gm266, 6, none⟩ (.int .i64 t264)) (fun k_ => k_ = gm266) from by repeat (first | (with_reducible first | exact Kept.refl _ _ | apply Kept.alloc | apply Kept.drewN | apply Kept.drew) | refine Kept.setCell ?_ (.inl (by first | exact rfl | exact .inl rfl | exact .inr rfl | exact .inr (.inl rfl) | exact .inr (.inr rfl))) _ | exact Kept.refl _ _)) (fun hs_ => by have hs2_ : gb242 = gm266 := hs_; have g_ := HG242.out; have g0_ := HG266.out; have z_ := HLA.out; omega)) (lk_e2 (blk_kept BK243.out (show Kept wv9 (((((((wv9.setCell ⟨gm266, 0, none⟩ (.int .i64 t256)).setCell ⟨gm266, 1, none⟩ (.int .i64 t257)).setCell ⟨gm266, 2, none⟩ (.int .i64 t258)).setCell ⟨gm266, 3, none⟩ (.int .i64 t259)).setCell ⟨gm266, 4, none⟩ (.int .i64 t260)).setCell ⟨gm266, 5, none⟩ (.slice Aq5_ t261.length cq5_)).setCell ⟨gm266, 6, none⟩ (.int .i64 t264)) (fun k_ => k_ = gm266) from by repeat (first | (with_reducible first | exact Kept.refl _ _ | apply Kept.alloc | apply Kept.drewN | apply Kept.drew) | refine Kept.setCell ?_ (.inl (by first | exact rfl | exact .inl rfl | exact .inr rfl | exact .inr (.inl rfl) | exact .inr (.inr rfl))) _ | exact Kept.refl _ _)) (fun hs_ => by have hs2_ : gb243 = gm266 := hs_; have g_ := HG243.out; have g0_ := HG266.out; have z_ := HLA.out; omega)))) (fun hHeld => ?_)
  clear hK K
  refine pure_ (i := 10) (N := some 7) (v := ?_) (a' := ?_) #[true, true, true, true, true, true, true, true, true, true, true] rfl rfl (by kernel_rfl) (fun _ _ _ h => h) (Or.inl ⟨by rfl, ?_⟩) ?_ ?_
  rotate_left
  · intro w'
    go_simp
    with_reducible rfl
  rotate_left
  · simp only [Act.put, List.setIfInBounds_toArray, List.set_cons_zero, List.set_cons_succ, i64_w, i32_w]
    rfl
  refine done_ (by kernel_rfl) ?_
  (try clear hHeld)
  replace HOq4_ := Aside0.mk (Kd.R_kept HOq4_.out (show Kept wv9 (((((((wv9.setCell ⟨gm266, 0, none⟩ (.int .i64 t256)).setCell ⟨gm266, 1, none⟩ (.int .i64 t257)).setCell ⟨gm266, 2, none⟩ (.int .i64 t258)).setCell ⟨gm266, 3, none⟩ (.int .i64 t259)).setCell ⟨gm266, 4, none⟩ (.int .i64 t260)).setCell ⟨gm266, 5, none⟩ (.slice Aq5_ t261.length cq5_)).setCell ⟨gm266, 6, none⟩ (.int .i64 t264)) (fun k_ => k_ = gm266) from by repeat (first | (with_reducible first | exact Kept.refl _ _ | apply Kept.alloc | apply Kept.drewN | apply Kept.drew) | refine Kept.setCell ?_ (.inl (by first | exact rfl | exact .inl rfl | exact .inr rfl | exact .inr (.inl rfl) | exact .inr (.inr rfl))) _ | exact Kept.refl _ _)) (fun k_ hk_ hs_ => by have i_ := HIq4_.out k_ hk_; have hs2_ : k_ = gm266 := hs_; have g0_ := HG266.out; have z_ := HLA.out; omega))
  replace HOq5_ := Aside0.mk (Kd.R_kept HOq5_.out (show Kept wv9 (((((((wv9.setCell ⟨gm266, 0, none⟩ (.int .i64 t256)).setCell ⟨gm266, 1, none⟩ (.int .i64 t257)).setCell ⟨gm266, 2, none⟩ (.int .i64 t258)).setCell ⟨gm266, 3, none⟩ (.int .i64 t259)).setCell ⟨gm266, 4, none⟩ (.int .i64 t260)).setCell ⟨gm266, 5, none⟩ (.slice Aq5_ t261.length cq5_)).setCell ⟨gm266, 6, none⟩ (.int .i64 t264)) (fun k_ => k_ = gm266) from by repeat (first | (with_reducible first | exact Kept.refl _ _ | apply Kept.alloc | apply Kept.drewN | apply Kept.drew) | refine Kept.setCell ?_ (.inl (by first | exact rfl | exact .inl rfl | exact .inr rfl | exact .inr (.inl rfl) | exact .inr (.inr rfl))) _ | exact Kept.refl _ _)) (fun k_ hk_ hs_ => by have i_ := HIq5_.out k_ hk_; have hs2_ : k_ = gm266 := hs_; have g0_ := HG266.out; have z_ := HLA.out; omega))
  replace BK242 := Aside0.mk ((blk_kept BK242.out (show Kept wv9 (((((((wv9.setCell ⟨gm266, 0, none⟩ (.int .i64 t256)).setCell ⟨gm266, 1, none⟩ (.int .i64 t257)).setCell ⟨gm266, 2, none⟩ (.int .i64 t258)).setCell ⟨gm266, 3, none⟩ (.int .i64 t259)).setCell ⟨gm266, 4, none⟩ (.int .i64 t260)).setCell ⟨gm266, 5, none⟩ (.slice Aq5_ t261.length cq5_)).setCell ⟨gm266, 6, none⟩ (.int .i64 t264)) (fun k_ => k_ = gm266) from by repeat (first | (with_reducible first | exact Kept.refl _ _ | apply Kept.alloc | apply Kept.drewN | apply Kept.drew) | refine Kept.setCell ?_ (.inl (by first | exact rfl | exact .inl rfl | exact .inr rfl | exact .inr (.inl rfl) | exact .inr (.inr rfl))) _ | exact Kept.refl _ _)) (fun hs_ => by have hs2_ : gb242 = gm266 := hs_; have g_ := HG242.out; have g0_ := HG266.out; have z_ := HLA.out; omega)))
  replace BK243 := Aside0.mk ((blk_kept BK243.out (show Kept wv9 (((((((wv9.setCell ⟨gm266, 0, none⟩ (.int .i64 t256)).setCell ⟨gm266, 1, none⟩ (.int .i64 t257)).setCell ⟨gm266, 2, none⟩ (.int .i64 t258)).setCell ⟨gm266, 3, none⟩ (.int .i64 t259)).setCell ⟨gm266, 4, none⟩ (.int .i64 t260)).setCell ⟨gm266, 5, none⟩ (.slice Aq5_ t261.length cq5_)).setCell ⟨gm266, 6, none⟩ (.int .i64 t264)) (fun k_ => k_ = gm266) from by repeat (first | (with_reducible first | exact Kept.refl _ _ | apply Kept.alloc | apply Kept.drewN | apply Kept.drew) | refine Kept.setCell ?_ (.inl (by first | exact rfl | exact .inl rfl | exact .inr rfl | exact .inr (.inl rfl) | exact .inr (.inr rfl))) _ | exact Kept.refl _ _)) (fun hs_ => by have hs2_ : gb243 = gm266 := hs_; have g_ := HG243.out; have g0_ := HG266.out; have z_ := HLA.out; omega)))
  replace BK266 := Aside0.mk ((show (((((((wv9.setCell ⟨gm266, 0, none⟩ (.int .i64 t256)).setCell ⟨gm266, 1, none⟩ (.int .i64 t257)).setCell ⟨gm266, 2, none⟩ (.int .i64 t258)).setCell ⟨gm266, 3, none⟩ (.int .i64 t259)).setCell ⟨gm266, 4, none⟩ (.int .i64 t260)).setCell ⟨gm266, 5, none⟩ (.slice Aq5_ t261.length cq5_)).setCell ⟨gm266, 6, none⟩ (.int .i64 t264)).heap[gm266]? = some (Obj.cells #[.int .i64 t256, .int .i64 t257, .int .i64 t258, .int .i64 t259, .int .i64 t260, .slice Aq5_ t261.length cq5_, .int .i64 t264] 31 (0, 0)) from by (with_reducible repeat (first | refine blk_drewN ?_ _ | refine blk_drew ?_ | refine blk_alloc ?_ _)); refine blk_put (cs := #[.int .i64 t256, .int .i64 t257, .int .i64 t258, .int .i64 t259, .int .i64 t260, .slice Aq5_ t261.length cq5_, .int .i64 0]) ?_ 6 _ rfl; (with_reducible repeat (first | refine blk_drewN ?_ _ | refine blk_drew ?_ | refine blk_alloc ?_ _)); refine blk_put (cs := #[.int .i64 t256, .int .i64 t257, .int .i64 t258, .int .i64 t259, .int .i64 t260, .slice none 0 0, .int .i64 0]) ?_ 5 _ rfl; (with_reducible repeat (first | refine blk_drewN ?_ _ | refine blk_drew ?_ | refine blk_alloc ?_ _)); refine blk_put (cs := #[.int .i64 t256, .int .i64 t257, .int .i64 t258, .int .i64 t259, .int .i64 0, .slice none 0 0, .int .i64 0]) ?_ 4 _ rfl; (with_reducible repeat (first | refine blk_drewN ?_ _ | refine blk_drew ?_ | refine blk_alloc ?_ _)); refine blk_put (cs := #[.int .i64 t256, .int .i64 t257, .int .i64 t258, .int .i64 0, .int .i64 0, .slice none 0 0, .int .i64 0]) ?_ 3 _ rfl; (with_reducible repeat (first | refine blk_drewN ?_ _ | refine blk_drew ?_ | refine blk_alloc ?_ _)); refine blk_put (cs := #[.int .i64 t256, .int .i64 t257, .int .i64 0, .int .i64 0, .int .i64 0, .slice none 0 0, .int .i64 0]) ?_ 2 _ rfl; (with_reducible repeat (first | refine blk_drewN ?_ _ | refine blk_drew ?_ | refine blk_alloc ?_ _)); refine blk_put (cs := #[.int .i64 t256, .int .i64 0, .int .i64 0, .int .i64 0, .int .i64 0, .slice none 0 0, .int .i64 0]) ?_ 1 _ rfl; (with_reducible repeat (first | refine blk_drewN ?_ _ | refine blk_drew ?_ | refine blk_alloc ?_ _)); refine blk_put (cs := #[.int .i64 0, .int .i64 0, .int .i64 0, .int .i64 0, .int .i64 0, .slice none 0 0, .int .i64 0]) ?_ 0 _ rfl; (with_reducible repeat (first | refine blk_drewN ?_ _ | refine blk_drew ?_ | refine blk_alloc ?_ _)); exact BK266.out))
  replace HB := Aside0.mk ((show Below w.heap.size w ((((((((wv9.setCell ⟨gm266, 0, none⟩ (.int .i64 t256)).setCell ⟨gm266, 1, none⟩ (.int .i64 t257)).setCell ⟨gm266, 2, none⟩ (.int .i64 t258)).setCell ⟨gm266, 3, none⟩ (.int .i64 t259)).setCell ⟨gm266, 4, none⟩ (.int .i64 t260)).setCell ⟨gm266, 5, none⟩ (.slice Aq5_ t261.length cq5_)).setCell ⟨gm266, 6, none⟩ (.int .i64 t264))) from by repeat (first | (with_reducible first | exact HB.out | apply below_alloc | apply pw_below_drewN | apply below_drew1 | refine below_set ?_ GE266.out) | exact HB.out)))
  replace HLA := Aside0.mk (And.intro HLA.out ((show Kept wv9 (((((((wv9.setCell ⟨gm266, 0, none⟩ (.int .i64 t256)).setCell ⟨gm266, 1, none⟩ (.int .i64 t257)).setCell ⟨gm266, 2, none⟩ (.int .i64 t258)).setCell ⟨gm266, 3, none⟩ (.int .i64 t259)).setCell ⟨gm266, 4, none⟩ (.int .i64 t260)).setCell ⟨gm266, 5, none⟩ (.slice Aq5_ t261.length cq5_)).setCell ⟨gm266, 6, none⟩ (.int .i64 t264)) (fun k_ => k_ = gm266) from by repeat (first | (with_reducible first | exact Kept.refl _ _ | apply Kept.alloc | apply Kept.drewN | apply Kept.drew) | refine Kept.setCell ?_ (.inl (by first | exact rfl | exact .inl rfl | exact .inr rfl | exact .inr (.inl rfl) | exact .inr (.inr rfl))) _ | exact Kept.refl _ _)).1 : wv9.heap.size ≤ ((((((((wv9.setCell ⟨gm266, 0, none⟩ (.int .i64 t256)).setCell ⟨gm266, 1, none⟩ (.int .i64 t257)).setCell ⟨gm266, 2, none⟩ (.int .i64 t258)).setCell ⟨gm266, 3, none⟩ (.int .i64 t259)).setCell ⟨gm266, 4, none⟩ (.int .i64 t260)).setCell ⟨gm266, 5, none⟩ (.slice Aq5_ t261.length cq5_)).setCell ⟨gm266, 6, none⟩ (.int .i64 t264))).heap.size))
  generalize (((((((wv9.setCell ⟨gm266, 0, none⟩ (.int .i64 t256)).setCell ⟨gm266, 1, none⟩ (.int .i64 t257)).setCell ⟨gm266, 2, none⟩ (.int .i64 t258)).setCell ⟨gm266, 3, none⟩ (.int .i64 t259)).setCell ⟨gm266, 4, none⟩ (.int .i64 t260)).setCell ⟨gm266, 5, none⟩ (.slice Aq5_ t261.length cq5_)).setCell ⟨gm266, 6, none⟩ (.int .i64 t264)) = wv10 at HOq4_ HOq5_ BK242 BK243 BK266 HB HLA ⊢
  obtain ⟨hcz7_0, hcz7_1, hcz7_2, hcz7_3, hcz7_4, hcz7_5, hcz7_6, hcz7_f0, hcz7_f1, hcz7_f2, hcz7_f3, hcz7_f4, hcz7_f5, hcz7_f6⟩ := lk_c7 BK242.out
  go_wp2_with (first | ((with_reducible refine gate_callee (f := 29) rfl ?_); refine goesL_ (some 30) rfl rfl Try.func29 (by kernel_rfl) rfl #[.agg #[.int .i64 a0_0, .int .i64 a0_1, .int .i64 a0_2, .int .i64 a0_3, .int .i64 a0_4, .slice A0_5 l0_5.length c0_5, .int .i64 a0_6]] rfl (by (try simp only [List.map_toArray, List.map_cons, List.map_nil]); first | done | rfl | (simp only [List.length_drop, List.length_take]; rfl)) ?_; (with_reducible refine (laws_toKeeperHost.calls k a0_0 a0_1 a0_2 a0_3 a0_4 _ _ l0_5 a0_6 t267 t268 t269 t270 t271 t272 t275 _ ?side1 ?side2 A8.out).mono ?_); (case side1 => exact Kd.C_below HR0_5.out (by repeat (first | (with_reducible first | exact HB.out | apply below_alloc | apply pw_below_drewN | apply below_drew1) | exact HB.out))); (case side2 => exact HC0_5.out); rintro e wv11 ⟨vq8_, rfl, ho0, hb⟩; refine ⟨_, rfl, ?_⟩; have hkW := (Kept.refl wv10 (fun _ => False)); have hk2 := Kept.below hkW hb; obtain ⟨Aq8_, cq8_, rfl⟩ := Kd.R_slice ho0; obtain ⟨okq8_, hoo0, hi0⟩ := lk_R ho0 (a := wv10.heap.size) (b := w.heap.size) hkW.1 (Nat.le_trans HB.out.size hkW.1); have HOq8_ := Aside0.mk (hoo0); have HIq8_ := Aside0.mk (hi0); replace HOq4_ := Aside0.mk (Kd.R_below HOq4_.out hb); replace HOq5_ := Aside0.mk (Kd.R_below HOq5_.out hb); replace BK242 := Aside0.mk (blk_below BK242.out hb); replace BK243 := Aside0.mk (blk_below BK243.out hb); replace BK266 := Aside0.mk (blk_below BK266.out hb); replace HB := Aside0.mk (below_step (by repeat (first | (with_reducible first | exact HB.out | apply below_alloc | apply pw_below_drewN | apply below_drew1) | exact HB.out)) hb); replace HLA := Aside0.mk (And.intro HLA.out (hk2.1 : wv10.heap.size ≤ wv11.heap.size)); (try clear hb); (try clear hkW); (try clear hk2); (try clear hkp); (try clear hoo0); (try clear hi0); (try clear ho0)) | ((with_reducible refine gate_dst (N := 8) rfl ?_); refine box_event ?hg (N := 8) ?hd (cs := #[.int .i64 0, .int .i64 0, .int .i64 0, .int .i64 0, .int .i64 0, .slice none 0 0, .int .i64 0]) (t := 31) ?hr ?_; (case hd => rfl); (case hg => rfl); (case hr => first | (go_simp; done) | (go_simp; rfl)); intro gb276 hg wv12 hbox hb; have BK276 := Aside0.mk (hbox); have GE276 := Aside0.mk ((by rw [hg]; exact Nat.le_trans HB.out.size ((Kept.refl wv11 (fun _ => False))).1 : w.heap.size ≤ gb276)); have HG276 := Aside0.mk ((⟨by rw [hg]; exact ((Kept.refl wv11 (fun _ => False))).1, blk_lt hbox⟩ : wv11.heap.size ≤ gb276 ∧ gb276 < wv12.heap.size)); replace HOq4_ := Aside0.mk (Kd.R_below HOq4_.out hb); replace HOq5_ := Aside0.mk (Kd.R_below HOq5_.out hb); replace HOq8_ := Aside0.mk (Kd.R_below HOq8_.out hb); replace BK242 := Aside0.mk (blk_below BK242.out hb); replace BK243 := Aside0.mk (blk_below BK243.out hb); replace BK266 := Aside0.mk (blk_below BK266.out hb); replace HB := Aside0.mk (below_step HB.out hb); replace HLA := Aside0.mk (And.intro HLA.out ((Kept.below (Kept.refl wv11 (fun _ => False)) hb).1 : wv11.heap.size ≤ wv12.heap.size)); clear hb hbox hg; obtain ⟨hcz9_0, hcz9_1, hcz9_2, hcz9_3, hcz9_4, hcz9_5, hcz9_6, hcz9_f0, hcz9_f1, hcz9_f2, hcz9_f3, hcz9_f4, hcz9_f5, hcz9_f6⟩ := lk_c7 BK276.out))
  replace HOq4_ := Aside0.mk (Kd.R_kept HOq4_.out (show Kept wv12 (((((((wv12.setCell ⟨gb276, 0, none⟩ (.int .i64 t267)).setCell ⟨gb276, 1, none⟩ (.int .i64 t268)).setCell ⟨gb276, 2, none⟩ (.int .i64 t269)).setCell ⟨gb276, 3, none⟩ (.int .i64 t270)).setCell ⟨gb276, 4, none⟩ (.int .i64 t271)).setCell ⟨gb276, 5, none⟩ (.slice Aq8_ t272.length cq8_)).setCell ⟨gb276, 6, none⟩ (.int .i64 t275)).drew (fun k_ => k_ = gb276) from by repeat (first | (with_reducible first | exact Kept.refl _ _ | apply Kept.alloc | apply Kept.drewN | apply Kept.drew) | refine Kept.setCell ?_ (.inl (by first | exact rfl | exact .inl rfl | exact .inr rfl | exact .inr (.inl rfl) | exact .inr (.inr rfl))) _ | exact Kept.refl _ _)) (fun k_ hk_ hs_ => by have i_ := HIq4_.out k_ hk_; have hs2_ : k_ = gb276 := hs_; have g0_ := HG276.out; have z_ := HLA.out; omega))
  replace HOq5_ := Aside0.mk (Kd.R_kept HOq5_.out (show Kept wv12 (((((((wv12.setCell ⟨gb276, 0, none⟩ (.int .i64 t267)).setCell ⟨gb276, 1, none⟩ (.int .i64 t268)).setCell ⟨gb276, 2, none⟩ (.int .i64 t269)).setCell ⟨gb276, 3, none⟩ (.int .i64 t270)).setCell ⟨gb276, 4, none⟩ (.int .i64 t271)).setCell ⟨gb276, 5, none⟩ (.slice Aq8_ t272.length cq8_)).setCell ⟨gb276, 6, none⟩ (.int .i64 t275)).drew (fun k_ => k_ = gb276) from by repeat (first | (with_reducible first | exact Kept.refl _ _ | apply Kept.alloc | apply Kept.drewN | apply Kept.drew) | refine Kept.setCell ?_ (.inl (by first | exact rfl | exact .inl rfl | exact .inr rfl | exact .inr (.inl rfl) | exact .inr (.inr rfl))) _ | exact Kept.refl _ _)) (fun k_ hk_ hs_ => by have i_ := HIq5_.out k_ hk_; have hs2_ : k_ = gb276 := hs_; have g0_ := HG276.out; have z_ := HLA.out; omega))
  replace HOq8_ := Aside0.mk (Kd.R_kept HOq8_.out (show Kept wv12 (((((((wv12.setCell ⟨gb276, 0, none⟩ (.int .i64 t267)).setCell ⟨gb276, 1, none⟩ (.int .i64 t268)).setCell ⟨gb276, 2, none⟩ (.int .i64 t269)).setCell ⟨gb276, 3, none⟩ (.int .i64 t270)).setCell ⟨gb276, 4, none⟩ (.int .i64 t271)).setCell ⟨gb276, 5, none⟩ (.slice Aq8_ t272.length cq8_)).setCell ⟨gb276, 6, none⟩ (.int .i64 t275)).drew (fun k_ => k_ = gb276) from by repeat (first | (with_reducible first | exact Kept.refl _ _ | apply Kept.alloc | apply Kept.drewN | apply Kept.drew) | refine Kept.setCell ?_ (.inl (by first | exact rfl | exact .inl rfl | exact .inr rfl | exact .inr (.inl rfl) | exact .inr (.inr rfl))) _ | exact Kept.refl _ _)) (fun k_ hk_ hs_ => by have i_ := HIq8_.out k_ hk_; have hs2_ : k_ = gb276 := hs_; have g0_ := HG276.out; have z_ := HLA.out; omega))
  replace BK242 := Aside0.mk ((blk_kept BK242.out (show Kept wv12 (((((((wv12.setCell ⟨gb276, 0, none⟩ (.int .i64 t267)).setCell ⟨gb276, 1, none⟩ (.int .i64 t268)).setCell ⟨gb276, 2, none⟩ (.int .i64 t269)).setCell ⟨gb276, 3, none⟩ (.int .i64 t270)).setCell ⟨gb276, 4, none⟩ (.int .i64 t271)).setCell ⟨gb276, 5, none⟩ (.slice Aq8_ t272.length cq8_)).setCell ⟨gb276, 6, none⟩ (.int .i64 t275)).drew (fun k_ => k_ = gb276) from by repeat (first | (with_reducible first | exact Kept.refl _ _ | apply Kept.alloc | apply Kept.drewN | apply Kept.drew) | refine Kept.setCell ?_ (.inl (by first | exact rfl | exact .inl rfl | exact .inr rfl | exact .inr (.inl rfl) | exact .inr (.inr rfl))) _ | exact Kept.refl _ _)) (fun hs_ => by have hs2_ : gb242 = gb276 := hs_; have g_ := HG242.out; have g0_ := HG276.out; have z_ := HLA.out; omega)))
  replace BK243 := Aside0.mk ((blk_kept BK243.out (show Kept wv12 (((((((wv12.setCell ⟨gb276, 0, none⟩ (.int .i64 t267)).setCell ⟨gb276, 1, none⟩ (.int .i64 t268)).setCell ⟨gb276, 2, none⟩ (.int .i64 t269)).setCell ⟨gb276, 3, none⟩ (.int .i64 t270)).setCell ⟨gb276, 4, none⟩ (.int .i64 t271)).setCell ⟨gb276, 5, none⟩ (.slice Aq8_ t272.length cq8_)).setCell ⟨gb276, 6, none⟩ (.int .i64 t275)).drew (fun k_ => k_ = gb276) from by repeat (first | (with_reducible first | exact Kept.refl _ _ | apply Kept.alloc | apply Kept.drewN | apply Kept.drew) | refine Kept.setCell ?_ (.inl (by first | exact rfl | exact .inl rfl | exact .inr rfl | exact .inr (.inl rfl) | exact .inr (.inr rfl))) _ | exact Kept.refl _ _)) (fun hs_ => by have hs2_ : gb243 = gb276 := hs_; have g_ := HG243.out; have g0_ := HG276.out; have z_ := HLA.out; omega)))
  replace BK266 := Aside0.mk ((blk_kept BK266.out (show Kept wv12 (((((((wv12.setCell ⟨gb276, 0, none⟩ (.int .i64 t267)).setCell ⟨gb276, 1, none⟩ (.int .i64 t268)).setCell ⟨gb276, 2, none⟩ (.int .i64 t269)).setCell ⟨gb276, 3, none⟩ (.int .i64 t270)).setCell ⟨gb276, 4, none⟩ (.int .i64 t271)).setCell ⟨gb276, 5, none⟩ (.slice Aq8_ t272.length cq8_)).setCell ⟨gb276, 6, none⟩ (.int .i64 t275)).drew (fun k_ => k_ = gb276) from by repeat (first | (with_reducible first | exact Kept.refl _ _ | apply Kept.alloc | apply Kept.drewN | apply Kept.drew) | refine Kept.setCell ?_ (.inl (by first | exact rfl | exact .inl rfl | exact .inr rfl | exact .inr (.inl rfl) | exact .inr (.inr rfl))) _ | exact Kept.refl _ _)) (fun hs_ => by have hs2_ : gm266 = gb276 := hs_; have g_ := HG266.out; have g0_ := HG276.out; have z_ := HLA.out; omega)))
  replace BK276 := Aside0.mk ((show (((((((wv12.setCell ⟨gb276, 0, none⟩ (.int .i64 t267)).setCell ⟨gb276, 1, none⟩ (.int .i64 t268)).setCell ⟨gb276, 2, none⟩ (.int .i64 t269)).setCell ⟨gb276, 3, none⟩ (.int .i64 t270)).setCell ⟨gb276, 4, none⟩ (.int .i64 t271)).setCell ⟨gb276, 5, none⟩ (.slice Aq8_ t272.length cq8_)).setCell ⟨gb276, 6, none⟩ (.int .i64 t275)).drew.heap[gb276]? = some (Obj.cells #[.int .i64 t267, .int .i64 t268, .int .i64 t269, .int .i64 t270, .int .i64 t271, .slice Aq8_ t272.length cq8_, .int .i64 t275] 31 (0, 0)) from by (with_reducible repeat (first | refine blk_drewN ?_ _ | refine blk_drew ?_ | refine blk_alloc ?_ _)); refine blk_put (cs := #[.int .i64 t267, .int .i64 t268, .int .i64 t269, .int .i64 t270, .int .i64 t271, .slice Aq8_ t272.length cq8_, .int .i64 0]) ?_ 6 _ rfl; (with_reducible repeat (first | refine blk_drewN ?_ _ | refine blk_drew ?_ | refine blk_alloc ?_ _)); refine blk_put (cs := #[.int .i64 t267, .int .i64 t268, .int .i64 t269, .int .i64 t270, .int .i64 t271, .slice none 0 0, .int .i64 0]) ?_ 5 _ rfl; (with_reducible repeat (first | refine blk_drewN ?_ _ | refine blk_drew ?_ | refine blk_alloc ?_ _)); refine blk_put (cs := #[.int .i64 t267, .int .i64 t268, .int .i64 t269, .int .i64 t270, .int .i64 0, .slice none 0 0, .int .i64 0]) ?_ 4 _ rfl; (with_reducible repeat (first | refine blk_drewN ?_ _ | refine blk_drew ?_ | refine blk_alloc ?_ _)); refine blk_put (cs := #[.int .i64 t267, .int .i64 t268, .int .i64 t269, .int .i64 0, .int .i64 0, .slice none 0 0, .int .i64 0]) ?_ 3 _ rfl; (with_reducible repeat (first | refine blk_drewN ?_ _ | refine blk_drew ?_ | refine blk_alloc ?_ _)); refine blk_put (cs := #[.int .i64 t267, .int .i64 t268, .int .i64 0, .int .i64 0, .int .i64 0, .slice none 0 0, .int .i64 0]) ?_ 2 _ rfl; (with_reducible repeat (first | refine blk_drewN ?_ _ | refine blk_drew ?_ | refine blk_alloc ?_ _)); refine blk_put (cs := #[.int .i64 t267, .int .i64 0, .int .i64 0, .int .i64 0, .int .i64 0, .slice none 0 0, .int .i64 0]) ?_ 1 _ rfl; (with_reducible repeat (first | refine blk_drewN ?_ _ | refine blk_drew ?_ | refine blk_alloc ?_ _)); refine blk_put (cs := #[.int .i64 0, .int .i64 0, .int .i64 0, .int .i64 0, .int .i64 0, .slice none 0 0, .int .i64 0]) ?_ 0 _ rfl; (with_reducible repeat (first | refine blk_drewN ?_ _ | refine blk_drew ?_ | refine blk_alloc ?_ _)); exact BK276.out))
  replace HB := Aside0.mk ((show Below w.heap.size w ((((((((wv12.setCell ⟨gb276, 0, none⟩ (.int .i64 t267)).setCell ⟨gb276, 1, none⟩ (.int .i64 t268)).setCell ⟨gb276, 2, none⟩ (.int .i64 t269)).setCell ⟨gb276, 3, none⟩ (.int .i64 t270)).setCell ⟨gb276, 4, none⟩ (.int .i64 t271)).setCell ⟨gb276, 5, none⟩ (.slice Aq8_ t272.length cq8_)).setCell ⟨gb276, 6, none⟩ (.int .i64 t275)).drew) from by repeat (first | (with_reducible first | exact HB.out | apply below_alloc | apply pw_below_drewN | apply below_drew1 | refine below_set ?_ GE276.out) | exact HB.out)))
  replace HLA := Aside0.mk (And.intro HLA.out ((show Kept wv12 (((((((wv12.setCell ⟨gb276, 0, none⟩ (.int .i64 t267)).setCell ⟨gb276, 1, none⟩ (.int .i64 t268)).setCell ⟨gb276, 2, none⟩ (.int .i64 t269)).setCell ⟨gb276, 3, none⟩ (.int .i64 t270)).setCell ⟨gb276, 4, none⟩ (.int .i64 t271)).setCell ⟨gb276, 5, none⟩ (.slice Aq8_ t272.length cq8_)).setCell ⟨gb276, 6, none⟩ (.int .i64 t275)).drew (fun k_ => k_ = gb276) from by repeat (first | (with_reducible first | exact Kept.refl _ _ | apply Kept.alloc | apply Kept.drewN | apply Kept.drew) | refine Kept.setCell ?_ (.inl (by first | exact rfl | exact .inl rfl | exact .inr rfl | exact .inr (.inl rfl) | exact .inr (.inr rfl))) _ | exact Kept.refl _ _)).1 : wv12.heap.size ≤ ((((((((wv12.setCell ⟨gb276, 0, none⟩ (.int .i64 t267)).setCell ⟨gb276, 1, none⟩ (.int .i64 t268)).setCell ⟨gb276, 2, none⟩ (.int .i64 t269)).setCell ⟨gb276, 3, none⟩ (.int .i64 t270)).setCell ⟨gb276, 4, none⟩ (.int .i64 t271)).setCell ⟨gb276, 5, none⟩ (.slice Aq8_ t272.length cq8_)).setCell ⟨gb276, 6, none⟩ (.int .i64 t275)).drew).heap.size))
  refine start_ (n := 10) (S := fun w' => w'.cell? ⟨gb276, 0, none⟩ = some (.int .i64 t267) ∧ w'.cell? ⟨gb276, 1, none⟩ = some (.int .i64 t268) ∧ w'.cell? ⟨gb276, 2, none⟩ = some (.int .i64 t269) ∧ w'.cell? ⟨gb276, 3, none⟩ = some (.int .i64 t270) ∧ w'.cell? ⟨gb276, 4, none⟩ = some (.int .i64 t271) ∧ w'.cell? ⟨gb276, 5, none⟩ = some (.slice Aq8_ t272.length cq8_) ∧ w'.cell? ⟨gb276, 6, none⟩ = some (.int .i64 t275) ∧ w'.cell? ⟨gb243, 0, none⟩ = some (.int .i64 a1_0) ∧ w'.cell? ⟨gb243, 1, none⟩ = some (.int .i64 a1_1)) (ds := []) #[false, false, false, false, false, false, false, false, false, false] (by kernel_rfl) rfl rfl (lk_t7 BK276.out (lk_e2 BK243.out)) (fun hHeld => ?_)
  generalize (((((((wv12.setCell ⟨gb276, 0, none⟩ (.int .i64 t267)).setCell ⟨gb276, 1, none⟩ (.int .i64 t268)).setCell ⟨gb276, 2, none⟩ (.int .i64 t269)).setCell ⟨gb276, 3, none⟩ (.int .i64 t270)).setCell ⟨gb276, 4, none⟩ (.int .i64 t271)).setCell ⟨gb276, 5, none⟩ (.slice Aq8_ t272.length cq8_)).setCell ⟨gb276, 6, none⟩ (.int .i64 t275)).drew = wv13 at HOq4_ HOq5_ HOq8_ BK242 BK243 BK266 BK276 HB HLA hHeld ⊢
  refine take_ (i := 0) (N := some 32) (v := ?_) (a' := ?_) #[true, false, false, false, false, false, false, false, false, false] rfl rfl (by kernel_rfl) (fun _ _ _ h => h) (Or.inl ⟨by rfl, ?_⟩) hHeld ?_ ?_
  rotate_left
  · rintro w' ⟨s0, s1, s2, s3, s4, s5, s6, s7, s8⟩
    go_simp
    with_reducible rfl
  rotate_left
  · simp only [Act.put, List.setIfInBounds_toArray, List.set_cons_zero, List.set_cons_succ, i64_w, i32_w]
    rfl
  refine take_ (i := 1) (N := some 33) (v := ?_) (a' := ?_) #[true, true, false, false, false, false, false, false, false, false] rfl rfl (by kernel_rfl) (fun _ _ _ h => h) (Or.inl ⟨by rfl, ?_⟩) hHeld ?_ ?_
  rotate_left
  · rintro w' ⟨s0, s1, s2, s3, s4, s5, s6, s7, s8⟩
    go_simp
    with_reducible rfl
  rotate_left
  · simp only [Act.put, List.setIfInBounds_toArray, List.set_cons_zero, List.set_cons_succ, i64_w, i32_w]
    rfl
  refine join_ (σ := (Nat → Prop) × (Option Addr) × Nat × Nat) 2 #[true, true, true, true, true, true, true, true, false, false] (fun s => [(34, .agg #[.int .i64 t277, .int .i64 t278]), (35, .tuple #[.agg #[.int .i64 t279, .int .i64 t280, .int .i64 t281, .int .i64 t282, .int .i64 t283, .slice s.2.1 t284.length s.2.2.1, .int .i64 t287], .bool t288]), (31, .tuple #[.agg #[.int .i64 t279, .int .i64 t280, .int .i64 t281, .int .i64 t282, .int .i64 t283, .slice s.2.1 t284.length s.2.2.1, .int .i64 t287], .bool t288]), (36, .agg #[.int .i64 t279, .int .i64 t280, .int .i64 t281, .int .i64 t282, .int .i64 t283, .slice s.2.1 t284.length s.2.2.1, .int .i64 t287]), (37, .bool t288), (9, .pointer (some ⟨s.2.2.2, 0, none⟩))]) (fun s w' => (Kd.R k28 28 w' w.heap.size okq4_ (.slice Aq4_ t250.length cq4_) t250) ∧ (Kd.R k28 28 w' w.heap.size okq5_ (.slice Aq5_ t261.length cq5_) t261) ∧ (Kd.R k28 28 w' w.heap.size okq8_ (.slice Aq8_ t272.length cq8_) t272) ∧ (w'.heap[gb242]? = some (Obj.cells #[.int .i64 a0_0, .int .i64 a0_1, .int .i64 a0_2, .int .i64 a0_3, .int .i64 a0_4, .slice A0_5 l0_5.length c0_5, .int .i64 a0_6] 50 (0, 0))) ∧ (w'.heap[gb243]? = some (Obj.cells #[.int .i64 a1_0, .int .i64 a1_1] 42 (0, 0))) ∧ (w'.heap[gm266]? = some (Obj.cells #[.int .i64 t256, .int .i64 t257, .int .i64 t258, .int .i64 t259, .int .i64 t260, .slice Aq5_ t261.length cq5_, .int .i64 t264] 31 (0, 0))) ∧ (w'.heap[gb276]? = some (Obj.cells #[.int .i64 t267, .int .i64 t268, .int .i64 t269, .int .i64 t270, .int .i64 t271, .slice Aq8_ t272.length cq8_, .int .i64 t275] 31 (0, 0))) ∧ (Below w.heap.size w w') ∧ (wv13.heap.size ≤ w'.heap.size) ∧ (Kd.R k28 28 w' w.heap.size (s.1) (.slice (s.2.1) t284.length (s.2.2.1)) t284) ∧ (∀ k_, (s.1) k_ → (wv13.heap.size ≤ k_ ∧ k_ < w'.heap.size) ∧ k_ ≠ (s.2.2.2)) ∧ (w'.heap[(s.2.2.2)]? = some (Obj.cells #[.int .i64 0, .int .i64 0, .int .i64 0, .int .i64 0, .int .i64 0, .slice none 0 0, .int .i64 0] 31 (0, 0))) ∧ (wv13.heap.size ≤ (s.2.2.2) ∧ (s.2.2.2) < w'.heap.size) ∧ (w.heap.size ≤ (s.2.2.2))) ?_ ?_
  rotate_left
  · intro hCont
    refine two_ (i := 2) (j := 7) (Ni := some 34) (Nj := some 9) #[true, true, true, false, false, false, false, false, false, false] #[true, true, false, false, false, false, false, true, false, false] rfl rfl rfl rfl (by kernel_rfl) (by decide) (by decide) (fun K hK => ?_) (fun K hK => ?_)
    · skip
      refine goes_ Try.func34 (by kernel_rfl) rfl #[.agg #[.int .i64 a1_0, .int .i64 a1_1]] (by rfl) rfl rfl (by (try simp only [List.map_toArray, List.map_cons, List.map_nil]); first | done | rfl | (simp only [List.length_drop, List.length_take]; rfl)) ?_
      (with_reducible refine (laws_toShare.calls a1_0 a1_1 t277 t278 _  A9.out).mono ?_)
      rintro e wv14 ⟨rfl, hb⟩
      refine ⟨_, rfl, ?_⟩
      have hkW := (Kept.refl wv13 (fun _ => False))
      have hk2 := Kept.below hkW hb
      replace HOq4_ := Aside0.mk (Kd.R_below HOq4_.out hb)
      replace HOq5_ := Aside0.mk (Kd.R_below HOq5_.out hb)
      replace HOq8_ := Aside0.mk (Kd.R_below HOq8_.out hb)
      replace BK242 := Aside0.mk (blk_below BK242.out hb)
      replace BK243 := Aside0.mk (blk_below BK243.out hb)
      replace BK266 := Aside0.mk (blk_below BK266.out hb)
      replace BK276 := Aside0.mk (blk_below BK276.out hb)
      replace HB := Aside0.mk (below_step (by repeat (first | (with_reducible first | exact HB.out | apply below_alloc | apply pw_below_drewN | apply below_drew1) | exact HB.out)) hb)
      replace HLA := Aside0.mk (And.intro HLA.out (hk2.1 : wv13.heap.size ≤ wv14.heap.size))
      (try clear hb)
      (try clear hkW)
      (try clear hk2)
      (try clear hkp)
      refine hK.out _ _ (lk_t7 BK276.out (lk_e2 BK243.out)) (fun hHeld => ?_)
      clear hK K
      refine norm_ (a' := ?_) ?_ ?_
      rotate_left
      · show Act.put _ (some 34) _ = _
        simp only [Act.put, List.setIfInBounds_toArray, List.set_cons_zero, List.set_cons_succ, i64_w, i32_w]
        rfl
      refine two_ (i := 3) (j := 7) (Ni := some 35) (Nj := some 9) #[true, true, true, true, false, false, false, false, false, false] #[true, true, true, false, false, false, false, true, false, false] rfl rfl rfl rfl (by kernel_rfl) (by decide) (by decide) (fun K hK => ?_) (fun K hK => ?_)
      · skip
        refine goes_ Try.func35 (by kernel_rfl) rfl #[.agg #[.int .i64 t267, .int .i64 t268, .int .i64 t269, .int .i64 t270, .int .i64 t271, .slice Aq8_ t272.length cq8_, .int .i64 t275], .agg #[.int .i64 t277, .int .i64 t278]] (by rfl) rfl rfl (by (try simp only [List.map_toArray, List.map_cons, List.map_nil]); first | done | rfl | (simp only [List.length_drop, List.length_take]; rfl)) ?_
        (with_reducible refine (impl_ResetGuesses.calls t267 t268 t269 t270 t271 _ _ t272 t275 t277 t278 t279 t280 t281 t282 t283 t284 t287 t288 _ ?side1 ?side2 A10.out).mono ?_)
        (case side1 => exact (Kd.R_reads' HOq8_.out).2.2)
        (case side2 => have h1_ := (Kd.R_reads' HOq8_.out).1; have h2_ := (Kd.R_reads' HOq8_.out).2.1; omega)
        rintro e wv15 ⟨vq10_, rfl, ho0, hb⟩
        refine ⟨_, rfl, ?_⟩
        have hkW := (Kept.refl wv14 (fun _ => False))
        have hk2 := Kept.below hkW hb
        obtain ⟨Aq10_, cq10_, rfl⟩ := Kd.R_slice ho0
        obtain ⟨okq10_, hoo0, hi0⟩ := lk_R ho0 (a := wv14.heap.size) (b := w.heap.size) hkW.1 (Nat.le_trans HB.out.size hkW.1)
        have HOq10_ := Aside0.mk (hoo0)
        have HIq10_ := Aside0.mk (hi0)
        replace HOq4_ := Aside0.mk (Kd.R_below HOq4_.out hb)
        replace HOq5_ := Aside0.mk (Kd.R_below HOq5_.out hb)
        replace HOq8_ := Aside0.mk (Kd.R_below HOq8_.out hb)
        replace BK242 := Aside0.mk (blk_below BK242.out hb)
        replace BK243 := Aside0.mk (blk_below BK243.out hb)
        replace BK266 := Aside0.mk (blk_below BK266.out hb)
        replace BK276 := Aside0.mk (blk_below BK276.out hb)
        replace HB := Aside0.mk (below_step (by repeat (first | (with_reducible first | exact HB.out | apply below_alloc | apply pw_below_drewN | apply below_drew1) | exact HB.out)) hb)
        replace HLA := Aside0.mk (And.intro HLA.out (hk2.1 : wv14.heap.size ≤ wv15.heap.size))
        (try clear hb)
        (try clear hkW)
        (try clear hk2)
        (try clear hkp)
        (try clear hoo0)
        (try clear hi0)
        (try clear ho0)
        refine hK.out _ _ (lk_t7 BK276.out (lk_e2 BK243.out)) (fun hHeld => ?_)
        clear hK K
        refine norm_ (a' := ?_) ?_ ?_
        rotate_left
        · show Act.put _ (some 35) _ = _
          simp only [Act.put, List.setIfInBounds_toArray, List.set_cons_zero, List.set_cons_succ, i64_w, i32_w]
          rfl
        refine pure_ (i := 4) (N := some 31) (v := ?_) (a' := ?_) #[true, true, true, true, true, false, false, false, false, false] rfl rfl (by kernel_rfl) (fun _ _ _ h => h) (Or.inl ⟨by rfl, ?_⟩) ?_ ?_
        rotate_left
        · intro w'
          go_simp
          with_reducible rfl
        rotate_left
        · simp only [Act.put, List.setIfInBounds_toArray, List.set_cons_zero, List.set_cons_succ, i64_w, i32_w]
          rfl
        refine pure_ (i := 5) (N := some 36) (v := ?_) (a' := ?_) #[true, true, true, true, true, true, false, false, false, false] rfl rfl (by kernel_rfl) (fun _ _ _ h => h) (Or.inl ⟨by rfl, ?_⟩) ?_ ?_
        rotate_left
        · intro w'
          go_simp
          with_reducible rfl
        rotate_left
        · simp only [Act.put, List.setIfInBounds_toArray, List.set_cons_zero, List.set_cons_succ, i64_w, i32_w]
          rfl
        refine pure_ (i := 6) (N := some 37) (v := ?_) (a' := ?_) #[true, true, true, true, true, true, true, false, false, false] rfl rfl (by kernel_rfl) (fun _ _ _ h => h) (Or.inl ⟨by rfl, ?_⟩) ?_ ?_
        rotate_left
        · intro w'
          go_simp
          with_reducible rfl
        rotate_left
        · simp only [Act.put, List.setIfInBounds_toArray, List.set_cons_zero, List.set_cons_succ, i64_w, i32_w]
          rfl
        refine one_ (i := 7) (N := some 9) #[true, true, true, true, true, true, true, true, false, false] rfl rfl (by kernel_rfl) (by decide) (fun K hK => ?_)
        refine box_step ?hg (N := 9) ?hd (cs := #[.int .i64 0, .int .i64 0, .int .i64 0, .int .i64 0, .int .i64 0, .slice none 0 0, .int .i64 0]) (t := 31) ?hr ?_
        (case hd => rfl)
        (case hg => rfl)
        (case hr => first | (go_simp; done) | (go_simp; rfl))
        intro gb289 hg wv16 hbox hb
        have BK289 := Aside0.mk (hbox)
        have GE289 := Aside0.mk ((by rw [hg]; exact Nat.le_trans HB.out.size ((Kept.refl wv15 (fun _ => False))).1 : w.heap.size ≤ gb289))
        have HG289 := Aside0.mk ((⟨by rw [hg]; exact ((Kept.refl wv15 (fun _ => False))).1, blk_lt hbox⟩ : wv15.heap.size ≤ gb289 ∧ gb289 < wv16.heap.size))
        replace HOq4_ := Aside0.mk (Kd.R_below HOq4_.out hb)
        replace HOq5_ := Aside0.mk (Kd.R_below HOq5_.out hb)
        replace HOq8_ := Aside0.mk (Kd.R_below HOq8_.out hb)
        replace HOq10_ := Aside0.mk (Kd.R_below HOq10_.out hb)
        replace BK242 := Aside0.mk (blk_below BK242.out hb)
        replace BK243 := Aside0.mk (blk_below BK243.out hb)
        replace BK266 := Aside0.mk (blk_below BK266.out hb)
        replace BK276 := Aside0.mk (blk_below BK276.out hb)
        replace HB := Aside0.mk (below_step HB.out hb)
        replace HLA := Aside0.mk (And.intro HLA.out ((Kept.below (Kept.refl wv15 (fun _ => False)) hb).1 : wv15.heap.size ≤ wv16.heap.size))
        clear hb hbox hg
        refine hK.out _ _ (lk_t7 BK276.out (lk_e2 BK243.out)) (fun hHeld => ?_)
        clear hK K
        refine norm_ (a' := ?_) ?_ ?_
        rotate_left
        · show Act.put _ (some 9) _ = _
          simp only [Act.put, List.setIfInBounds_toArray, List.set_cons_zero, List.set_cons_succ, i64_w, i32_w]
          rfl
        exact norm_ (by simp only [putAll, Act.put, List.setIfInBounds_toArray, List.set_cons_zero, List.set_cons_succ]) (hCont (okq10_, Aq10_, cq10_, gb289) _ ⟨HOq4_.out, HOq5_.out, HOq8_.out, BK242.out, BK243.out, BK266.out, BK276.out, HB.out, (by have z_ := HLA.out; omega), HOq10_.out, (fun k_ hk_ => by have i_ := HIq10_.out k_ hk_; have g0_ := HG289.out; have z_ := HLA.out; (try dsimp only); first | omega | (refine ⟨?_, ?_⟩ <;> omega) | (refine ⟨⟨?_, ?_⟩, ?_⟩ <;> omega) | (refine ⟨⟨?_, ?_⟩, ?_, ?_⟩ <;> omega)), BK289.out, (by have g_ := HG289.out; have z_ := HLA.out; (try dsimp only); first | omega | (refine ⟨?_, ?_⟩ <;> omega) | (refine ⟨⟨?_, ?_⟩, ?_⟩ <;> omega) | (refine ⟨⟨?_, ?_⟩, ?_, ?_⟩ <;> omega)), GE289.out⟩)
      skip
      refine box_step ?hg (N := 9) ?hd (cs := #[.int .i64 0, .int .i64 0, .int .i64 0, .int .i64 0, .int .i64 0, .slice none 0 0, .int .i64 0]) (t := 31) ?hr ?_
      (case hd => rfl)
      (case hg => rfl)
      (case hr => first | (go_simp; done) | (go_simp; rfl))
      intro gb289 hg wv15 hbox hb
      have BK289 := Aside0.mk (hbox)
      have GE289 := Aside0.mk ((by rw [hg]; exact Nat.le_trans HB.out.size ((Kept.refl wv14 (fun _ => False))).1 : w.heap.size ≤ gb289))
      have HG289 := Aside0.mk ((⟨by rw [hg]; exact ((Kept.refl wv14 (fun _ => False))).1, blk_lt hbox⟩ : wv14.heap.size ≤ gb289 ∧ gb289 < wv15.heap.size))
      replace HOq4_ := Aside0.mk (Kd.R_below HOq4_.out hb)
      replace HOq5_ := Aside0.mk (Kd.R_below HOq5_.out hb)
      replace HOq8_ := Aside0.mk (Kd.R_below HOq8_.out hb)
      replace BK242 := Aside0.mk (blk_below BK242.out hb)
      replace BK243 := Aside0.mk (blk_below BK243.out hb)
      replace BK266 := Aside0.mk (blk_below BK266.out hb)
      replace BK276 := Aside0.mk (blk_below BK276.out hb)
      replace HB := Aside0.mk (below_step HB.out hb)
      replace HLA := Aside0.mk (And.intro HLA.out ((Kept.below (Kept.refl wv14 (fun _ => False)) hb).1 : wv14.heap.size ≤ wv15.heap.size))
      clear hb hbox hg
      refine hK.out _ _ (lk_t7 BK276.out (lk_e2 BK243.out)) (fun hHeld => ?_)
      clear hK K
      refine norm_ (a' := ?_) ?_ ?_
      rotate_left
      · show Act.put _ (some 9) _ = _
        simp only [Act.put, List.setIfInBounds_toArray, List.set_cons_zero, List.set_cons_succ, i64_w, i32_w]
        rfl
      refine one_ (i := 3) (N := some 35) #[true, true, true, true, false, false, false, true, false, false] rfl rfl (by kernel_rfl) (by decide) (fun K hK => ?_)
      refine goes_ Try.func35 (by kernel_rfl) rfl #[.agg #[.int .i64 t267, .int .i64 t268, .int .i64 t269, .int .i64 t270, .int .i64 t271, .slice Aq8_ t272.length cq8_, .int .i64 t275], .agg #[.int .i64 t277, .int .i64 t278]] (by rfl) rfl rfl (by (try simp only [List.map_toArray, List.map_cons, List.map_nil]); first | done | rfl | (simp only [List.length_drop, List.length_take]; rfl)) ?_
      (with_reducible refine (impl_ResetGuesses.calls t267 t268 t269 t270 t271 _ _ t272 t275 t277 t278 t279 t280 t281 t282 t283 t284 t287 t288 _ ?side1 ?side2 A10.out).mono ?_)
      (case side1 => exact (Kd.R_reads' HOq8_.out).2.2)
      (case side2 => have h1_ := (Kd.R_reads' HOq8_.out).1; have h2_ := (Kd.R_reads' HOq8_.out).2.1; omega)
      rintro e wv16 ⟨vq10_, rfl, ho0, hb⟩
      refine ⟨_, rfl, ?_⟩
      have hkW := (Kept.refl wv15 (fun _ => False))
      have hk2 := Kept.below hkW hb
      obtain ⟨Aq10_, cq10_, rfl⟩ := Kd.R_slice ho0
      obtain ⟨okq10_, hoo0, hi0⟩ := lk_R ho0 (a := wv15.heap.size) (b := w.heap.size) hkW.1 (Nat.le_trans HB.out.size hkW.1)
      have HOq10_ := Aside0.mk (hoo0)
      have HIq10_ := Aside0.mk (hi0)
      replace HOq4_ := Aside0.mk (Kd.R_below HOq4_.out hb)
      replace HOq5_ := Aside0.mk (Kd.R_below HOq5_.out hb)
      replace HOq8_ := Aside0.mk (Kd.R_below HOq8_.out hb)
      replace BK242 := Aside0.mk (blk_below BK242.out hb)
      replace BK243 := Aside0.mk (blk_below BK243.out hb)
      replace BK266 := Aside0.mk (blk_below BK266.out hb)
      replace BK276 := Aside0.mk (blk_below BK276.out hb)
      replace BK289 := Aside0.mk (blk_below BK289.out hb)
      replace HB := Aside0.mk (below_step (by repeat (first | (with_reducible first | exact HB.out | apply below_alloc | apply pw_below_drewN | apply below_drew1) | exact HB.out)) hb)
      replace HLA := Aside0.mk (And.intro HLA.out (hk2.1 : wv15.heap.size ≤ wv16.heap.size))
      (try clear hb)
      (try clear hkW)
      (try clear hk2)
      (try clear hkp)
      (try clear hoo0)
      (try clear hi0)
      (try clear ho0)
      refine hK.out _ _ (lk_t7 BK276.out (lk_e2 BK243.out)) (fun hHeld => ?_)
      clear hK K
      refine norm_ (a' := ?_) ?_ ?_
      rotate_left
      · show Act.put _ (some 35) _ = _
        simp only [Act.put, List.setIfInBounds_toArray, List.set_cons_zero, List.set_cons_succ, i64_w, i32_w]
        rfl
      refine pure_ (i := 4) (N := some 31) (v := ?_) (a' := ?_) #[true, true, true, true, true, false, false, true, false, false] rfl rfl (by kernel_rfl) (fun _ _ _ h => h) (Or.inl ⟨by rfl, ?_⟩) ?_ ?_
      rotate_left
      · intro w'
        go_simp
        with_reducible rfl
      rotate_left
      · simp only [Act.put, List.setIfInBounds_toArray, List.set_cons_zero, List.set_cons_succ, i64_w, i32_w]
        rfl
      refine pure_ (i := 5) (N := some 36) (v := ?_) (a' := ?_) #[true, true, true, true, true, true, false, true, false, false] rfl rfl (by kernel_rfl) (fun _ _ _ h => h) (Or.inl ⟨by rfl, ?_⟩) ?_ ?_
      rotate_left
      · intro w'
        go_simp
        with_reducible rfl
      rotate_left
      · simp only [Act.put, List.setIfInBounds_toArray, List.set_cons_zero, List.set_cons_succ, i64_w, i32_w]
        rfl
      refine pure_ (i := 6) (N := some 37) (v := ?_) (a' := ?_) #[true, true, true, true, true, true, true, true, false, false] rfl rfl (by kernel_rfl) (fun _ _ _ h => h) (Or.inl ⟨by rfl, ?_⟩) ?_ ?_
      rotate_left
      · intro w'
        go_simp
        with_reducible rfl
      rotate_left
      · simp only [Act.put, List.setIfInBounds_toArray, List.set_cons_zero, List.set_cons_succ, i64_w, i32_w]
        rfl
      exact norm_ (by simp only [putAll, Act.put, List.setIfInBounds_toArray, List.set_cons_zero, List.set_cons_succ]) (hCont (okq10_, Aq10_, cq10_, gb289) _ ⟨HOq4_.out, HOq5_.out, HOq8_.out, BK242.out, BK243.out, BK266.out, BK276.out, HB.out, (by have z_ := HLA.out; omega), HOq10_.out, (fun k_ hk_ => by have i_ := HIq10_.out k_ hk_; have g0_ := HG289.out; have z_ := HLA.out; (try dsimp only); first | omega | (refine ⟨?_, ?_⟩ <;> omega) | (refine ⟨⟨?_, ?_⟩, ?_⟩ <;> omega) | (refine ⟨⟨?_, ?_⟩, ?_, ?_⟩ <;> omega)), BK289.out, (by have g_ := HG289.out; have z_ := HLA.out; (try dsimp only); first | omega | (refine ⟨?_, ?_⟩ <;> omega) | (refine ⟨⟨?_, ?_⟩, ?_⟩ <;> omega) | (refine ⟨⟨?_, ?_⟩, ?_, ?_⟩ <;> omega)), GE289.out⟩)
    skip
    refine box_step ?hg (N := 9) ?hd (cs := #[.int .i64 0, .int .i64 0, .int .i64 0, .int .i64 0, .int .i64 0, .slice none 0 0, .int .i64 0]) (t := 31) ?hr ?_
    (case hd => rfl)
    (case hg => rfl)
    (case hr => first | (go_simp; done) | (go_simp; rfl))
    intro gb289 hg wv14 hbox hb
    have BK289 := Aside0.mk (hbox)
    have GE289 := Aside0.mk ((by rw [hg]; exact Nat.le_trans HB.out.size ((Kept.refl wv13 (fun _ => False))).1 : w.heap.size ≤ gb289))
    have HG289 := Aside0.mk ((⟨by rw [hg]; exact ((Kept.refl wv13 (fun _ => False))).1, blk_lt hbox⟩ : wv13.heap.size ≤ gb289 ∧ gb289 < wv14.heap.size))
    replace HOq4_ := Aside0.mk (Kd.R_below HOq4_.out hb)
    replace HOq5_ := Aside0.mk (Kd.R_below HOq5_.out hb)
    replace HOq8_ := Aside0.mk (Kd.R_below HOq8_.out hb)
    replace BK242 := Aside0.mk (blk_below BK242.out hb)
    replace BK243 := Aside0.mk (blk_below BK243.out hb)
    replace BK266 := Aside0.mk (blk_below BK266.out hb)
    replace BK276 := Aside0.mk (blk_below BK276.out hb)
    replace HB := Aside0.mk (below_step HB.out hb)
    replace HLA := Aside0.mk (And.intro HLA.out ((Kept.below (Kept.refl wv13 (fun _ => False)) hb).1 : wv13.heap.size ≤ wv14.heap.size))
    clear hb hbox hg
    refine hK.out _ _ (lk_t7 BK276.out (lk_e2 BK243.out)) (fun hHeld => ?_)
    clear hK K
    refine norm_ (a' := ?_) ?_ ?_
    rotate_left
    · show Act.put _ (some 9) _ = _
      simp only [Act.put, List.setIfInBounds_toArray, List.set_cons_zero, List.set_cons_succ, i64_w, i32_w]
      rfl
    refine one_ (i := 2) (N := some 34) #[true, true, true, false, false, false, false, true, false, false] rfl rfl (by kernel_rfl) (by decide) (fun K hK => ?_)
    refine goes_ Try.func34 (by kernel_rfl) rfl #[.agg #[.int .i64 a1_0, .int .i64 a1_1]] (by rfl) rfl rfl (by (try simp only [List.map_toArray, List.map_cons, List.map_nil]); first | done | rfl | (simp only [List.length_drop, List.length_take]; rfl)) ?_
    (with_reducible refine (laws_toShare.calls a1_0 a1_1 t277 t278 _  A9.out).mono ?_)
    rintro e wv15 ⟨rfl, hb⟩
    refine ⟨_, rfl, ?_⟩
    have hkW := (Kept.refl wv14 (fun _ => False))
    have hk2 := Kept.below hkW hb
    replace HOq4_ := Aside0.mk (Kd.R_below HOq4_.out hb)
    replace HOq5_ := Aside0.mk (Kd.R_below HOq5_.out hb)
    replace HOq8_ := Aside0.mk (Kd.R_below HOq8_.out hb)
    replace BK242 := Aside0.mk (blk_below BK242.out hb)
    replace BK243 := Aside0.mk (blk_below BK243.out hb)
    replace BK266 := Aside0.mk (blk_below BK266.out hb)
    replace BK276 := Aside0.mk (blk_below BK276.out hb)
    replace BK289 := Aside0.mk (blk_below BK289.out hb)
    replace HB := Aside0.mk (below_step (by repeat (first | (with_reducible first | exact HB.out | apply below_alloc | apply pw_below_drewN | apply below_drew1) | exact HB.out)) hb)
    replace HLA := Aside0.mk (And.intro HLA.out (hk2.1 : wv14.heap.size ≤ wv15.heap.size))
    (try clear hb)
    (try clear hkW)
    (try clear hk2)
    (try clear hkp)
    refine hK.out _ _ (lk_t7 BK276.out (lk_e2 BK243.out)) (fun hHeld => ?_)
    clear hK K
    refine norm_ (a' := ?_) ?_ ?_
    rotate_left
    · show Act.put _ (some 34) _ = _
      simp only [Act.put, List.setIfInBounds_toArray, List.set_cons_zero, List.set_cons_succ, i64_w, i32_w]
      rfl
    refine one_ (i := 3) (N := some 35) #[true, true, true, true, false, false, false, true, false, false] rfl rfl (by kernel_rfl) (by decide) (fun K hK => ?_)
    refine goes_ Try.func35 (by kernel_rfl) rfl #[.agg #[.int .i64 t267, .int .i64 t268, .int .i64 t269, .int .i64 t270, .int .i64 t271, .slice Aq8_ t272.length cq8_, .int .i64 t275], .agg #[.int .i64 t277, .int .i64 t278]] (by rfl) rfl rfl (by (try simp only [List.map_toArray, List.map_cons, List.map_nil]); first | done | rfl | (simp only [List.length_drop, List.length_take]; rfl)) ?_
    (with_reducible refine (impl_ResetGuesses.calls t267 t268 t269 t270 t271 _ _ t272 t275 t277 t278 t279 t280 t281 t282 t283 t284 t287 t288 _ ?side1 ?side2 A10.out).mono ?_)
    (case side1 => exact (Kd.R_reads' HOq8_.out).2.2)
    (case side2 => have h1_ := (Kd.R_reads' HOq8_.out).1; have h2_ := (Kd.R_reads' HOq8_.out).2.1; omega)
    rintro e wv16 ⟨vq10_, rfl, ho0, hb⟩
    refine ⟨_, rfl, ?_⟩
    have hkW := (Kept.refl wv15 (fun _ => False))
    have hk2 := Kept.below hkW hb
    obtain ⟨Aq10_, cq10_, rfl⟩ := Kd.R_slice ho0
    obtain ⟨okq10_, hoo0, hi0⟩ := lk_R ho0 (a := wv15.heap.size) (b := w.heap.size) hkW.1 (Nat.le_trans HB.out.size hkW.1)
    have HOq10_ := Aside0.mk (hoo0)
    have HIq10_ := Aside0.mk (hi0)
    replace HOq4_ := Aside0.mk (Kd.R_below HOq4_.out hb)
    replace HOq5_ := Aside0.mk (Kd.R_below HOq5_.out hb)
    replace HOq8_ := Aside0.mk (Kd.R_below HOq8_.out hb)
    replace BK242 := Aside0.mk (blk_below BK242.out hb)
    replace BK243 := Aside0.mk (blk_below BK243.out hb)
    replace BK266 := Aside0.mk (blk_below BK266.out hb)
    replace BK276 := Aside0.mk (blk_below BK276.out hb)
    replace BK289 := Aside0.mk (blk_below BK289.out hb)
    replace HB := Aside0.mk (below_step (by repeat (first | (with_reducible first | exact HB.out | apply below_alloc | apply pw_below_drewN | apply below_drew1) | exact HB.out)) hb)
    replace HLA := Aside0.mk (And.intro HLA.out (hk2.1 : wv15.heap.size ≤ wv16.heap.size))
    (try clear hb)
    (try clear hkW)
    (try clear hk2)
    (try clear hkp)
    (try clear hoo0)
    (try clear hi0)
    (try clear ho0)
    refine hK.out _ _ (lk_t7 BK276.out (lk_e2 BK243.out)) (fun hHeld => ?_)
    clear hK K
    refine norm_ (a' := ?_) ?_ ?_
    rotate_left
    · show Act.put _ (some 35) _ = _
      simp only [Act.put, List.setIfInBounds_toArray, List.set_cons_zero, List.set_cons_succ, i64_w, i32_w]
      rfl
    refine pure_ (i := 4) (N := some 31) (v := ?_) (a' := ?_) #[true, true, true, true, true, false, false, true, false, false] rfl rfl (by kernel_rfl) (fun _ _ _ h => h) (Or.inl ⟨by rfl, ?_⟩) ?_ ?_
    rotate_left
    · intro w'
      go_simp
      with_reducible rfl
    rotate_left
    · simp only [Act.put, List.setIfInBounds_toArray, List.set_cons_zero, List.set_cons_succ, i64_w, i32_w]
      rfl
    refine pure_ (i := 5) (N := some 36) (v := ?_) (a' := ?_) #[true, true, true, true, true, true, false, true, false, false] rfl rfl (by kernel_rfl) (fun _ _ _ h => h) (Or.inl ⟨by rfl, ?_⟩) ?_ ?_
    rotate_left
    · intro w'
      go_simp
      with_reducible rfl
    rotate_left
    · simp only [Act.put, List.setIfInBounds_toArray, List.set_cons_zero, List.set_cons_succ, i64_w, i32_w]
      rfl
    refine pure_ (i := 6) (N := some 37) (v := ?_) (a' := ?_) #[true, true, true, true, true, true, true, true, false, false] rfl rfl (by kernel_rfl) (fun _ _ _ h => h) (Or.inl ⟨by rfl, ?_⟩) ?_ ?_
    rotate_left
    · intro w'
      go_simp
      with_reducible rfl
    rotate_left
    · simp only [Act.put, List.setIfInBounds_toArray, List.set_cons_zero, List.set_cons_succ, i64_w, i32_w]
      rfl
    exact norm_ (by simp only [putAll, Act.put, List.setIfInBounds_toArray, List.set_cons_zero, List.set_cons_succ]) (hCont (okq10_, Aq10_, cq10_, gb289) _ ⟨HOq4_.out, HOq5_.out, HOq8_.out, BK242.out, BK243.out, BK266.out, BK276.out, HB.out, (by have z_ := HLA.out; omega), HOq10_.out, (fun k_ hk_ => by have i_ := HIq10_.out k_ hk_; have g0_ := HG289.out; have z_ := HLA.out; (try dsimp only); first | omega | (refine ⟨?_, ?_⟩ <;> omega) | (refine ⟨⟨?_, ?_⟩, ?_⟩ <;> omega) | (refine ⟨⟨?_, ?_⟩, ?_, ?_⟩ <;> omega)), BK289.out, (by have g_ := HG289.out; have z_ := HLA.out; (try dsimp only); first | omega | (refine ⟨?_, ?_⟩ <;> omega) | (refine ⟨⟨?_, ?_⟩, ?_⟩ <;> omega) | (refine ⟨⟨?_, ?_⟩, ?_, ?_⟩ <;> omega)), GE289.out⟩)
  rintro ⟨okq11_, Aq11_, cq11_, gm289⟩ wv17 ⟨f0_, f1_, f2_, f3_, f4_, f5_, f6_, f7_, f8_, f9_, f10_, f11_, f12_, f13_⟩
  replace HOq4_ := Aside0.mk (show Kd.R k28 28 wv17 w.heap.size okq4_ (.slice Aq4_ t250.length cq4_) t250 from f0_)
  replace HOq5_ := Aside0.mk (show Kd.R k28 28 wv17 w.heap.size okq5_ (.slice Aq5_ t261.length cq5_) t261 from f1_)
  replace HOq8_ := Aside0.mk (show Kd.R k28 28 wv17 w.heap.size okq8_ (.slice Aq8_ t272.length cq8_) t272 from f2_)
  replace BK242 := Aside0.mk (show wv17.heap[gb242]? = some (Obj.cells #[.int .i64 a0_0, .int .i64 a0_1, .int .i64 a0_2, .int .i64 a0_3, .int .i64 a0_4, .slice A0_5 l0_5.length c0_5, .int .i64 a0_6] 50 (0, 0)) from f3_)
  replace BK243 := Aside0.mk (show wv17.heap[gb243]? = some (Obj.cells #[.int .i64 a1_0, .int .i64 a1_1] 42 (0, 0)) from f4_)
  replace BK266 := Aside0.mk (show wv17.heap[gm266]? = some (Obj.cells #[.int .i64 t256, .int .i64 t257, .int .i64 t258, .int .i64 t259, .int .i64 t260, .slice Aq5_ t261.length cq5_, .int .i64 t264] 31 (0, 0)) from f5_)
  replace BK276 := Aside0.mk (show wv17.heap[gb276]? = some (Obj.cells #[.int .i64 t267, .int .i64 t268, .int .i64 t269, .int .i64 t270, .int .i64 t271, .slice Aq8_ t272.length cq8_, .int .i64 t275] 31 (0, 0)) from f6_)
  replace HB := Aside0.mk (show Below w.heap.size w wv17 from f7_)
  replace HLA := Aside0.mk (And.intro HLA.out (show wv13.heap.size ≤ wv17.heap.size from f8_))
  have HOq11_ := Aside0.mk (show Kd.R k28 28 wv17 w.heap.size okq11_ (.slice Aq11_ t284.length cq11_) t284 from f9_)
  have HIq11_ := Aside0.mk (show ∀ k_, okq11_ k_ → (wv13.heap.size ≤ k_ ∧ k_ < wv17.heap.size) ∧ k_ ≠ gm289 from f10_)
  have BK289 := Aside0.mk (show wv17.heap[gm289]? = some (Obj.cells #[.int .i64 0, .int .i64 0, .int .i64 0, .int .i64 0, .int .i64 0, .slice none 0 0, .int .i64 0] 31 (0, 0)) from f11_)
  have HG289 := Aside0.mk (show wv13.heap.size ≤ gm289 ∧ gm289 < wv17.heap.size from f12_)
  have GE289 := Aside0.mk (show w.heap.size ≤ gm289 from f13_)
  clear f0_ f1_ f2_ f3_ f4_ f5_ f6_ f7_ f8_ f9_ f10_ f11_ f12_ f13_
  have hHeld : wv17.cell? ⟨gb276, 0, none⟩ = some (.int .i64 t267) ∧ wv17.cell? ⟨gb276, 1, none⟩ = some (.int .i64 t268) ∧ wv17.cell? ⟨gb276, 2, none⟩ = some (.int .i64 t269) ∧ wv17.cell? ⟨gb276, 3, none⟩ = some (.int .i64 t270) ∧ wv17.cell? ⟨gb276, 4, none⟩ = some (.int .i64 t271) ∧ wv17.cell? ⟨gb276, 5, none⟩ = some (.slice Aq8_ t272.length cq8_) ∧ wv17.cell? ⟨gb276, 6, none⟩ = some (.int .i64 t275) ∧ wv17.cell? ⟨gb243, 0, none⟩ = some (.int .i64 a1_0) ∧ wv17.cell? ⟨gb243, 1, none⟩ = some (.int .i64 a1_1) := lk_t7 BK276.out (lk_e2 BK243.out)
  refine norm_ (a' := ?_) ?_ ?_
  rotate_left
  · simp only [putAll, Act.put, List.setIfInBounds_toArray, List.set_cons_zero, List.set_cons_succ]
    rfl
  refine one_ (i := 8) (N := none) #[true, true, true, true, true, true, true, true, true, false] rfl rfl (by kernel_rfl) (by decide) (fun K hK => ?_)
  have hcz12_0 : wv17.cell? ⟨gm289, 0, none⟩ = some (.int .i64 0) := (blk_cell BK289.out 0).trans rfl
  have hcz12_f0 := blk_frozen BK289.out 0
  have hcz12_1 : wv17.cell? ⟨gm289, 1, none⟩ = some (.int .i64 0) := (blk_cell BK289.out 1).trans rfl
  have hcz12_f1 := blk_frozen BK289.out 1
  have hcz12_2 : wv17.cell? ⟨gm289, 2, none⟩ = some (.int .i64 0) := (blk_cell BK289.out 2).trans rfl
  have hcz12_f2 := blk_frozen BK289.out 2
  have hcz12_3 : wv17.cell? ⟨gm289, 3, none⟩ = some (.int .i64 0) := (blk_cell BK289.out 3).trans rfl
  have hcz12_f3 := blk_frozen BK289.out 3
  have hcz12_4 : wv17.cell? ⟨gm289, 4, none⟩ = some (.int .i64 0) := (blk_cell BK289.out 4).trans rfl
  have hcz12_f4 := blk_frozen BK289.out 4
  have hcz12_5 : wv17.cell? ⟨gm289, 5, none⟩ = some (.slice none 0 0) := (blk_cell BK289.out 5).trans rfl
  have hcz12_f5 := blk_frozen BK289.out 5
  have hcz12_6 : wv17.cell? ⟨gm289, 6, none⟩ = some (.int .i64 0) := (blk_cell BK289.out 6).trans rfl
  have hcz12_f6 := blk_frozen BK289.out 6
  refine skip_ (w1 := ?_) (by rfl) rfl ?_ ?_
  rotate_left
  · go_simp
    rfl
  refine hK.out _ _ (lk_t7 (blk_kept BK276.out (show Kept wv17 (((((((wv17.setCell ⟨gm289, 0, none⟩ (.int .i64 t279)).setCell ⟨gm289, 1, none⟩ (.int .i64 t280)).setCell ⟨gm289, 2, none⟩ (.int .i64 t281)).setCell ⟨gm289, 3, none⟩ (.int .i64 t282)).setCell ⟨gm289, 4, none⟩ (.int .i64 t283)).setCell ⟨gm289, 5, none⟩ (.slice Aq11_ t284.length cq11_)).setCell ⟨gm289, 6, none⟩ (.int .i64 t287)) (fun k_ => k_ = gm289) from by repeat (first | (with_reducible first | exact Kept.refl _ _ | apply Kept.alloc | apply Kept.drewN | apply Kept.drew) | refine Kept.setCell ?_ (.inl (by first | exact rfl | exact .inl rfl | exact .inr rfl | exact .inr (.inl rfl) | exact .inr (.inr rfl))) _ | exact Kept.refl _ _)) (fun hs_ => by have hs2_ : gb276 = gm289 := hs_; have g_ := HG276.out; have g0_ := HG289.out; have z_ := HLA.out; omega)) (lk_e2 (blk_kept BK243.out (show Kept wv17 (((((((wv17.setCell ⟨gm289, 0, none⟩ (.int .i64 t279)).setCell ⟨gm289, 1, none⟩ (.int .i64 t280)).setCell ⟨gm289, 2, none⟩ (.int .i64 t281)).setCell ⟨gm289, 3, none⟩ (.int .i64 t282)).setCell ⟨gm289, 4, none⟩ (.int .i64 t283)).setCell ⟨gm289, 5, none⟩ (.slice Aq11_ t284.length cq11_)).setCell ⟨gm289, 6, none⟩ (.int .i64 t287)) (fun k_ => k_ = gm289) from by repeat (first | (with_reducible first | exact Kept.refl _ _ | apply Kept.alloc | apply Kept.drewN | apply Kept.drew) | refine Kept.setCell ?_ (.inl (by first | exact rfl | exact .inl rfl | exact .inr rfl | exact .inr (.inl rfl) | exact .inr (.inr rfl))) _ | exact Kept.refl _ _)) (fun hs_ => by have hs2_ : gb243 = gm289 := hs_; have g_ := HG243.out; have g0_ := HG289.out; have z_ := HLA.out; omega)))) (fun hHeld => ?_)
  clear hK K
  refine pure_ (i := 9) (N := some 10) (v := ?_) (a' := ?_) #[true, true, true, true, true, true, true, true, true, true] rfl rfl (by kernel_rfl) (fun _ _ _ h => h) (Or.inl ⟨by rfl, ?_⟩) ?_ ?_
  rotate_left
  · intro w'
    go_simp
    with_reducible rfl
  rotate_left
  · simp only [Act.put, List.setIfInBounds_toArray, List.set_cons_zero, List.set_cons_succ, i64_w, i32_w]
    rfl
  refine done_ (by kernel_rfl) ?_
  (try clear hHeld)
  replace HOq4_ := Aside0.mk (Kd.R_kept HOq4_.out (show Kept wv17 (((((((wv17.setCell ⟨gm289, 0, none⟩ (.int .i64 t279)).setCell ⟨gm289, 1, none⟩ (.int .i64 t280)).setCell ⟨gm289, 2, none⟩ (.int .i64 t281)).setCell ⟨gm289, 3, none⟩ (.int .i64 t282)).setCell ⟨gm289, 4, none⟩ (.int .i64 t283)).setCell ⟨gm289, 5, none⟩ (.slice Aq11_ t284.length cq11_)).setCell ⟨gm289, 6, none⟩ (.int .i64 t287)) (fun k_ => k_ = gm289) from by repeat (first | (with_reducible first | exact Kept.refl _ _ | apply Kept.alloc | apply Kept.drewN | apply Kept.drew) | refine Kept.setCell ?_ (.inl (by first | exact rfl | exact .inl rfl | exact .inr rfl | exact .inr (.inl rfl) | exact .inr (.inr rfl))) _ | exact Kept.refl _ _)) (fun k_ hk_ hs_ => by have i_ := HIq4_.out k_ hk_; have hs2_ : k_ = gm289 := hs_; have g0_ := HG289.out; have z_ := HLA.out; omega))
  replace HOq5_ := Aside0.mk (Kd.R_kept HOq5_.out (show Kept wv17 (((((((wv17.setCell ⟨gm289, 0, none⟩ (.int .i64 t279)).setCell ⟨gm289, 1, none⟩ (.int .i64 t280)).setCell ⟨gm289, 2, none⟩ (.int .i64 t281)).setCell ⟨gm289, 3, none⟩ (.int .i64 t282)).setCell ⟨gm289, 4, none⟩ (.int .i64 t283)).setCell ⟨gm289, 5, none⟩ (.slice Aq11_ t284.length cq11_)).setCell ⟨gm289, 6, none⟩ (.int .i64 t287)) (fun k_ => k_ = gm289) from by repeat (first | (with_reducible first | exact Kept.refl _ _ | apply Kept.alloc | apply Kept.drewN | apply Kept.drew) | refine Kept.setCell ?_ (.inl (by first | exact rfl | exact .inl rfl | exact .inr rfl | exact .inr (.inl rfl) | exact .inr (.inr rfl))) _ | exact Kept.refl _ _)) (fun k_ hk_ hs_ => by have i_ := HIq5_.out k_ hk_; have hs2_ : k_ = gm289 := hs_; have g0_ := HG289.out; have z_ := HLA.out; omega))
  replace HOq8_ := Aside0.mk (Kd.R_kept HOq8_.out (show Kept wv17 (((((((wv17.setCell ⟨gm289, 0, none⟩ (.int .i64 t279)).setCell ⟨gm289, 1, none⟩ (.int .i64 t280)).setCell ⟨gm289, 2, none⟩ (.int .i64 t281)).setCell ⟨gm289, 3, none⟩ (.int .i64 t282)).setCell ⟨gm289, 4, none⟩ (.int .i64 t283)).setCell ⟨gm289, 5, none⟩ (.slice Aq11_ t284.length cq11_)).setCell ⟨gm289, 6, none⟩ (.int .i64 t287)) (fun k_ => k_ = gm289) from by repeat (first | (with_reducible first | exact Kept.refl _ _ | apply Kept.alloc | apply Kept.drewN | apply Kept.drew) | refine Kept.setCell ?_ (.inl (by first | exact rfl | exact .inl rfl | exact .inr rfl | exact .inr (.inl rfl) | exact .inr (.inr rfl))) _ | exact Kept.refl _ _)) (fun k_ hk_ hs_ => by have i_ := HIq8_.out k_ hk_; have hs2_ : k_ = gm289 := hs_; have g0_ := HG289.out; have z_ := HLA.out; omega))
  replace HOq11_ := Aside0.mk (Kd.R_kept HOq11_.out (show Kept wv17 (((((((wv17.setCell ⟨gm289, 0, none⟩ (.int .i64 t279)).setCell ⟨gm289, 1, none⟩ (.int .i64 t280)).setCell ⟨gm289, 2, none⟩ (.int .i64 t281)).setCell ⟨gm289, 3, none⟩ (.int .i64 t282)).setCell ⟨gm289, 4, none⟩ (.int .i64 t283)).setCell ⟨gm289, 5, none⟩ (.slice Aq11_ t284.length cq11_)).setCell ⟨gm289, 6, none⟩ (.int .i64 t287)) (fun k_ => k_ = gm289) from by repeat (first | (with_reducible first | exact Kept.refl _ _ | apply Kept.alloc | apply Kept.drewN | apply Kept.drew) | refine Kept.setCell ?_ (.inl (by first | exact rfl | exact .inl rfl | exact .inr rfl | exact .inr (.inl rfl) | exact .inr (.inr rfl))) _ | exact Kept.refl _ _)) (fun k_ hk_ hs_ => by have i_ := HIq11_.out k_ hk_; have hs2_ : k_ = gm289 := hs_; have g0_ := HG289.out; have z_ := HLA.out; omega))
  replace BK242 := Aside0.mk ((blk_kept BK242.out (show Kept wv17 (((((((wv17.setCell ⟨gm289, 0, none⟩ (.int .i64 t279)).setCell ⟨gm289, 1, none⟩ (.int .i64 t280)).setCell ⟨gm289, 2, none⟩ (.int .i64 t281)).setCell ⟨gm289, 3, none⟩ (.int .i64 t282)).setCell ⟨gm289, 4, none⟩ (.int .i64 t283)).setCell ⟨gm289, 5, none⟩ (.slice Aq11_ t284.length cq11_)).setCell ⟨gm289, 6, none⟩ (.int .i64 t287)) (fun k_ => k_ = gm289) from by repeat (first | (with_reducible first | exact Kept.refl _ _ | apply Kept.alloc | apply Kept.drewN | apply Kept.drew) | refine Kept.setCell ?_ (.inl (by first | exact rfl | exact .inl rfl | exact .inr rfl | exact .inr (.inl rfl) | exact .inr (.inr rfl))) _ | exact Kept.refl _ _)) (fun hs_ => by have hs2_ : gb242 = gm289 := hs_; have g_ := HG242.out; have g0_ := HG289.out; have z_ := HLA.out; omega)))
  replace BK243 := Aside0.mk ((blk_kept BK243.out (show Kept wv17 (((((((wv17.setCell ⟨gm289, 0, none⟩ (.int .i64 t279)).setCell ⟨gm289, 1, none⟩ (.int .i64 t280)).setCell ⟨gm289, 2, none⟩ (.int .i64 t281)).setCell ⟨gm289, 3, none⟩ (.int .i64 t282)).setCell ⟨gm289, 4, none⟩ (.int .i64 t283)).setCell ⟨gm289, 5, none⟩ (.slice Aq11_ t284.length cq11_)).setCell ⟨gm289, 6, none⟩ (.int .i64 t287)) (fun k_ => k_ = gm289) from by repeat (first | (with_reducible first | exact Kept.refl _ _ | apply Kept.alloc | apply Kept.drewN | apply Kept.drew) | refine Kept.setCell ?_ (.inl (by first | exact rfl | exact .inl rfl | exact .inr rfl | exact .inr (.inl rfl) | exact .inr (.inr rfl))) _ | exact Kept.refl _ _)) (fun hs_ => by have hs2_ : gb243 = gm289 := hs_; have g_ := HG243.out; have g0_ := HG289.out; have z_ := HLA.out; omega)))
  replace BK266 := Aside0.mk ((blk_kept BK266.out (show Kept wv17 (((((((wv17.setCell ⟨gm289, 0, none⟩ (.int .i64 t279)).setCell ⟨gm289, 1, none⟩ (.int .i64 t280)).setCell ⟨gm289, 2, none⟩ (.int .i64 t281)).setCell ⟨gm289, 3, none⟩ (.int .i64 t282)).setCell ⟨gm289, 4, none⟩ (.int .i64 t283)).setCell ⟨gm289, 5, none⟩ (.slice Aq11_ t284.length cq11_)).setCell ⟨gm289, 6, none⟩ (.int .i64 t287)) (fun k_ => k_ = gm289) from by repeat (first | (with_reducible first | exact Kept.refl _ _ | apply Kept.alloc | apply Kept.drewN | apply Kept.drew) | refine Kept.setCell ?_ (.inl (by first | exact rfl | exact .inl rfl | exact .inr rfl | exact .inr (.inl rfl) | exact .inr (.inr rfl))) _ | exact Kept.refl _ _)) (fun hs_ => by have hs2_ : gm266 = gm289 := hs_; have g_ := HG266.out; have g0_ := HG289.out; have z_ := HLA.out; omega)))
  replace BK276 := Aside0.mk ((blk_kept BK276.out (show Kept wv17 (((((((wv17.setCell ⟨gm289, 0, none⟩ (.int .i64 t279)).setCell ⟨gm289, 1, none⟩ (.int .i64 t280)).setCell ⟨gm289, 2, none⟩ (.int .i64 t281)).setCell ⟨gm289, 3, none⟩ (.int .i64 t282)).setCell ⟨gm289, 4, none⟩ (.int .i64 t283)).setCell ⟨gm289, 5, none⟩ (.slice Aq11_ t284.length cq11_)).setCell ⟨gm289, 6, none⟩ (.int .i64 t287)) (fun k_ => k_ = gm289) from by repeat (first | (with_reducible first | exact Kept.refl _ _ | apply Kept.alloc | apply Kept.drewN | apply Kept.drew) | refine Kept.setCell ?_ (.inl (by first | exact rfl | exact .inl rfl | exact .inr rfl | exact .inr (.inl rfl) | exact .inr (.inr rfl))) _ | exact Kept.refl _ _)) (fun hs_ => by have hs2_ : gb276 = gm289 := hs_; have g_ := HG276.out; have g0_ := HG289.out; have z_ := HLA.out; omega)))
  replace BK289 := Aside0.mk ((show (((((((wv17.setCell ⟨gm289, 0, none⟩ (.int .i64 t279)).setCell ⟨gm289, 1, none⟩ (.int .i64 t280)).setCell ⟨gm289, 2, none⟩ (.int .i64 t281)).setCell ⟨gm289, 3, none⟩ (.int .i64 t282)).setCell ⟨gm289, 4, none⟩ (.int .i64 t283)).setCell ⟨gm289, 5, none⟩ (.slice Aq11_ t284.length cq11_)).setCell ⟨gm289, 6, none⟩ (.int .i64 t287)).heap[gm289]? = some (Obj.cells #[.int .i64 t279, .int .i64 t280, .int .i64 t281, .int .i64 t282, .int .i64 t283, .slice Aq11_ t284.length cq11_, .int .i64 t287] 31 (0, 0)) from by (with_reducible repeat (first | refine blk_drewN ?_ _ | refine blk_drew ?_ | refine blk_alloc ?_ _)); refine blk_put (cs := #[.int .i64 t279, .int .i64 t280, .int .i64 t281, .int .i64 t282, .int .i64 t283, .slice Aq11_ t284.length cq11_, .int .i64 0]) ?_ 6 _ rfl; (with_reducible repeat (first | refine blk_drewN ?_ _ | refine blk_drew ?_ | refine blk_alloc ?_ _)); refine blk_put (cs := #[.int .i64 t279, .int .i64 t280, .int .i64 t281, .int .i64 t282, .int .i64 t283, .slice none 0 0, .int .i64 0]) ?_ 5 _ rfl; (with_reducible repeat (first | refine blk_drewN ?_ _ | refine blk_drew ?_ | refine blk_alloc ?_ _)); refine blk_put (cs := #[.int .i64 t279, .int .i64 t280, .int .i64 t281, .int .i64 t282, .int .i64 0, .slice none 0 0, .int .i64 0]) ?_ 4 _ rfl; (with_reducible repeat (first | refine blk_drewN ?_ _ | refine blk_drew ?_ | refine blk_alloc ?_ _)); refine blk_put (cs := #[.int .i64 t279, .int .i64 t280, .int .i64 t281, .int .i64 0, .int .i64 0, .slice none 0 0, .int .i64 0]) ?_ 3 _ rfl; (with_reducible repeat (first | refine blk_drewN ?_ _ | refine blk_drew ?_ | refine blk_alloc ?_ _)); refine blk_put (cs := #[.int .i64 t279, .int .i64 t280, .int .i64 0, .int .i64 0, .int .i64 0, .slice none 0 0, .int .i64 0]) ?_ 2 _ rfl; (with_reducible repeat (first | refine blk_drewN ?_ _ | refine blk_drew ?_ | refine blk_alloc ?_ _)); refine blk_put (cs := #[.int .i64 t279, .int .i64 0, .int .i64 0, .int .i64 0, .int .i64 0, .slice none 0 0, .int .i64 0]) ?_ 1 _ rfl; (with_reducible repeat (first | refine blk_drewN ?_ _ | refine blk_drew ?_ | refine blk_alloc ?_ _)); refine blk_put (cs := #[.int .i64 0, .int .i64 0, .int .i64 0, .int .i64 0, .int .i64 0, .slice none 0 0, .int .i64 0]) ?_ 0 _ rfl; (with_reducible repeat (first | refine blk_drewN ?_ _ | refine blk_drew ?_ | refine blk_alloc ?_ _)); exact BK289.out))
  replace HB := Aside0.mk ((show Below w.heap.size w ((((((((wv17.setCell ⟨gm289, 0, none⟩ (.int .i64 t279)).setCell ⟨gm289, 1, none⟩ (.int .i64 t280)).setCell ⟨gm289, 2, none⟩ (.int .i64 t281)).setCell ⟨gm289, 3, none⟩ (.int .i64 t282)).setCell ⟨gm289, 4, none⟩ (.int .i64 t283)).setCell ⟨gm289, 5, none⟩ (.slice Aq11_ t284.length cq11_)).setCell ⟨gm289, 6, none⟩ (.int .i64 t287))) from by repeat (first | (with_reducible first | exact HB.out | apply below_alloc | apply pw_below_drewN | apply below_drew1 | refine below_set ?_ GE289.out) | exact HB.out)))
  replace HLA := Aside0.mk (And.intro HLA.out ((show Kept wv17 (((((((wv17.setCell ⟨gm289, 0, none⟩ (.int .i64 t279)).setCell ⟨gm289, 1, none⟩ (.int .i64 t280)).setCell ⟨gm289, 2, none⟩ (.int .i64 t281)).setCell ⟨gm289, 3, none⟩ (.int .i64 t282)).setCell ⟨gm289, 4, none⟩ (.int .i64 t283)).setCell ⟨gm289, 5, none⟩ (.slice Aq11_ t284.length cq11_)).setCell ⟨gm289, 6, none⟩ (.int .i64 t287)) (fun k_ => k_ = gm289) from by repeat (first | (with_reducible first | exact Kept.refl _ _ | apply Kept.alloc | apply Kept.drewN | apply Kept.drew) | refine Kept.setCell ?_ (.inl (by first | exact rfl | exact .inl rfl | exact .inr rfl | exact .inr (.inl rfl) | exact .inr (.inr rfl))) _ | exact Kept.refl _ _)).1 : wv17.heap.size ≤ ((((((((wv17.setCell ⟨gm289, 0, none⟩ (.int .i64 t279)).setCell ⟨gm289, 1, none⟩ (.int .i64 t280)).setCell ⟨gm289, 2, none⟩ (.int .i64 t281)).setCell ⟨gm289, 3, none⟩ (.int .i64 t282)).setCell ⟨gm289, 4, none⟩ (.int .i64 t283)).setCell ⟨gm289, 5, none⟩ (.slice Aq11_ t284.length cq11_)).setCell ⟨gm289, 6, none⟩ (.int .i64 t287))).heap.size))
  generalize (((((((wv17.setCell ⟨gm289, 0, none⟩ (.int .i64 t279)).setCell ⟨gm289, 1, none⟩ (.int .i64 t280)).setCell ⟨gm289, 2, none⟩ (.int .i64 t281)).setCell ⟨gm289, 3, none⟩ (.int .i64 t282)).setCell ⟨gm289, 4, none⟩ (.int .i64 t283)).setCell ⟨gm289, 5, none⟩ (.slice Aq11_ t284.length cq11_)).setCell ⟨gm289, 6, none⟩ (.int .i64 t287)) = wv18 at HOq4_ HOq5_ HOq8_ HOq11_ BK242 BK243 BK266 BK276 BK289 HB HLA ⊢
  obtain ⟨hcz13_0, hcz13_1, hcz13_2, hcz13_3, hcz13_4, hcz13_5, hcz13_6, hcz13_f0, hcz13_f1, hcz13_f2, hcz13_f3, hcz13_f4, hcz13_f5, hcz13_f6⟩ := lk_c7 BK289.out
  obtain ⟨hcz14_0, hcz14_1, hcz14_2, hcz14_3, hcz14_4, hcz14_5, hcz14_6, hcz14_f0, hcz14_f1, hcz14_f2, hcz14_f3, hcz14_f4, hcz14_f5, hcz14_f6⟩ := lk_c7 BK266.out
  have hnb15_ : gm289 ≠ gm266 := (by have g1_ := HG289.out; have g2_ := HG266.out; have z_ := HLA.out; omega)
  have hnb16_ : gm266 ≠ gm289 := (by have g1_ := HG266.out; have g2_ := HG289.out; have z_ := HLA.out; omega)
  go_wp2_with (first | ((with_reducible refine gate_callee (f := 30) rfl ?_); refine goesL_ (some 40) rfl rfl Try.func30 (by kernel_rfl) rfl #[.agg #[.int .i64 t279, .int .i64 t280, .int .i64 t281, .int .i64 t282, .int .i64 t283, .slice Aq11_ t284.length cq11_, .int .i64 t287], .agg #[.int .i64 t256, .int .i64 t257, .int .i64 t258, .int .i64 t259, .int .i64 t260, .slice Aq5_ t261.length cq5_, .int .i64 t264]] rfl (by (try simp only [List.map_toArray, List.map_cons, List.map_nil]); first | done | rfl | (simp only [List.length_drop, List.length_take]; rfl)) ?_; (with_reducible refine (laws_eqKeeperHost.calls k t279 t280 t281 t282 t283 _ _ t284 t287 t256 t257 t258 t259 t260 _ _ t261 t264 true _ ?side1 ?side2 ?side3 ?side4 A11.out).mono ?_); (case side1 => exact (Kd.R_reads' HOq11_.out).2.2); (case side2 => have h1_ := (Kd.R_reads' HOq11_.out).1; have h2_ := (Kd.R_reads' HOq11_.out).2.1; omega); (case side3 => exact (Kd.R_reads' HOq5_.out).2.2); (case side4 => have h1_ := (Kd.R_reads' HOq5_.out).1; have h2_ := (Kd.R_reads' HOq5_.out).2.1; omega); rintro e wv19 ⟨rfl, hb⟩; refine ⟨_, rfl, ?_⟩; have hkW := (Kept.refl wv18 (fun _ => False)); have hk2 := Kept.below hkW hb; replace HOq4_ := Aside0.mk (Kd.R_below HOq4_.out hb); replace HOq5_ := Aside0.mk (Kd.R_below HOq5_.out hb); replace HOq8_ := Aside0.mk (Kd.R_below HOq8_.out hb); replace HOq11_ := Aside0.mk (Kd.R_below HOq11_.out hb); replace BK242 := Aside0.mk (blk_below BK242.out hb); replace BK243 := Aside0.mk (blk_below BK243.out hb); replace BK266 := Aside0.mk (blk_below BK266.out hb); replace BK276 := Aside0.mk (blk_below BK276.out hb); replace BK289 := Aside0.mk (blk_below BK289.out hb); replace HB := Aside0.mk (below_step (by repeat (first | (with_reducible first | exact HB.out | apply below_alloc | apply pw_below_drewN | apply below_drew1) | exact HB.out)) hb); replace HLA := Aside0.mk (And.intro HLA.out (hk2.1 : wv18.heap.size ≤ wv19.heap.size)); (try clear hb); (try clear hkW); (try clear hk2); (try clear hkp)))
  replace HOq4_ := Aside0.mk (Kd.R_kept HOq4_.out (show Kept wv19 wv19.drew (fun k_ => False) from by repeat (first | (with_reducible first | exact Kept.refl _ _ | apply Kept.alloc | apply Kept.drewN | apply Kept.drew) | exact Kept.refl _ _)) (fun _ _ hs_ => hs_.elim))
  replace HOq5_ := Aside0.mk (Kd.R_kept HOq5_.out (show Kept wv19 wv19.drew (fun k_ => False) from by repeat (first | (with_reducible first | exact Kept.refl _ _ | apply Kept.alloc | apply Kept.drewN | apply Kept.drew) | exact Kept.refl _ _)) (fun _ _ hs_ => hs_.elim))
  replace HOq8_ := Aside0.mk (Kd.R_kept HOq8_.out (show Kept wv19 wv19.drew (fun k_ => False) from by repeat (first | (with_reducible first | exact Kept.refl _ _ | apply Kept.alloc | apply Kept.drewN | apply Kept.drew) | exact Kept.refl _ _)) (fun _ _ hs_ => hs_.elim))
  replace HOq11_ := Aside0.mk (Kd.R_kept HOq11_.out (show Kept wv19 wv19.drew (fun k_ => False) from by repeat (first | (with_reducible first | exact Kept.refl _ _ | apply Kept.alloc | apply Kept.drewN | apply Kept.drew) | exact Kept.refl _ _)) (fun _ _ hs_ => hs_.elim))
  replace BK242 := Aside0.mk ((blk_kept BK242.out (show Kept wv19 wv19.drew (fun k_ => False) from by repeat (first | (with_reducible first | exact Kept.refl _ _ | apply Kept.alloc | apply Kept.drewN | apply Kept.drew) | exact Kept.refl _ _)) (fun hs_ => hs_.elim)))
  replace BK243 := Aside0.mk ((blk_kept BK243.out (show Kept wv19 wv19.drew (fun k_ => False) from by repeat (first | (with_reducible first | exact Kept.refl _ _ | apply Kept.alloc | apply Kept.drewN | apply Kept.drew) | exact Kept.refl _ _)) (fun hs_ => hs_.elim)))
  replace BK266 := Aside0.mk ((blk_kept BK266.out (show Kept wv19 wv19.drew (fun k_ => False) from by repeat (first | (with_reducible first | exact Kept.refl _ _ | apply Kept.alloc | apply Kept.drewN | apply Kept.drew) | exact Kept.refl _ _)) (fun hs_ => hs_.elim)))
  replace BK276 := Aside0.mk ((blk_kept BK276.out (show Kept wv19 wv19.drew (fun k_ => False) from by repeat (first | (with_reducible first | exact Kept.refl _ _ | apply Kept.alloc | apply Kept.drewN | apply Kept.drew) | exact Kept.refl _ _)) (fun hs_ => hs_.elim)))
  replace BK289 := Aside0.mk ((blk_kept BK289.out (show Kept wv19 wv19.drew (fun k_ => False) from by repeat (first | (with_reducible first | exact Kept.refl _ _ | apply Kept.alloc | apply Kept.drewN | apply Kept.drew) | exact Kept.refl _ _)) (fun hs_ => hs_.elim)))
  replace HB := Aside0.mk ((show Below w.heap.size w (wv19.drew) from by repeat (first | (with_reducible first | exact HB.out | apply below_alloc | apply pw_below_drewN | apply below_drew1) | exact HB.out)))
  replace HLA := Aside0.mk (And.intro HLA.out ((show Kept wv19 wv19.drew (fun k_ => False) from by repeat (first | (with_reducible first | exact Kept.refl _ _ | apply Kept.alloc | apply Kept.drewN | apply Kept.drew) | exact Kept.refl _ _)).1 : wv19.heap.size ≤ (wv19.drew).heap.size))
  refine start_ (n := 5) (S := fun w' => w'.cell? ⟨gb276, 0, none⟩ = some (.int .i64 t267) ∧ w'.cell? ⟨gb276, 1, none⟩ = some (.int .i64 t268) ∧ w'.cell? ⟨gb276, 2, none⟩ = some (.int .i64 t269) ∧ w'.cell? ⟨gb276, 3, none⟩ = some (.int .i64 t270) ∧ w'.cell? ⟨gb276, 4, none⟩ = some (.int .i64 t271) ∧ w'.cell? ⟨gb276, 5, none⟩ = some (.slice Aq8_ t272.length cq8_) ∧ w'.cell? ⟨gb276, 6, none⟩ = some (.int .i64 t275) ∧ w'.cell? ⟨gb242, 0, none⟩ = some (.int .i64 a0_0) ∧ w'.cell? ⟨gb242, 1, none⟩ = some (.int .i64 a0_1) ∧ w'.cell? ⟨gb242, 2, none⟩ = some (.int .i64 a0_2) ∧ w'.cell? ⟨gb242, 3, none⟩ = some (.int .i64 a0_3) ∧ w'.cell? ⟨gb242, 4, none⟩ = some (.int .i64 a0_4) ∧ w'.cell? ⟨gb242, 5, none⟩ = some (.slice A0_5 l0_5.length c0_5) ∧ w'.cell? ⟨gb242, 6, none⟩ = some (.int .i64 a0_6)) (ds := []) #[false, false, false, false, false] (by kernel_rfl) rfl rfl (lk_t7 BK276.out (lk_e7 BK242.out)) (fun hHeld => ?_)
  generalize wv19.drew = wv20 at HOq4_ HOq5_ HOq8_ HOq11_ BK242 BK243 BK266 BK276 BK289 HB HLA hHeld ⊢
  refine take_ (i := 0) (N := some 47) (v := ?_) (a' := ?_) #[true, false, false, false, false] rfl rfl (by kernel_rfl) (fun _ _ _ h => h) (Or.inl ⟨by rfl, ?_⟩) hHeld ?_ ?_
  rotate_left
  · rintro w' ⟨s0, s1, s2, s3, s4, s5, s6, s7, s8, s9, s10, s11, s12, s13⟩
    go_simp
    with_reducible rfl
  rotate_left
  · simp only [Act.put, List.setIfInBounds_toArray, List.set_cons_zero, List.set_cons_succ, i64_w, i32_w]
    rfl
  refine take_ (i := 1) (N := some 48) (v := ?_) (a' := ?_) #[true, true, false, false, false] rfl rfl (by kernel_rfl) (fun _ _ _ h => h) (Or.inl ⟨by rfl, ?_⟩) hHeld ?_ ?_
  rotate_left
  · rintro w' ⟨s0, s1, s2, s3, s4, s5, s6, s7, s8, s9, s10, s11, s12, s13⟩
    go_simp
    with_reducible rfl
  rotate_left
  · simp only [Act.put, List.setIfInBounds_toArray, List.set_cons_zero, List.set_cons_succ, i64_w, i32_w]
    rfl
  refine one_ (i := 2) (N := some 49) #[true, true, true, false, false] rfl rfl (by kernel_rfl) (by decide) (fun K hK => ?_)
  refine goes_ Try.func29 (by kernel_rfl) rfl #[.agg #[.int .i64 a0_0, .int .i64 a0_1, .int .i64 a0_2, .int .i64 a0_3, .int .i64 a0_4, .slice A0_5 l0_5.length c0_5, .int .i64 a0_6]] (by rfl) rfl rfl (by (try simp only [List.map_toArray, List.map_cons, List.map_nil]); first | done | rfl | (simp only [List.length_drop, List.length_take]; rfl)) ?_
  (with_reducible refine (laws_toKeeperHost.calls k a0_0 a0_1 a0_2 a0_3 a0_4 _ _ l0_5 a0_6 t291 t292 t293 t294 t295 t296 t299 _ ?side1 ?side2 A14.out).mono ?_)
  (case side1 => exact Kd.C_below HR0_5.out (by repeat (first | (with_reducible first | exact HB.out | apply below_alloc | apply pw_below_drewN | apply below_drew1) | exact HB.out)))
  (case side2 => exact HC0_5.out)
  rintro e wv21 ⟨vq17_, rfl, ho0, hb⟩
  refine ⟨_, rfl, ?_⟩
  have hkW := (Kept.refl wv20 (fun _ => False))
  have hk2 := Kept.below hkW hb
  obtain ⟨Aq17_, cq17_, rfl⟩ := Kd.R_slice ho0
  obtain ⟨okq17_, hoo0, hi0⟩ := lk_R ho0 (a := wv20.heap.size) (b := w.heap.size) hkW.1 (Nat.le_trans HB.out.size hkW.1)
  have HOq17_ := Aside0.mk (hoo0)
  have HIq17_ := Aside0.mk (hi0)
  replace HOq4_ := Aside0.mk (Kd.R_below HOq4_.out hb)
  replace HOq5_ := Aside0.mk (Kd.R_below HOq5_.out hb)
  replace HOq8_ := Aside0.mk (Kd.R_below HOq8_.out hb)
  replace HOq11_ := Aside0.mk (Kd.R_below HOq11_.out hb)
  replace BK242 := Aside0.mk (blk_below BK242.out hb)
  replace BK243 := Aside0.mk (blk_below BK243.out hb)
  replace BK266 := Aside0.mk (blk_below BK266.out hb)
  replace BK276 := Aside0.mk (blk_below BK276.out hb)
  replace BK289 := Aside0.mk (blk_below BK289.out hb)
  replace HB := Aside0.mk (below_step (by repeat (first | (with_reducible first | exact HB.out | apply below_alloc | apply pw_below_drewN | apply below_drew1) | exact HB.out)) hb)
  replace HLA := Aside0.mk (And.intro HLA.out (hk2.1 : wv20.heap.size ≤ wv21.heap.size))
  (try clear hb)
  (try clear hkW)
  (try clear hk2)
  (try clear hkp)
  (try clear hoo0)
  (try clear hi0)
  (try clear ho0)
  refine hK.out _ _ (lk_t7 BK276.out (lk_e7 BK242.out)) (fun hHeld => ?_)
  clear hK K
  refine norm_ (a' := ?_) ?_ ?_
  rotate_left
  · show Act.put _ (some 49) _ = _
    simp only [Act.put, List.setIfInBounds_toArray, List.set_cons_zero, List.set_cons_succ, i64_w, i32_w]
    rfl
  refine one_ (i := 3) (N := some 50) #[true, true, true, true, false] rfl rfl (by kernel_rfl) (by decide) (fun K hK => ?_)
  refine goes_ Try.func30 (by kernel_rfl) rfl #[.agg #[.int .i64 t267, .int .i64 t268, .int .i64 t269, .int .i64 t270, .int .i64 t271, .slice Aq8_ t272.length cq8_, .int .i64 t275], .agg #[.int .i64 t291, .int .i64 t292, .int .i64 t293, .int .i64 t294, .int .i64 t295, .slice Aq17_ t296.length cq17_, .int .i64 t299]] (by rfl) rfl rfl (by (try simp only [List.map_toArray, List.map_cons, List.map_nil]); first | done | rfl | (simp only [List.length_drop, List.length_take]; rfl)) ?_
  (with_reducible refine (laws_eqKeeperHost.calls k t267 t268 t269 t270 t271 _ _ t272 t275 t291 t292 t293 t294 t295 _ _ t296 t299 true _ ?side1 ?side2 ?side3 ?side4 A15.out).mono ?_)
  (case side1 => exact (Kd.R_reads' HOq8_.out).2.2)
  (case side2 => have h1_ := (Kd.R_reads' HOq8_.out).1; have h2_ := (Kd.R_reads' HOq8_.out).2.1; omega)
  (case side3 => exact (Kd.R_reads' HOq17_.out).2.2)
  (case side4 => have h1_ := (Kd.R_reads' HOq17_.out).1; have h2_ := (Kd.R_reads' HOq17_.out).2.1; omega)
  rintro e wv22 ⟨rfl, hb⟩
  refine ⟨_, rfl, ?_⟩
  have hkW := (Kept.refl wv21 (fun _ => False))
  have hk2 := Kept.below hkW hb
  replace HOq4_ := Aside0.mk (Kd.R_below HOq4_.out hb)
  replace HOq5_ := Aside0.mk (Kd.R_below HOq5_.out hb)
  replace HOq8_ := Aside0.mk (Kd.R_below HOq8_.out hb)
  replace HOq11_ := Aside0.mk (Kd.R_below HOq11_.out hb)
  replace HOq17_ := Aside0.mk (Kd.R_below HOq17_.out hb)
  replace BK242 := Aside0.mk (blk_below BK242.out hb)
  replace BK243 := Aside0.mk (blk_below BK243.out hb)
  replace BK266 := Aside0.mk (blk_below BK266.out hb)
  replace BK276 := Aside0.mk (blk_below BK276.out hb)
  replace BK289 := Aside0.mk (blk_below BK289.out hb)
  replace HB := Aside0.mk (below_step (by repeat (first | (with_reducible first | exact HB.out | apply below_alloc | apply pw_below_drewN | apply below_drew1) | exact HB.out)) hb)
  replace HLA := Aside0.mk (And.intro HLA.out (hk2.1 : wv21.heap.size ≤ wv22.heap.size))
  (try clear hb)
  (try clear hkW)
  (try clear hk2)
  (try clear hkp)
  refine hK.out _ _ (lk_t7 BK276.out (lk_e7 BK242.out)) (fun hHeld => ?_)
  clear hK K
  refine norm_ (a' := ?_) ?_ ?_
  rotate_left
  · show Act.put _ (some 50) _ = _
    simp only [Act.put, List.setIfInBounds_toArray, List.set_cons_zero, List.set_cons_succ, i64_w, i32_w]
    rfl
  refine pure_ (i := 4) (N := some 51) (v := ?_) (a' := ?_) #[true, true, true, true, true] rfl rfl (by kernel_rfl) (fun _ _ _ h => h) (Or.inl ⟨by rfl, ?_⟩) ?_ ?_
  rotate_left
  · intro w'
    go_simp
    with_reducible rfl
  rotate_left
  · simp only [Act.put, List.setIfInBounds_toArray, List.set_cons_zero, List.set_cons_succ, i64_w, i32_w]
    rfl
  refine done_ (by kernel_rfl) ?_
  (try clear hHeld)
  obtain ⟨hcz18_0, hcz18_1, hcz18_2, hcz18_3, hcz18_4, hcz18_5, hcz18_6, hcz18_f0, hcz18_f1, hcz18_f2, hcz18_f3, hcz18_f4, hcz18_f5, hcz18_f6⟩ := lk_c7 BK276.out
  go_wp2_with (first | ((with_reducible refine gate_callee (f := 31) rfl ?_); refine goesL_ (some 54) rfl rfl Try.func31 (by kernel_rfl) rfl #[.agg #[.int .i64 t267, .int .i64 t268, .int .i64 t269, .int .i64 t270, .int .i64 t271, .slice Aq8_ t272.length cq8_, .int .i64 t275], .int .i64 1] rfl (by (try simp only [List.map_toArray, List.map_cons, List.map_nil]); first | done | rfl | (simp only [List.length_drop, List.length_take]; rfl)) ?_; (with_reducible refine (laws_markKeeperHost.calls k t267 t268 t269 t270 t271 (fun k_ => some k_ = (.slice Aq8_ t272.length cq8_ : Value).ownBlock ∧ okq8_ k_) (.slice Aq8_ t272.length cq8_) t272 t275 1 t301 t302 w _ ?side1 ?side2 A17.out).mono ?_); (case side1 => repeat (first | (with_reducible first | exact HB.out | apply below_alloc | apply pw_below_drewN | apply below_drew1) | exact HB.out)); (case side2 => exact Kd.R_tight2 rfl HOq8_.out); rintro e wv23 ⟨rfl, hy0, hb, hkp⟩; refine ⟨_, rfl, ?_⟩; have hkW := (Kept.refl wv22 (fun _ => False)); replace HOq4_ := Aside0.mk (Kd.R_kept (Kd.R_kept HOq4_.out hkW (fun _ _ hs_ => hs_.elim)) hkp (fun k_ hk_ hs_ => (have i_ := HIq4_.out k_ hk_; (have j_ := HIq8_.out _ (hs_).2; by have z_ := HLA.out; omega)))); replace HOq5_ := Aside0.mk (Kd.R_kept (Kd.R_kept HOq5_.out hkW (fun _ _ hs_ => hs_.elim)) hkp (fun k_ hk_ hs_ => (have i_ := HIq5_.out k_ hk_; (have j_ := HIq8_.out _ (hs_).2; by have z_ := HLA.out; omega)))); replace HOq8_ := Aside0.mk (Kd.R_reok rfl hy0 (fun k_ e_ => HOq8_.out.1 k_ e_)); replace HOq11_ := Aside0.mk (Kd.R_kept (Kd.R_kept HOq11_.out hkW (fun _ _ hs_ => hs_.elim)) hkp (fun k_ hk_ hs_ => (have i_ := HIq11_.out k_ hk_; (have j_ := HIq8_.out _ (hs_).2; by have z_ := HLA.out; omega)))); replace HOq17_ := Aside0.mk (Kd.R_kept (Kd.R_kept HOq17_.out hkW (fun _ _ hs_ => hs_.elim)) hkp (fun k_ hk_ hs_ => (have i_ := HIq17_.out k_ hk_; (have j_ := HIq8_.out _ (hs_).2; by have z_ := HLA.out; omega)))); replace BK242 := Aside0.mk (blk_kept BK242.out hkp (fun hs_ => (have i_ := HG242.out; (have j_ := HIq8_.out _ (hs_).2; by have z_ := HLA.out; omega)))); replace BK243 := Aside0.mk (blk_kept BK243.out hkp (fun hs_ => (have i_ := HG243.out; (have j_ := HIq8_.out _ (hs_).2; by have z_ := HLA.out; omega)))); replace BK266 := Aside0.mk (blk_kept BK266.out hkp (fun hs_ => (have i_ := HG266.out; (have j_ := HIq8_.out _ (hs_).2; by have z_ := HLA.out; omega)))); replace BK276 := Aside0.mk (blk_kept BK276.out hkp (fun hs_ => (have i_ := HG276.out; (have j_ := HIq8_.out _ (hs_).2; by have z_ := HLA.out; omega)))); replace BK289 := Aside0.mk (blk_kept BK289.out hkp (fun hs_ => (have i_ := HG289.out; (have j_ := HIq8_.out _ (hs_).2; by have z_ := HLA.out; omega)))); replace HB := Aside0.mk (hb); replace HLA := Aside0.mk (And.intro HLA.out (Nat.le_trans hkW.1 hkp.1 : wv22.heap.size ≤ wv23.heap.size)); (try clear hb); (try clear hkW); (try clear hk2); (try clear hkp); (try clear hy0); obtain ⟨hcz19_0, hcz19_1, hcz19_2, hcz19_3, hcz19_4, hcz19_5, hcz19_6, hcz19_f0, hcz19_f1, hcz19_f2, hcz19_f3, hcz19_f4, hcz19_f5, hcz19_f6⟩ := lk_c7 BK289.out; obtain ⟨hcz20_0, hcz20_1, hcz20_2, hcz20_3, hcz20_4, hcz20_5, hcz20_6, hcz20_f0, hcz20_f1, hcz20_f2, hcz20_f3, hcz20_f4, hcz20_f5, hcz20_f6⟩ := lk_c7 BK266.out; have hnb21_ : gm289 ≠ gm266 := (by have g1_ := HG289.out; have g2_ := HG266.out; have z_ := HLA.out; omega); have hnb22_ : gm266 ≠ gm289 := (by have g1_ := HG266.out; have g2_ := HG289.out; have z_ := HLA.out; omega)) | (go_at_call 30; (with_reducible refine (laws_eqKeeperHost.calls k t279 t280 t281 t282 t283 _ _ t284 t287 t256 t257 t258 t259 t260 _ _ t261 t264 true _ ?side1 ?side2 ?side3 ?side4 A19.out).mono ?_); (case side1 => exact (Kd.R_reads' HOq11_.out).2.2); (case side2 => have h1_ := (Kd.R_reads' HOq11_.out).1; have h2_ := (Kd.R_reads' HOq11_.out).2.1; omega); (case side3 => exact (Kd.R_reads' HOq5_.out).2.2); (case side4 => have h1_ := (Kd.R_reads' HOq5_.out).1; have h2_ := (Kd.R_reads' HOq5_.out).2.1; omega); rintro e wv24 ⟨rfl, hb⟩; have hkW := (Kept.refl wv23 (fun _ => False)); have hk2 := Kept.below hkW hb; replace HOq4_ := Aside0.mk (Kd.R_below HOq4_.out hb); replace HOq5_ := Aside0.mk (Kd.R_below HOq5_.out hb); replace HOq8_ := Aside0.mk (Kd.R_below HOq8_.out hb); replace HOq11_ := Aside0.mk (Kd.R_below HOq11_.out hb); replace HOq17_ := Aside0.mk (Kd.R_below HOq17_.out hb); replace BK242 := Aside0.mk (blk_below BK242.out hb); replace BK243 := Aside0.mk (blk_below BK243.out hb); replace BK266 := Aside0.mk (blk_below BK266.out hb); replace BK276 := Aside0.mk (blk_below BK276.out hb); replace BK289 := Aside0.mk (blk_below BK289.out hb); replace HB := Aside0.mk (below_step (by repeat (first | (with_reducible first | exact HB.out | apply below_alloc | apply pw_below_drewN | apply below_drew1) | exact HB.out)) hb); replace HLA := Aside0.mk (And.intro HLA.out (hk2.1 : wv23.heap.size ≤ wv24.heap.size)); (try clear hb); (try clear hkW); (try clear hk2); (try clear hkp); obtain ⟨hcz23_0, hcz23_1, hcz23_2, hcz23_3, hcz23_4, hcz23_5, hcz23_6, hcz23_f0, hcz23_f1, hcz23_f2, hcz23_f3, hcz23_f4, hcz23_f5, hcz23_f6⟩ := lk_c7 BK289.out) | ((with_reducible refine gate_callee (f := 31) rfl ?_); refine goesL_ (some 70) rfl rfl Try.func31 (by kernel_rfl) rfl #[.agg #[.int .i64 t279, .int .i64 t280, .int .i64 t281, .int .i64 t282, .int .i64 t283, .slice Aq11_ t284.length cq11_, .int .i64 t287], .int .i64 1] rfl (by (try simp only [List.map_toArray, List.map_cons, List.map_nil]); first | done | rfl | (simp only [List.length_drop, List.length_take]; rfl)) ?_; (with_reducible refine (laws_markKeeperHost.calls k t279 t280 t281 t282 t283 (fun k_ => some k_ = (.slice Aq11_ t284.length cq11_ : Value).ownBlock ∧ okq11_ k_) (.slice Aq11_ t284.length cq11_) t284 t287 1 t304 t305 w _ ?side1 ?side2 A21.out).mono ?_); (case side1 => repeat (first | (with_reducible first | exact HB.out | apply below_alloc | apply pw_below_drewN | apply below_drew1) | exact HB.out)); (case side2 => exact Kd.R_tight2 rfl HOq11_.out); rintro e wv25 ⟨rfl, hy0, hb, hkp⟩; refine ⟨_, rfl, ?_⟩; have hkW := (Kept.refl wv24 (fun _ => False)); replace HOq4_ := Aside0.mk (Kd.R_kept (Kd.R_kept HOq4_.out hkW (fun _ _ hs_ => hs_.elim)) hkp (fun k_ hk_ hs_ => (have i_ := HIq4_.out k_ hk_; (have j_ := HIq11_.out _ (hs_).2; by have z_ := HLA.out; omega)))); replace HOq5_ := Aside0.mk (Kd.R_kept (Kd.R_kept HOq5_.out hkW (fun _ _ hs_ => hs_.elim)) hkp (fun k_ hk_ hs_ => (have i_ := HIq5_.out k_ hk_; (have j_ := HIq11_.out _ (hs_).2; by have z_ := HLA.out; omega)))); replace HOq8_ := Aside0.mk (Kd.R_kept (Kd.R_kept HOq8_.out hkW (fun _ _ hs_ => hs_.elim)) hkp (fun k_ hk_ hs_ => (have i_ := HIq8_.out k_ hk_; (have j_ := HIq11_.out _ (hs_).2; by have z_ := HLA.out; omega)))); replace HOq11_ := Aside0.mk (Kd.R_reok rfl hy0 (fun k_ e_ => HOq11_.out.1 k_ e_)); replace HOq17_ := Aside0.mk (Kd.R_kept (Kd.R_kept HOq17_.out hkW (fun _ _ hs_ => hs_.elim)) hkp (fun k_ hk_ hs_ => (have i_ := HIq17_.out k_ hk_; (have j_ := HIq11_.out _ (hs_).2; by have z_ := HLA.out; omega)))); replace BK242 := Aside0.mk (blk_kept BK242.out hkp (fun hs_ => (have i_ := HG242.out; (have j_ := HIq11_.out _ (hs_).2; by have z_ := HLA.out; omega)))); replace BK243 := Aside0.mk (blk_kept BK243.out hkp (fun hs_ => (have i_ := HG243.out; (have j_ := HIq11_.out _ (hs_).2; by have z_ := HLA.out; omega)))); replace BK266 := Aside0.mk (blk_kept BK266.out hkp (fun hs_ => (have i_ := HG266.out; (have j_ := HIq11_.out _ (hs_).2; by have z_ := HLA.out; omega)))); replace BK276 := Aside0.mk (blk_kept BK276.out hkp (fun hs_ => (have i_ := HG276.out; (have j_ := HIq11_.out _ (hs_).2; by have z_ := HLA.out; omega)))); replace BK289 := Aside0.mk (blk_kept BK289.out hkp (fun hs_ => (have i_ := HG289.out; (have j_ := HIq11_.out _ (hs_).2; by have z_ := HLA.out; omega)))); replace HB := Aside0.mk (hb); replace HLA := Aside0.mk (And.intro HLA.out (Nat.le_trans hkW.1 hkp.1 : wv24.heap.size ≤ wv25.heap.size)); (try clear hb); (try clear hkW); (try clear hk2); (try clear hkp); (try clear hy0); obtain ⟨hcz24_0, hcz24_1, hcz24_2, hcz24_3, hcz24_4, hcz24_5, hcz24_6, hcz24_f0, hcz24_f1, hcz24_f2, hcz24_f3, hcz24_f4, hcz24_f5, hcz24_f6⟩ := lk_c7 BK289.out) | ((with_reducible refine gate_callee (f := 32) rfl ?_); refine goesL_ (some 73) rfl rfl Try.func32 (by kernel_rfl) rfl #[.agg #[.int .i64 t279, .int .i64 t280, .int .i64 t281, .int .i64 t282, .int .i64 t283, .slice Aq11_ t305.length cq11_, .int .i64 t287], .int .i64 1] rfl (by (try simp only [List.map_toArray, List.map_cons, List.map_nil]); first | done | (rw [show t305.length = t284.length from (Kd.R_reads' HOq11_.out).1.symm] <;> rfl) | rfl | (simp only [List.length_drop, List.length_take]; rfl)) ?_; (with_reducible refine (laws_heldKeeperHost.calls k t279 t280 t281 t282 t283 _ _ t305 t287 1 t306 _ ?side1 ?side2 A22.out).mono ?_); (case side1 => exact (Kd.R_reads' HOq11_.out).2.2); (case side2 => have h1_ := (Kd.R_reads' HOq11_.out).1; have h2_ := (Kd.R_reads' HOq11_.out).2.1; omega); rintro e wv26 ⟨rfl, hb⟩; refine ⟨_, rfl, ?_⟩; have hkW := (Kept.refl wv25 (fun _ => False)); have hk2 := Kept.below hkW hb; replace HOq4_ := Aside0.mk (Kd.R_below HOq4_.out hb); replace HOq5_ := Aside0.mk (Kd.R_below HOq5_.out hb); replace HOq8_ := Aside0.mk (Kd.R_below HOq8_.out hb); replace HOq11_ := Aside0.mk (Kd.R_below HOq11_.out hb); replace HOq17_ := Aside0.mk (Kd.R_below HOq17_.out hb); replace BK242 := Aside0.mk (blk_below BK242.out hb); replace BK243 := Aside0.mk (blk_below BK243.out hb); replace BK266 := Aside0.mk (blk_below BK266.out hb); replace BK276 := Aside0.mk (blk_below BK276.out hb); replace BK289 := Aside0.mk (blk_below BK289.out hb); replace HB := Aside0.mk (below_step (by repeat (first | (with_reducible first | exact HB.out | apply below_alloc | apply pw_below_drewN | apply below_drew1) | exact HB.out)) hb); replace HLA := Aside0.mk (And.intro HLA.out (hk2.1 : wv25.heap.size ≤ wv26.heap.size)); (try clear hb); (try clear hkW); (try clear hk2); (try clear hkp)))
  replace HOq4_ := Aside0.mk (Kd.R_kept HOq4_.out (show Kept wv26 wv26.drew (fun k_ => False) from by repeat (first | (with_reducible first | exact Kept.refl _ _ | apply Kept.alloc | apply Kept.drewN | apply Kept.drew) | exact Kept.refl _ _)) (fun _ _ hs_ => hs_.elim))
  replace HOq5_ := Aside0.mk (Kd.R_kept HOq5_.out (show Kept wv26 wv26.drew (fun k_ => False) from by repeat (first | (with_reducible first | exact Kept.refl _ _ | apply Kept.alloc | apply Kept.drewN | apply Kept.drew) | exact Kept.refl _ _)) (fun _ _ hs_ => hs_.elim))
  replace HOq8_ := Aside0.mk (Kd.R_kept HOq8_.out (show Kept wv26 wv26.drew (fun k_ => False) from by repeat (first | (with_reducible first | exact Kept.refl _ _ | apply Kept.alloc | apply Kept.drewN | apply Kept.drew) | exact Kept.refl _ _)) (fun _ _ hs_ => hs_.elim))
  replace HOq11_ := Aside0.mk (Kd.R_kept HOq11_.out (show Kept wv26 wv26.drew (fun k_ => False) from by repeat (first | (with_reducible first | exact Kept.refl _ _ | apply Kept.alloc | apply Kept.drewN | apply Kept.drew) | exact Kept.refl _ _)) (fun _ _ hs_ => hs_.elim))
  replace HOq17_ := Aside0.mk (Kd.R_kept HOq17_.out (show Kept wv26 wv26.drew (fun k_ => False) from by repeat (first | (with_reducible first | exact Kept.refl _ _ | apply Kept.alloc | apply Kept.drewN | apply Kept.drew) | exact Kept.refl _ _)) (fun _ _ hs_ => hs_.elim))
  replace BK242 := Aside0.mk ((blk_kept BK242.out (show Kept wv26 wv26.drew (fun k_ => False) from by repeat (first | (with_reducible first | exact Kept.refl _ _ | apply Kept.alloc | apply Kept.drewN | apply Kept.drew) | exact Kept.refl _ _)) (fun hs_ => hs_.elim)))
  replace BK243 := Aside0.mk ((blk_kept BK243.out (show Kept wv26 wv26.drew (fun k_ => False) from by repeat (first | (with_reducible first | exact Kept.refl _ _ | apply Kept.alloc | apply Kept.drewN | apply Kept.drew) | exact Kept.refl _ _)) (fun hs_ => hs_.elim)))
  replace BK266 := Aside0.mk ((blk_kept BK266.out (show Kept wv26 wv26.drew (fun k_ => False) from by repeat (first | (with_reducible first | exact Kept.refl _ _ | apply Kept.alloc | apply Kept.drewN | apply Kept.drew) | exact Kept.refl _ _)) (fun hs_ => hs_.elim)))
  replace BK276 := Aside0.mk ((blk_kept BK276.out (show Kept wv26 wv26.drew (fun k_ => False) from by repeat (first | (with_reducible first | exact Kept.refl _ _ | apply Kept.alloc | apply Kept.drewN | apply Kept.drew) | exact Kept.refl _ _)) (fun hs_ => hs_.elim)))
  replace BK289 := Aside0.mk ((blk_kept BK289.out (show Kept wv26 wv26.drew (fun k_ => False) from by repeat (first | (with_reducible first | exact Kept.refl _ _ | apply Kept.alloc | apply Kept.drewN | apply Kept.drew) | exact Kept.refl _ _)) (fun hs_ => hs_.elim)))
  replace HB := Aside0.mk ((show Below w.heap.size w (wv26.drew) from by repeat (first | (with_reducible first | exact HB.out | apply below_alloc | apply pw_below_drewN | apply below_drew1) | exact HB.out)))
  replace HLA := Aside0.mk (And.intro HLA.out ((show Kept wv26 wv26.drew (fun k_ => False) from by repeat (first | (with_reducible first | exact Kept.refl _ _ | apply Kept.alloc | apply Kept.drewN | apply Kept.drew) | exact Kept.refl _ _)).1 : wv26.heap.size ≤ (wv26.drew).heap.size))
  refine start_ (n := 11) (S := fun w' => w'.cell? ⟨gb242, 0, none⟩ = some (.int .i64 a0_0) ∧ w'.cell? ⟨gb242, 1, none⟩ = some (.int .i64 a0_1) ∧ w'.cell? ⟨gb242, 2, none⟩ = some (.int .i64 a0_2) ∧ w'.cell? ⟨gb242, 3, none⟩ = some (.int .i64 a0_3) ∧ w'.cell? ⟨gb242, 4, none⟩ = some (.int .i64 a0_4) ∧ w'.cell? ⟨gb242, 5, none⟩ = some (.slice A0_5 l0_5.length c0_5) ∧ w'.cell? ⟨gb242, 6, none⟩ = some (.int .i64 a0_6) ∧ w'.cell? ⟨gb243, 0, none⟩ = some (.int .i64 a1_0) ∧ w'.cell? ⟨gb243, 1, none⟩ = some (.int .i64 a1_1)) (ds := []) #[false, false, false, false, false, false, false, false, false, false, false] (by kernel_rfl) rfl rfl (lk_t7 BK242.out (lk_e2 BK243.out)) (fun hHeld => ?_)
  generalize wv26.drew = wv27 at HOq4_ HOq5_ HOq8_ HOq11_ HOq17_ BK242 BK243 BK266 BK276 BK289 HB HLA hHeld ⊢
  refine take_ (i := 0) (N := some 80) (v := ?_) (a' := ?_) #[true, false, false, false, false, false, false, false, false, false, false] rfl rfl (by kernel_rfl) (fun _ _ _ h => h) (Or.inl ⟨by rfl, ?_⟩) hHeld ?_ ?_
  rotate_left
  · rintro w' ⟨s0, s1, s2, s3, s4, s5, s6, s7, s8⟩
    go_simp
    with_reducible rfl
  rotate_left
  · simp only [Act.put, List.setIfInBounds_toArray, List.set_cons_zero, List.set_cons_succ, i64_w, i32_w]
    rfl
  refine take_ (i := 2) (N := some 82) (v := ?_) (a' := ?_) #[true, false, true, false, false, false, false, false, false, false, false] rfl rfl (by kernel_rfl) (fun _ _ _ h => h) (Or.inl ⟨by rfl, ?_⟩) hHeld ?_ ?_
  rotate_left
  · rintro w' ⟨s0, s1, s2, s3, s4, s5, s6, s7, s8⟩
    go_simp
    with_reducible rfl
  rotate_left
  · simp only [Act.put, List.setIfInBounds_toArray, List.set_cons_zero, List.set_cons_succ, i64_w, i32_w]
    rfl
  refine join_ (σ := (Nat → Prop) × (Option Addr) × Nat × (Nat → Prop) × (Option Addr) × Nat × Nat) 2 #[true, true, true, true, true, true, true, true, true, false, false] (fun s => [(81, .agg #[.int .i64 t307, .int .i64 t308, .int .i64 t309, .int .i64 t310, .int .i64 t311, .slice s.2.1 t312.length s.2.2.1, .int .i64 t315]), (83, .agg #[.int .i64 t316, .int .i64 t317]), (84, .tuple #[.agg #[.int .i64 t318, .int .i64 t319, .int .i64 t320, .int .i64 t321, .int .i64 t322, .slice s.2.2.2.2.1 t323.length s.2.2.2.2.2.1, .int .i64 t326], .bool t327]), (79, .tuple #[.agg #[.int .i64 t318, .int .i64 t319, .int .i64 t320, .int .i64 t321, .int .i64 t322, .slice s.2.2.2.2.1 t323.length s.2.2.2.2.2.1, .int .i64 t326], .bool t327]), (85, .agg #[.int .i64 t318, .int .i64 t319, .int .i64 t320, .int .i64 t321, .int .i64 t322, .slice s.2.2.2.2.1 t323.length s.2.2.2.2.2.1, .int .i64 t326]), (86, .bool t327), (14, .pointer (some ⟨s.2.2.2.2.2.2, 0, none⟩))]) (fun s w' => (Kd.R k28 28 w' w.heap.size okq4_ (.slice Aq4_ t250.length cq4_) t250) ∧ (Kd.R k28 28 w' w.heap.size okq5_ (.slice Aq5_ t261.length cq5_) t261) ∧ (Kd.R k28 28 w' w.heap.size okq8_ (.slice Aq8_ t272.length cq8_) t302) ∧ (Kd.R k28 28 w' w.heap.size okq11_ (.slice Aq11_ t284.length cq11_) t305) ∧ (Kd.R k28 28 w' w.heap.size okq17_ (.slice Aq17_ t296.length cq17_) t296) ∧ (w'.heap[gb242]? = some (Obj.cells #[.int .i64 a0_0, .int .i64 a0_1, .int .i64 a0_2, .int .i64 a0_3, .int .i64 a0_4, .slice A0_5 l0_5.length c0_5, .int .i64 a0_6] 50 (0, 0))) ∧ (w'.heap[gb243]? = some (Obj.cells #[.int .i64 a1_0, .int .i64 a1_1] 42 (0, 0))) ∧ (w'.heap[gm266]? = some (Obj.cells #[.int .i64 t256, .int .i64 t257, .int .i64 t258, .int .i64 t259, .int .i64 t260, .slice Aq5_ t261.length cq5_, .int .i64 t264] 31 (0, 0))) ∧ (w'.heap[gb276]? = some (Obj.cells #[.int .i64 t267, .int .i64 t268, .int .i64 t269, .int .i64 t270, .int .i64 t271, .slice Aq8_ t272.length cq8_, .int .i64 t275] 31 (0, 0))) ∧ (w'.heap[gm289]? = some (Obj.cells #[.int .i64 t279, .int .i64 t280, .int .i64 t281, .int .i64 t282, .int .i64 t283, .slice Aq11_ t284.length cq11_, .int .i64 t287] 31 (0, 0))) ∧ (Below w.heap.size w w') ∧ (wv27.heap.size ≤ w'.heap.size) ∧ (Kd.R k28 28 w' w.heap.size (s.1) (.slice (s.2.1) t312.length (s.2.2.1)) t312) ∧ (∀ k_, (s.1) k_ → (wv27.heap.size ≤ k_ ∧ k_ < w'.heap.size) ∧ k_ ≠ (s.2.2.2.2.2.2)) ∧ (Kd.R k28 28 w' w.heap.size (s.2.2.2.1) (.slice (s.2.2.2.2.1) t323.length (s.2.2.2.2.2.1)) t323) ∧ (∀ k_, (s.2.2.2.1) k_ → (wv27.heap.size ≤ k_ ∧ k_ < w'.heap.size) ∧ k_ ≠ (s.2.2.2.2.2.2)) ∧ (∀ k_, (s.1) k_ → ¬ (s.2.2.2.1) k_) ∧ (w'.heap[(s.2.2.2.2.2.2)]? = some (Obj.cells #[.int .i64 0, .int .i64 0, .int .i64 0, .int .i64 0, .int .i64 0, .slice none 0 0, .int .i64 0] 31 (0, 0))) ∧ (wv27.heap.size ≤ (s.2.2.2.2.2.2) ∧ (s.2.2.2.2.2.2) < w'.heap.size) ∧ (w.heap.size ≤ (s.2.2.2.2.2.2))) ?_ ?_
  rotate_left
  · intro hCont
    refine two_ (i := 1) (j := 8) (Ni := some 81) (Nj := some 14) #[true, true, true, false, false, false, false, false, false, false, false] #[true, false, true, false, false, false, false, false, true, false, false] rfl rfl rfl rfl (by kernel_rfl) (by decide) (by decide) (fun K hK => ?_) (fun K hK => ?_)
    · skip
      refine goes_ Try.func29 (by kernel_rfl) rfl #[.agg #[.int .i64 a0_0, .int .i64 a0_1, .int .i64 a0_2, .int .i64 a0_3, .int .i64 a0_4, .slice A0_5 l0_5.length c0_5, .int .i64 a0_6]] (by rfl) rfl rfl (by (try simp only [List.map_toArray, List.map_cons, List.map_nil]); first | done | rfl | (simp only [List.length_drop, List.length_take]; rfl)) ?_
      (with_reducible refine (laws_toKeeperHost.calls k a0_0 a0_1 a0_2 a0_3 a0_4 _ _ l0_5 a0_6 t307 t308 t309 t310 t311 t312 t315 _ ?side1 ?side2 A25.out).mono ?_)
      (case side1 => exact Kd.C_below HR0_5.out (by repeat (first | (with_reducible first | exact HB.out | apply below_alloc | apply pw_below_drewN | apply below_drew1) | exact HB.out)))
      (case side2 => exact HC0_5.out)
      rintro e wv28 ⟨vq25_, rfl, ho0, hb⟩
      refine ⟨_, rfl, ?_⟩
      have hkW := (Kept.refl wv27 (fun _ => False))
      have hk2 := Kept.below hkW hb
      obtain ⟨Aq25_, cq25_, rfl⟩ := Kd.R_slice ho0
      obtain ⟨okq25_, hoo0, hi0⟩ := lk_R ho0 (a := wv27.heap.size) (b := w.heap.size) hkW.1 (Nat.le_trans HB.out.size hkW.1)
      have HOq25_ := Aside0.mk (hoo0)
      have HIq25_ := Aside0.mk (hi0)
      replace HOq4_ := Aside0.mk (Kd.R_below HOq4_.out hb)
      replace HOq5_ := Aside0.mk (Kd.R_below HOq5_.out hb)
      replace HOq8_ := Aside0.mk (Kd.R_below HOq8_.out hb)
      replace HOq11_ := Aside0.mk (Kd.R_below HOq11_.out hb)
      replace HOq17_ := Aside0.mk (Kd.R_below HOq17_.out hb)
      replace BK242 := Aside0.mk (blk_below BK242.out hb)
      replace BK243 := Aside0.mk (blk_below BK243.out hb)
      replace BK266 := Aside0.mk (blk_below BK266.out hb)
      replace BK276 := Aside0.mk (blk_below BK276.out hb)
      replace BK289 := Aside0.mk (blk_below BK289.out hb)
      replace HB := Aside0.mk (below_step (by repeat (first | (with_reducible first | exact HB.out | apply below_alloc | apply pw_below_drewN | apply below_drew1) | exact HB.out)) hb)
      replace HLA := Aside0.mk (And.intro HLA.out (hk2.1 : wv27.heap.size ≤ wv28.heap.size))
      (try clear hb)
      (try clear hkW)
      (try clear hk2)
      (try clear hkp)
      (try clear hoo0)
      (try clear hi0)
      (try clear ho0)
      refine hK.out _ _ (lk_t7 BK242.out (lk_e2 BK243.out)) (fun hHeld => ?_)
      clear hK K
      refine norm_ (a' := ?_) ?_ ?_
      rotate_left
      · show Act.put _ (some 81) _ = _
        simp only [Act.put, List.setIfInBounds_toArray, List.set_cons_zero, List.set_cons_succ, i64_w, i32_w]
        rfl
      refine two_ (i := 3) (j := 8) (Ni := some 83) (Nj := some 14) #[true, true, true, true, false, false, false, false, false, false, false] #[true, true, true, false, false, false, false, false, true, false, false] rfl rfl rfl rfl (by kernel_rfl) (by decide) (by decide) (fun K hK => ?_) (fun K hK => ?_)
      · skip
        refine goes_ Try.func34 (by kernel_rfl) rfl #[.agg #[.int .i64 a1_0, .int .i64 a1_1]] (by rfl) rfl rfl (by (try simp only [List.map_toArray, List.map_cons, List.map_nil]); first | done | rfl | (simp only [List.length_drop, List.length_take]; rfl)) ?_
        (with_reducible refine (laws_toShare.calls a1_0 a1_1 t316 t317 _  A26.out).mono ?_)
        rintro e wv29 ⟨rfl, hb⟩
        refine ⟨_, rfl, ?_⟩
        have hkW := (Kept.refl wv28 (fun _ => False))
        have hk2 := Kept.below hkW hb
        replace HOq4_ := Aside0.mk (Kd.R_below HOq4_.out hb)
        replace HOq5_ := Aside0.mk (Kd.R_below HOq5_.out hb)
        replace HOq8_ := Aside0.mk (Kd.R_below HOq8_.out hb)
        replace HOq11_ := Aside0.mk (Kd.R_below HOq11_.out hb)
        replace HOq17_ := Aside0.mk (Kd.R_below HOq17_.out hb)
        replace HOq25_ := Aside0.mk (Kd.R_below HOq25_.out hb)
        replace BK242 := Aside0.mk (blk_below BK242.out hb)
        replace BK243 := Aside0.mk (blk_below BK243.out hb)
        replace BK266 := Aside0.mk (blk_below BK266.out hb)
        replace BK276 := Aside0.mk (blk_below BK276.out hb)
        replace BK289 := Aside0.mk (blk_below BK289.out hb)
        replace HB := Aside0.mk (below_step (by repeat (first | (with_reducible first | exact HB.out | apply below_alloc | apply pw_below_drewN | apply below_drew1) | exact HB.out)) hb)
        replace HLA := Aside0.mk (And.intro HLA.out (hk2.1 : wv28.heap.size ≤ wv29.heap.size))
        (try clear hb)
        (try clear hkW)
        (try clear hk2)
        (try clear hkp)
        refine hK.out _ _ (lk_t7 BK242.out (lk_e2 BK243.out)) (fun hHeld => ?_)
        clear hK K
        refine norm_ (a' := ?_) ?_ ?_
        rotate_left
        · show Act.put _ (some 83) _ = _
          simp only [Act.put, List.setIfInBounds_toArray, List.set_cons_zero, List.set_cons_succ, i64_w, i32_w]
          rfl
        refine two_ (i := 4) (j := 8) (Ni := some 84) (Nj := some 14) #[true, true, true, true, true, false, false, false, false, false, false] #[true, true, true, true, false, false, false, false, true, false, false] rfl rfl rfl rfl (by kernel_rfl) (by decide) (by decide) (fun K hK => ?_) (fun K hK => ?_)
        · skip
          refine goes_ Try.func35 (by kernel_rfl) rfl #[.agg #[.int .i64 t307, .int .i64 t308, .int .i64 t309, .int .i64 t310, .int .i64 t311, .slice Aq25_ t312.length cq25_, .int .i64 t315], .agg #[.int .i64 t316, .int .i64 t317]] (by rfl) rfl rfl (by (try simp only [List.map_toArray, List.map_cons, List.map_nil]); first | done | rfl | (simp only [List.length_drop, List.length_take]; rfl)) ?_
          (with_reducible refine (impl_ResetGuesses.calls t307 t308 t309 t310 t311 _ _ t312 t315 t316 t317 t318 t319 t320 t321 t322 t323 t326 t327 _ ?side1 ?side2 A27.out).mono ?_)
          (case side1 => exact (Kd.R_reads' HOq25_.out).2.2)
          (case side2 => have h1_ := (Kd.R_reads' HOq25_.out).1; have h2_ := (Kd.R_reads' HOq25_.out).2.1; omega)
          rintro e wv30 ⟨vq26_, rfl, ho0, hb⟩
          refine ⟨_, rfl, ?_⟩
          have hkW := (Kept.refl wv29 (fun _ => False))
          have hk2 := Kept.below hkW hb
          obtain ⟨Aq26_, cq26_, rfl⟩ := Kd.R_slice ho0
          obtain ⟨okq26_, hoo0, hi0⟩ := lk_R ho0 (a := wv29.heap.size) (b := w.heap.size) hkW.1 (Nat.le_trans HB.out.size hkW.1)
          have HOq26_ := Aside0.mk (hoo0)
          have HIq26_ := Aside0.mk (hi0)
          replace HOq4_ := Aside0.mk (Kd.R_below HOq4_.out hb)
          replace HOq5_ := Aside0.mk (Kd.R_below HOq5_.out hb)
          replace HOq8_ := Aside0.mk (Kd.R_below HOq8_.out hb)
          replace HOq11_ := Aside0.mk (Kd.R_below HOq11_.out hb)
          replace HOq17_ := Aside0.mk (Kd.R_below HOq17_.out hb)
          replace HOq25_ := Aside0.mk (Kd.R_below HOq25_.out hb)
          replace BK242 := Aside0.mk (blk_below BK242.out hb)
          replace BK243 := Aside0.mk (blk_below BK243.out hb)
          replace BK266 := Aside0.mk (blk_below BK266.out hb)
          replace BK276 := Aside0.mk (blk_below BK276.out hb)
          replace BK289 := Aside0.mk (blk_below BK289.out hb)
          replace HB := Aside0.mk (below_step (by repeat (first | (with_reducible first | exact HB.out | apply below_alloc | apply pw_below_drewN | apply below_drew1) | exact HB.out)) hb)
          replace HLA := Aside0.mk (And.intro HLA.out (hk2.1 : wv29.heap.size ≤ wv30.heap.size))
          (try clear hb)
          (try clear hkW)
          (try clear hk2)
          (try clear hkp)
          (try clear hoo0)
          (try clear hi0)
          (try clear ho0)
          refine hK.out _ _ (lk_t7 BK242.out (lk_e2 BK243.out)) (fun hHeld => ?_)
          clear hK K
          refine norm_ (a' := ?_) ?_ ?_
          rotate_left
          · show Act.put _ (some 84) _ = _
            simp only [Act.put, List.setIfInBounds_toArray, List.set_cons_zero, List.set_cons_succ, i64_w, i32_w]
            rfl
          refine pure_ (i := 5) (N := some 79) (v := ?_) (a' := ?_) #[true, true, true, true, true, true, false, false, false, false, false] rfl rfl (by kernel_rfl) (fun _ _ _ h => h) (Or.inl ⟨by rfl, ?_⟩) ?_ ?_
          rotate_left
          · intro w'
            go_simp
            with_reducible rfl
          rotate_left
          · simp only [Act.put, List.setIfInBounds_toArray, List.set_cons_zero, List.set_cons_succ, i64_w, i32_w]
            rfl
          refine pure_ (i := 6) (N := some 85) (v := ?_) (a' := ?_) #[true, true, true, true, true, true, true, false, false, false, false] rfl rfl (by kernel_rfl) (fun _ _ _ h => h) (Or.inl ⟨by rfl, ?_⟩) ?_ ?_
          rotate_left
          · intro w'
            go_simp
            with_reducible rfl
          rotate_left
          · simp only [Act.put, List.setIfInBounds_toArray, List.set_cons_zero, List.set_cons_succ, i64_w, i32_w]
            rfl
          refine pure_ (i := 7) (N := some 86) (v := ?_) (a' := ?_) #[true, true, true, true, true, true, true, true, false, false, false] rfl rfl (by kernel_rfl) (fun _ _ _ h => h) (Or.inl ⟨by rfl, ?_⟩) ?_ ?_
          rotate_left
          · intro w'
            go_simp
            with_reducible rfl
          rotate_left
          · simp only [Act.put, List.setIfInBounds_toArray, List.set_cons_zero, List.set_cons_succ, i64_w, i32_w]
            rfl
          refine one_ (i := 8) (N := some 14) #[true, true, true, true, true, true, true, true, true, false, false] rfl rfl (by kernel_rfl) (by decide) (fun K hK => ?_)
          refine box_step ?hg (N := 14) ?hd (cs := #[.int .i64 0, .int .i64 0, .int .i64 0, .int .i64 0, .int .i64 0, .slice none 0 0, .int .i64 0]) (t := 31) ?hr ?_
          (case hd => rfl)
          (case hg => rfl)
          (case hr => first | (go_simp; done) | (go_simp; rfl))
          intro gb328 hg wv31 hbox hb
          have BK328 := Aside0.mk (hbox)
          have GE328 := Aside0.mk ((by rw [hg]; exact Nat.le_trans HB.out.size ((Kept.refl wv30 (fun _ => False))).1 : w.heap.size ≤ gb328))
          have HG328 := Aside0.mk ((⟨by rw [hg]; exact ((Kept.refl wv30 (fun _ => False))).1, blk_lt hbox⟩ : wv30.heap.size ≤ gb328 ∧ gb328 < wv31.heap.size))
          replace HOq4_ := Aside0.mk (Kd.R_below HOq4_.out hb)
          replace HOq5_ := Aside0.mk (Kd.R_below HOq5_.out hb)
          replace HOq8_ := Aside0.mk (Kd.R_below HOq8_.out hb)
          replace HOq11_ := Aside0.mk (Kd.R_below HOq11_.out hb)
          replace HOq17_ := Aside0.mk (Kd.R_below HOq17_.out hb)
          replace HOq25_ := Aside0.mk (Kd.R_below HOq25_.out hb)
          replace HOq26_ := Aside0.mk (Kd.R_below HOq26_.out hb)
          replace BK242 := Aside0.mk (blk_below BK242.out hb)
          replace BK243 := Aside0.mk (blk_below BK243.out hb)
          replace BK266 := Aside0.mk (blk_below BK266.out hb)
          replace BK276 := Aside0.mk (blk_below BK276.out hb)
          replace BK289 := Aside0.mk (blk_below BK289.out hb)
          replace HB := Aside0.mk (below_step HB.out hb)
          replace HLA := Aside0.mk (And.intro HLA.out ((Kept.below (Kept.refl wv30 (fun _ => False)) hb).1 : wv30.heap.size ≤ wv31.heap.size))
          clear hb hbox hg
          refine hK.out _ _ (lk_t7 BK242.out (lk_e2 BK243.out)) (fun hHeld => ?_)
          clear hK K
          refine norm_ (a' := ?_) ?_ ?_
          rotate_left
          · show Act.put _ (some 14) _ = _
            simp only [Act.put, List.setIfInBounds_toArray, List.set_cons_zero, List.set_cons_succ, i64_w, i32_w]
            rfl
          exact norm_ (by simp only [putAll, Act.put, List.setIfInBounds_toArray, List.set_cons_zero, List.set_cons_succ]) (hCont (okq25_, Aq25_, cq25_, okq26_, Aq26_, cq26_, gb328) _ ⟨HOq4_.out, HOq5_.out, HOq8_.out, HOq11_.out, HOq17_.out, BK242.out, BK243.out, BK266.out, BK276.out, BK289.out, HB.out, (by have z_ := HLA.out; omega), HOq25_.out, (fun k_ hk_ => by have i_ := HIq25_.out k_ hk_; have g0_ := HG328.out; have z_ := HLA.out; (try dsimp only); first | omega | (refine ⟨?_, ?_⟩ <;> omega) | (refine ⟨⟨?_, ?_⟩, ?_⟩ <;> omega) | (refine ⟨⟨?_, ?_⟩, ?_, ?_⟩ <;> omega)), HOq26_.out, (fun k_ hk_ => by have i_ := HIq26_.out k_ hk_; have g0_ := HG328.out; have z_ := HLA.out; (try dsimp only); first | omega | (refine ⟨?_, ?_⟩ <;> omega) | (refine ⟨⟨?_, ?_⟩, ?_⟩ <;> omega) | (refine ⟨⟨?_, ?_⟩, ?_, ?_⟩ <;> omega)), (fun k_ h1_ h2_ => by have i_ := HIq25_.out k_ h1_; have j_ := HIq26_.out k_ h2_; have z_ := HLA.out; omega), BK328.out, (by have g_ := HG328.out; have z_ := HLA.out; (try dsimp only); first | omega | (refine ⟨?_, ?_⟩ <;> omega) | (refine ⟨⟨?_, ?_⟩, ?_⟩ <;> omega) | (refine ⟨⟨?_, ?_⟩, ?_, ?_⟩ <;> omega)), GE328.out⟩)
        skip
        refine box_step ?hg (N := 14) ?hd (cs := #[.int .i64 0, .int .i64 0, .int .i64 0, .int .i64 0, .int .i64 0, .slice none 0 0, .int .i64 0]) (t := 31) ?hr ?_
        (case hd => rfl)
        (case hg => rfl)
        (case hr => first | (go_simp; done) | (go_simp; rfl))
        intro gb328 hg wv30 hbox hb
        have BK328 := Aside0.mk (hbox)
        have GE328 := Aside0.mk ((by rw [hg]; exact Nat.le_trans HB.out.size ((Kept.refl wv29 (fun _ => False))).1 : w.heap.size ≤ gb328))
        have HG328 := Aside0.mk ((⟨by rw [hg]; exact ((Kept.refl wv29 (fun _ => False))).1, blk_lt hbox⟩ : wv29.heap.size ≤ gb328 ∧ gb328 < wv30.heap.size))
        replace HOq4_ := Aside0.mk (Kd.R_below HOq4_.out hb)
        replace HOq5_ := Aside0.mk (Kd.R_below HOq5_.out hb)
        replace HOq8_ := Aside0.mk (Kd.R_below HOq8_.out hb)
        replace HOq11_ := Aside0.mk (Kd.R_below HOq11_.out hb)
        replace HOq17_ := Aside0.mk (Kd.R_below HOq17_.out hb)
        replace HOq25_ := Aside0.mk (Kd.R_below HOq25_.out hb)
        replace BK242 := Aside0.mk (blk_below BK242.out hb)
        replace BK243 := Aside0.mk (blk_below BK243.out hb)
        replace BK266 := Aside0.mk (blk_below BK266.out hb)
        replace BK276 := Aside0.mk (blk_below BK276.out hb)
        replace BK289 := Aside0.mk (blk_below BK289.out hb)
        replace HB := Aside0.mk (below_step HB.out hb)
        replace HLA := Aside0.mk (And.intro HLA.out ((Kept.below (Kept.refl wv29 (fun _ => False)) hb).1 : wv29.heap.size ≤ wv30.heap.size))
        clear hb hbox hg
        refine hK.out _ _ (lk_t7 BK242.out (lk_e2 BK243.out)) (fun hHeld => ?_)
        clear hK K
        refine norm_ (a' := ?_) ?_ ?_
        rotate_left
        · show Act.put _ (some 14) _ = _
          simp only [Act.put, List.setIfInBounds_toArray, List.set_cons_zero, List.set_cons_succ, i64_w, i32_w]
          rfl
        refine one_ (i := 4) (N := some 84) #[true, true, true, true, true, false, false, false, true, false, false] rfl rfl (by kernel_rfl) (by decide) (fun K hK => ?_)
        refine goes_ Try.func35 (by kernel_rfl) rfl #[.agg #[.int .i64 t307, .int .i64 t308, .int .i64 t309, .int .i64 t310, .int .i64 t311, .slice Aq25_ t312.length cq25_, .int .i64 t315], .agg #[.int .i64 t316, .int .i64 t317]] (by rfl) rfl rfl (by (try simp only [List.map_toArray, List.map_cons, List.map_nil]); first | done | rfl | (simp only [List.length_drop, List.length_take]; rfl)) ?_
        (with_reducible refine (impl_ResetGuesses.calls t307 t308 t309 t310 t311 _ _ t312 t315 t316 t317 t318 t319 t320 t321 t322 t323 t326 t327 _ ?side1 ?side2 A27.out).mono ?_)
        (case side1 => exact (Kd.R_reads' HOq25_.out).2.2)
        (case side2 => have h1_ := (Kd.R_reads' HOq25_.out).1; have h2_ := (Kd.R_reads' HOq25_.out).2.1; omega)
        rintro e wv31 ⟨vq26_, rfl, ho0, hb⟩
        refine ⟨_, rfl, ?_⟩
        have hkW := (Kept.refl wv30 (fun _ => False))
        have hk2 := Kept.below hkW hb
        obtain ⟨Aq26_, cq26_, rfl⟩ := Kd.R_slice ho0
        obtain ⟨okq26_, hoo0, hi0⟩ := lk_R ho0 (a := wv30.heap.size) (b := w.heap.size) hkW.1 (Nat.le_trans HB.out.size hkW.1)
        have HOq26_ := Aside0.mk (hoo0)
        have HIq26_ := Aside0.mk (hi0)
        replace HOq4_ := Aside0.mk (Kd.R_below HOq4_.out hb)
        replace HOq5_ := Aside0.mk (Kd.R_below HOq5_.out hb)
        replace HOq8_ := Aside0.mk (Kd.R_below HOq8_.out hb)
        replace HOq11_ := Aside0.mk (Kd.R_below HOq11_.out hb)
        replace HOq17_ := Aside0.mk (Kd.R_below HOq17_.out hb)
        replace HOq25_ := Aside0.mk (Kd.R_below HOq25_.out hb)
        replace BK242 := Aside0.mk (blk_below BK242.out hb)
        replace BK243 := Aside0.mk (blk_below BK243.out hb)
        replace BK266 := Aside0.mk (blk_below BK266.out hb)
        replace BK276 := Aside0.mk (blk_below BK276.out hb)
        replace BK289 := Aside0.mk (blk_below BK289.out hb)
        replace BK328 := Aside0.mk (blk_below BK328.out hb)
        replace HB := Aside0.mk (below_step (by repeat (first | (with_reducible first | exact HB.out | apply below_alloc | apply pw_below_drewN | apply below_drew1) | exact HB.out)) hb)
        replace HLA := Aside0.mk (And.intro HLA.out (hk2.1 : wv30.heap.size ≤ wv31.heap.size))
        (try clear hb)
        (try clear hkW)
        (try clear hk2)
        (try clear hkp)
        (try clear hoo0)
        (try clear hi0)
        (try clear ho0)
        refine hK.out _ _ (lk_t7 BK242.out (lk_e2 BK243.out)) (fun hHeld => ?_)
        clear hK K
        refine norm_ (a' := ?_) ?_ ?_
        rotate_left
        · show Act.put _ (some 84) _ = _
          simp only [Act.put, List.setIfInBounds_toArray, List.set_cons_zero, List.set_cons_succ, i64_w, i32_w]
          rfl
        refine pure_ (i := 5) (N := some 79) (v := ?_) (a' := ?_) #[true, true, true, true, true, true, false, false, true, false, false] rfl rfl (by kernel_rfl) (fun _ _ _ h => h) (Or.inl ⟨by rfl, ?_⟩) ?_ ?_
        rotate_left
        · intro w'
          go_simp
          with_reducible rfl
        rotate_left
        · simp only [Act.put, List.setIfInBounds_toArray, List.set_cons_zero, List.set_cons_succ, i64_w, i32_w]
          rfl
        refine pure_ (i := 6) (N := some 85) (v := ?_) (a' := ?_) #[true, true, true, true, true, true, true, false, true, false, false] rfl rfl (by kernel_rfl) (fun _ _ _ h => h) (Or.inl ⟨by rfl, ?_⟩) ?_ ?_
        rotate_left
        · intro w'
          go_simp
          with_reducible rfl
        rotate_left
        · simp only [Act.put, List.setIfInBounds_toArray, List.set_cons_zero, List.set_cons_succ, i64_w, i32_w]
          rfl
        refine pure_ (i := 7) (N := some 86) (v := ?_) (a' := ?_) #[true, true, true, true, true, true, true, true, true, false, false] rfl rfl (by kernel_rfl) (fun _ _ _ h => h) (Or.inl ⟨by rfl, ?_⟩) ?_ ?_
        rotate_left
        · intro w'
          go_simp
          with_reducible rfl
        rotate_left
        · simp only [Act.put, List.setIfInBounds_toArray, List.set_cons_zero, List.set_cons_succ, i64_w, i32_w]
          rfl
        exact norm_ (by simp only [putAll, Act.put, List.setIfInBounds_toArray, List.set_cons_zero, List.set_cons_succ]) (hCont (okq25_, Aq25_, cq25_, okq26_, Aq26_, cq26_, gb328) _ ⟨HOq4_.out, HOq5_.out, HOq8_.out, HOq11_.out, HOq17_.out, BK242.out, BK243.out, BK266.out, BK276.out, BK289.out, HB.out, (by have z_ := HLA.out; omega), HOq25_.out, (fun k_ hk_ => by have i_ := HIq25_.out k_ hk_; have g0_ := HG328.out; have z_ := HLA.out; (try dsimp only); first | omega | (refine ⟨?_, ?_⟩ <;> omega) | (refine ⟨⟨?_, ?_⟩, ?_⟩ <;> omega) | (refine ⟨⟨?_, ?_⟩, ?_, ?_⟩ <;> omega)), HOq26_.out, (fun k_ hk_ => by have i_ := HIq26_.out k_ hk_; have g0_ := HG328.out; have z_ := HLA.out; (try dsimp only); first | omega | (refine ⟨?_, ?_⟩ <;> omega) | (refine ⟨⟨?_, ?_⟩, ?_⟩ <;> omega) | (refine ⟨⟨?_, ?_⟩, ?_, ?_⟩ <;> omega)), (fun k_ h1_ h2_ => by have i_ := HIq25_.out k_ h1_; have j_ := HIq26_.out k_ h2_; have z_ := HLA.out; omega), BK328.out, (by have g_ := HG328.out; have z_ := HLA.out; (try dsimp only); first | omega | (refine ⟨?_, ?_⟩ <;> omega) | (refine ⟨⟨?_, ?_⟩, ?_⟩ <;> omega) | (refine ⟨⟨?_, ?_⟩, ?_, ?_⟩ <;> omega)), GE328.out⟩)
      skip
      refine box_step ?hg (N := 14) ?hd (cs := #[.int .i64 0, .int .i64 0, .int .i64 0, .int .i64 0, .int .i64 0, .slice none 0 0, .int .i64 0]) (t := 31) ?hr ?_
      (case hd => rfl)
      (case hg => rfl)
      (case hr => first | (go_simp; done) | (go_simp; rfl))
      intro gb328 hg wv29 hbox hb
      have BK328 := Aside0.mk (hbox)
      have GE328 := Aside0.mk ((by rw [hg]; exact Nat.le_trans HB.out.size ((Kept.refl wv28 (fun _ => False))).1 : w.heap.size ≤ gb328))
      have HG328 := Aside0.mk ((⟨by rw [hg]; exact ((Kept.refl wv28 (fun _ => False))).1, blk_lt hbox⟩ : wv28.heap.size ≤ gb328 ∧ gb328 < wv29.heap.size))
      replace HOq4_ := Aside0.mk (Kd.R_below HOq4_.out hb)
      replace HOq5_ := Aside0.mk (Kd.R_below HOq5_.out hb)
      replace HOq8_ := Aside0.mk (Kd.R_below HOq8_.out hb)
      replace HOq11_ := Aside0.mk (Kd.R_below HOq11_.out hb)
      replace HOq17_ := Aside0.mk (Kd.R_below HOq17_.out hb)
      replace HOq25_ := Aside0.mk (Kd.R_below HOq25_.out hb)
      replace BK242 := Aside0.mk (blk_below BK242.out hb)
      replace BK243 := Aside0.mk (blk_below BK243.out hb)
      replace BK266 := Aside0.mk (blk_below BK266.out hb)
      replace BK276 := Aside0.mk (blk_below BK276.out hb)
      replace BK289 := Aside0.mk (blk_below BK289.out hb)
      replace HB := Aside0.mk (below_step HB.out hb)
      replace HLA := Aside0.mk (And.intro HLA.out ((Kept.below (Kept.refl wv28 (fun _ => False)) hb).1 : wv28.heap.size ≤ wv29.heap.size))
      clear hb hbox hg
      refine hK.out _ _ (lk_t7 BK242.out (lk_e2 BK243.out)) (fun hHeld => ?_)
      clear hK K
      refine norm_ (a' := ?_) ?_ ?_
      rotate_left
      · show Act.put _ (some 14) _ = _
        simp only [Act.put, List.setIfInBounds_toArray, List.set_cons_zero, List.set_cons_succ, i64_w, i32_w]
        rfl
      refine one_ (i := 3) (N := some 83) #[true, true, true, true, false, false, false, false, true, false, false] rfl rfl (by kernel_rfl) (by decide) (fun K hK => ?_)
      refine goes_ Try.func34 (by kernel_rfl) rfl #[.agg #[.int .i64 a1_0, .int .i64 a1_1]] (by rfl) rfl rfl (by (try simp only [List.map_toArray, List.map_cons, List.map_nil]); first | done | rfl | (simp only [List.length_drop, List.length_take]; rfl)) ?_
      (with_reducible refine (laws_toShare.calls a1_0 a1_1 t316 t317 _  A26.out).mono ?_)
      rintro e wv30 ⟨rfl, hb⟩
      refine ⟨_, rfl, ?_⟩
      have hkW := (Kept.refl wv29 (fun _ => False))
      have hk2 := Kept.below hkW hb
      replace HOq4_ := Aside0.mk (Kd.R_below HOq4_.out hb)
      replace HOq5_ := Aside0.mk (Kd.R_below HOq5_.out hb)
      replace HOq8_ := Aside0.mk (Kd.R_below HOq8_.out hb)
      replace HOq11_ := Aside0.mk (Kd.R_below HOq11_.out hb)
      replace HOq17_ := Aside0.mk (Kd.R_below HOq17_.out hb)
      replace HOq25_ := Aside0.mk (Kd.R_below HOq25_.out hb)
      replace BK242 := Aside0.mk (blk_below BK242.out hb)
      replace BK243 := Aside0.mk (blk_below BK243.out hb)
      replace BK266 := Aside0.mk (blk_below BK266.out hb)
      replace BK276 := Aside0.mk (blk_below BK276.out hb)
      replace BK289 := Aside0.mk (blk_below BK289.out hb)
      replace BK328 := Aside0.mk (blk_below BK328.out hb)
      replace HB := Aside0.mk (below_step (by repeat (first | (with_reducible first | exact HB.out | apply below_alloc | apply pw_below_drewN | apply below_drew1) | exact HB.out)) hb)
      replace HLA := Aside0.mk (And.intro HLA.out (hk2.1 : wv29.heap.size ≤ wv30.heap.size))
      (try clear hb)
      (try clear hkW)
      (try clear hk2)
      (try clear hkp)
      refine hK.out _ _ (lk_t7 BK242.out (lk_e2 BK243.out)) (fun hHeld => ?_)
      clear hK K
      refine norm_ (a' := ?_) ?_ ?_
      rotate_left
      · show Act.put _ (some 83) _ = _
        simp only [Act.put, List.setIfInBounds_toArray, List.set_cons_zero, List.set_cons_succ, i64_w, i32_w]
        rfl
      refine one_ (i := 4) (N := some 84) #[true, true, true, true, true, false, false, false, true, false, false] rfl rfl (by kernel_rfl) (by decide) (fun K hK => ?_)
      refine goes_ Try.func35 (by kernel_rfl) rfl #[.agg #[.int .i64 t307, .int .i64 t308, .int .i64 t309, .int .i64 t310, .int .i64 t311, .slice Aq25_ t312.length cq25_, .int .i64 t315], .agg #[.int .i64 t316, .int .i64 t317]] (by rfl) rfl rfl (by (try simp only [List.map_toArray, List.map_cons, List.map_nil]); first | done | rfl | (simp only [List.length_drop, List.length_take]; rfl)) ?_
      (with_reducible refine (impl_ResetGuesses.calls t307 t308 t309 t310 t311 _ _ t312 t315 t316 t317 t318 t319 t320 t321 t322 t323 t326 t327 _ ?side1 ?side2 A27.out).mono ?_)
      (case side1 => exact (Kd.R_reads' HOq25_.out).2.2)
      (case side2 => have h1_ := (Kd.R_reads' HOq25_.out).1; have h2_ := (Kd.R_reads' HOq25_.out).2.1; omega)
      rintro e wv31 ⟨vq26_, rfl, ho0, hb⟩
      refine ⟨_, rfl, ?_⟩
      have hkW := (Kept.refl wv30 (fun _ => False))
      have hk2 := Kept.below hkW hb
      obtain ⟨Aq26_, cq26_, rfl⟩ := Kd.R_slice ho0
      obtain ⟨okq26_, hoo0, hi0⟩ := lk_R ho0 (a := wv30.heap.size) (b := w.heap.size) hkW.1 (Nat.le_trans HB.out.size hkW.1)
      have HOq26_ := Aside0.mk (hoo0)
      have HIq26_ := Aside0.mk (hi0)
      replace HOq4_ := Aside0.mk (Kd.R_below HOq4_.out hb)
      replace HOq5_ := Aside0.mk (Kd.R_below HOq5_.out hb)
      replace HOq8_ := Aside0.mk (Kd.R_below HOq8_.out hb)
      replace HOq11_ := Aside0.mk (Kd.R_below HOq11_.out hb)
      replace HOq17_ := Aside0.mk (Kd.R_below HOq17_.out hb)
      replace HOq25_ := Aside0.mk (Kd.R_below HOq25_.out hb)
      replace BK242 := Aside0.mk (blk_below BK242.out hb)
      replace BK243 := Aside0.mk (blk_below BK243.out hb)
      replace BK266 := Aside0.mk (blk_below BK266.out hb)
      replace BK276 := Aside0.mk (blk_below BK276.out hb)
      replace BK289 := Aside0.mk (blk_below BK289.out hb)
      replace BK328 := Aside0.mk (blk_below BK328.out hb)
      replace HB := Aside0.mk (below_step (by repeat (first | (with_reducible first | exact HB.out | apply below_alloc | apply pw_below_drewN | apply below_drew1) | exact HB.out)) hb)
      replace HLA := Aside0.mk (And.intro HLA.out (hk2.1 : wv30.heap.size ≤ wv31.heap.size))
      (try clear hb)
      (try clear hkW)
      (try clear hk2)
      (try clear hkp)
      (try clear hoo0)
      (try clear hi0)
      (try clear ho0)
      refine hK.out _ _ (lk_t7 BK242.out (lk_e2 BK243.out)) (fun hHeld => ?_)
      clear hK K
      refine norm_ (a' := ?_) ?_ ?_
      rotate_left
      · show Act.put _ (some 84) _ = _
        simp only [Act.put, List.setIfInBounds_toArray, List.set_cons_zero, List.set_cons_succ, i64_w, i32_w]
        rfl
      refine pure_ (i := 5) (N := some 79) (v := ?_) (a' := ?_) #[true, true, true, true, true, true, false, false, true, false, false] rfl rfl (by kernel_rfl) (fun _ _ _ h => h) (Or.inl ⟨by rfl, ?_⟩) ?_ ?_
      rotate_left
      · intro w'
        go_simp
        with_reducible rfl
      rotate_left
      · simp only [Act.put, List.setIfInBounds_toArray, List.set_cons_zero, List.set_cons_succ, i64_w, i32_w]
        rfl
      refine pure_ (i := 6) (N := some 85) (v := ?_) (a' := ?_) #[true, true, true, true, true, true, true, false, true, false, false] rfl rfl (by kernel_rfl) (fun _ _ _ h => h) (Or.inl ⟨by rfl, ?_⟩) ?_ ?_
      rotate_left
      · intro w'
        go_simp
        with_reducible rfl
      rotate_left
      · simp only [Act.put, List.setIfInBounds_toArray, List.set_cons_zero, List.set_cons_succ, i64_w, i32_w]
        rfl
      refine pure_ (i := 7) (N := some 86) (v := ?_) (a' := ?_) #[true, true, true, true, true, true, true, true, true, false, false] rfl rfl (by kernel_rfl) (fun _ _ _ h => h) (Or.inl ⟨by rfl, ?_⟩) ?_ ?_
      rotate_left
      · intro w'
        go_simp
        with_reducible rfl
      rotate_left
      · simp only [Act.put, List.setIfInBounds_toArray, List.set_cons_zero, List.set_cons_succ, i64_w, i32_w]
        rfl
      exact norm_ (by simp only [putAll, Act.put, List.setIfInBounds_toArray, List.set_cons_zero, List.set_cons_succ]) (hCont (okq25_, Aq25_, cq25_, okq26_, Aq26_, cq26_, gb328) _ ⟨HOq4_.out, HOq5_.out, HOq8_.out, HOq11_.out, HOq17_.out, BK242.out, BK243.out, BK266.out, BK276.out, BK289.out, HB.out, (by have z_ := HLA.out; omega), HOq25_.out, (fun k_ hk_ => by have i_ := HIq25_.out k_ hk_; have g0_ := HG328.out; have z_ := HLA.out; (try dsimp only); first | omega | (refine ⟨?_, ?_⟩ <;> omega) | (refine ⟨⟨?_, ?_⟩, ?_⟩ <;> omega) | (refine ⟨⟨?_, ?_⟩, ?_, ?_⟩ <;> omega)), HOq26_.out, (fun k_ hk_ => by have i_ := HIq26_.out k_ hk_; have g0_ := HG328.out; have z_ := HLA.out; (try dsimp only); first | omega | (refine ⟨?_, ?_⟩ <;> omega) | (refine ⟨⟨?_, ?_⟩, ?_⟩ <;> omega) | (refine ⟨⟨?_, ?_⟩, ?_, ?_⟩ <;> omega)), (fun k_ h1_ h2_ => by have i_ := HIq25_.out k_ h1_; have j_ := HIq26_.out k_ h2_; have z_ := HLA.out; omega), BK328.out, (by have g_ := HG328.out; have z_ := HLA.out; (try dsimp only); first | omega | (refine ⟨?_, ?_⟩ <;> omega) | (refine ⟨⟨?_, ?_⟩, ?_⟩ <;> omega) | (refine ⟨⟨?_, ?_⟩, ?_, ?_⟩ <;> omega)), GE328.out⟩)
    skip
    refine box_step ?hg (N := 14) ?hd (cs := #[.int .i64 0, .int .i64 0, .int .i64 0, .int .i64 0, .int .i64 0, .slice none 0 0, .int .i64 0]) (t := 31) ?hr ?_
    (case hd => rfl)
    (case hg => rfl)
    (case hr => first | (go_simp; done) | (go_simp; rfl))
    intro gb328 hg wv28 hbox hb
    have BK328 := Aside0.mk (hbox)
    have GE328 := Aside0.mk ((by rw [hg]; exact Nat.le_trans HB.out.size ((Kept.refl wv27 (fun _ => False))).1 : w.heap.size ≤ gb328))
    have HG328 := Aside0.mk ((⟨by rw [hg]; exact ((Kept.refl wv27 (fun _ => False))).1, blk_lt hbox⟩ : wv27.heap.size ≤ gb328 ∧ gb328 < wv28.heap.size))
    replace HOq4_ := Aside0.mk (Kd.R_below HOq4_.out hb)
    replace HOq5_ := Aside0.mk (Kd.R_below HOq5_.out hb)
    replace HOq8_ := Aside0.mk (Kd.R_below HOq8_.out hb)
    replace HOq11_ := Aside0.mk (Kd.R_below HOq11_.out hb)
    replace HOq17_ := Aside0.mk (Kd.R_below HOq17_.out hb)
    replace BK242 := Aside0.mk (blk_below BK242.out hb)
    replace BK243 := Aside0.mk (blk_below BK243.out hb)
    replace BK266 := Aside0.mk (blk_below BK266.out hb)
    replace BK276 := Aside0.mk (blk_below BK276.out hb)
    replace BK289 := Aside0.mk (blk_below BK289.out hb)
    replace HB := Aside0.mk (below_step HB.out hb)
    replace HLA := Aside0.mk (And.intro HLA.out ((Kept.below (Kept.refl wv27 (fun _ => False)) hb).1 : wv27.heap.size ≤ wv28.heap.size))
    clear hb hbox hg
    refine hK.out _ _ (lk_t7 BK242.out (lk_e2 BK243.out)) (fun hHeld => ?_)
    clear hK K
    refine norm_ (a' := ?_) ?_ ?_
    rotate_left
    · show Act.put _ (some 14) _ = _
      simp only [Act.put, List.setIfInBounds_toArray, List.set_cons_zero, List.set_cons_succ, i64_w, i32_w]
      rfl
    refine one_ (i := 1) (N := some 81) #[true, true, true, false, false, false, false, false, true, false, false] rfl rfl (by kernel_rfl) (by decide) (fun K hK => ?_)
    refine goes_ Try.func29 (by kernel_rfl) rfl #[.agg #[.int .i64 a0_0, .int .i64 a0_1, .int .i64 a0_2, .int .i64 a0_3, .int .i64 a0_4, .slice A0_5 l0_5.length c0_5, .int .i64 a0_6]] (by rfl) rfl rfl (by (try simp only [List.map_toArray, List.map_cons, List.map_nil]); first | done | rfl | (simp only [List.length_drop, List.length_take]; rfl)) ?_
    (with_reducible refine (laws_toKeeperHost.calls k a0_0 a0_1 a0_2 a0_3 a0_4 _ _ l0_5 a0_6 t307 t308 t309 t310 t311 t312 t315 _ ?side1 ?side2 A25.out).mono ?_)
    (case side1 => exact Kd.C_below HR0_5.out (by repeat (first | (with_reducible first | exact HB.out | apply below_alloc | apply pw_below_drewN | apply below_drew1) | exact HB.out)))
    (case side2 => exact HC0_5.out)
    rintro e wv29 ⟨vq25_, rfl, ho0, hb⟩
    refine ⟨_, rfl, ?_⟩
    have hkW := (Kept.refl wv28 (fun _ => False))
    have hk2 := Kept.below hkW hb
    obtain ⟨Aq25_, cq25_, rfl⟩ := Kd.R_slice ho0
    obtain ⟨okq25_, hoo0, hi0⟩ := lk_R ho0 (a := wv28.heap.size) (b := w.heap.size) hkW.1 (Nat.le_trans HB.out.size hkW.1)
    have HOq25_ := Aside0.mk (hoo0)
    have HIq25_ := Aside0.mk (hi0)
    replace HOq4_ := Aside0.mk (Kd.R_below HOq4_.out hb)
    replace HOq5_ := Aside0.mk (Kd.R_below HOq5_.out hb)
    replace HOq8_ := Aside0.mk (Kd.R_below HOq8_.out hb)
    replace HOq11_ := Aside0.mk (Kd.R_below HOq11_.out hb)
    replace HOq17_ := Aside0.mk (Kd.R_below HOq17_.out hb)
    replace BK242 := Aside0.mk (blk_below BK242.out hb)
    replace BK243 := Aside0.mk (blk_below BK243.out hb)
    replace BK266 := Aside0.mk (blk_below BK266.out hb)
    replace BK276 := Aside0.mk (blk_below BK276.out hb)
    replace BK289 := Aside0.mk (blk_below BK289.out hb)
    replace BK328 := Aside0.mk (blk_below BK328.out hb)
    replace HB := Aside0.mk (below_step (by repeat (first | (with_reducible first | exact HB.out | apply below_alloc | apply pw_below_drewN | apply below_drew1) | exact HB.out)) hb)
    replace HLA := Aside0.mk (And.intro HLA.out (hk2.1 : wv28.heap.size ≤ wv29.heap.size))
    (try clear hb)
    (try clear hkW)
    (try clear hk2)
    (try clear hkp)
    (try clear hoo0)
    (try clear hi0)
    (try clear ho0)
    refine hK.out _ _ (lk_t7 BK242.out (lk_e2 BK243.out)) (fun hHeld => ?_)
    clear hK K
    refine norm_ (a' := ?_) ?_ ?_
    rotate_left
    · show Act.put _ (some 81) _ = _
      simp only [Act.put, List.setIfInBounds_toArray, List.set_cons_zero, List.set_cons_succ, i64_w, i32_w]
      rfl
    refine one_ (i := 3) (N := some 83) #[true, true, true, true, false, false, false, false, true, false, false] rfl rfl (by kernel_rfl) (by decide) (fun K hK => ?_)
    refine goes_ Try.func34 (by kernel_rfl) rfl #[.agg #[.int .i64 a1_0, .int .i64 a1_1]] (by rfl) rfl rfl (by (try simp only [List.map_toArray, List.map_cons, List.map_nil]); first | done | rfl | (simp only [List.length_drop, List.length_take]; rfl)) ?_
    (with_reducible refine (laws_toShare.calls a1_0 a1_1 t316 t317 _  A26.out).mono ?_)
    rintro e wv30 ⟨rfl, hb⟩
    refine ⟨_, rfl, ?_⟩
    have hkW := (Kept.refl wv29 (fun _ => False))
    have hk2 := Kept.below hkW hb
    replace HOq4_ := Aside0.mk (Kd.R_below HOq4_.out hb)
    replace HOq5_ := Aside0.mk (Kd.R_below HOq5_.out hb)
    replace HOq8_ := Aside0.mk (Kd.R_below HOq8_.out hb)
    replace HOq11_ := Aside0.mk (Kd.R_below HOq11_.out hb)
    replace HOq17_ := Aside0.mk (Kd.R_below HOq17_.out hb)
    replace HOq25_ := Aside0.mk (Kd.R_below HOq25_.out hb)
    replace BK242 := Aside0.mk (blk_below BK242.out hb)
    replace BK243 := Aside0.mk (blk_below BK243.out hb)
    replace BK266 := Aside0.mk (blk_below BK266.out hb)
    replace BK276 := Aside0.mk (blk_below BK276.out hb)
    replace BK289 := Aside0.mk (blk_below BK289.out hb)
    replace BK328 := Aside0.mk (blk_below BK328.out hb)
    replace HB := Aside0.mk (below_step (by repeat (first | (with_reducible first | exact HB.out | apply below_alloc | apply pw_below_drewN | apply below_drew1) | exact HB.out)) hb)
    replace HLA := Aside0.mk (And.intro HLA.out (hk2.1 : wv29.heap.size ≤ wv30.heap.size))
    (try clear hb)
    (try clear hkW)
    (try clear hk2)
    (try clear hkp)
    refine hK.out _ _ (lk_t7 BK242.out (lk_e2 BK243.out)) (fun hHeld => ?_)
    clear hK K
    refine norm_ (a' := ?_) ?_ ?_
    rotate_left
    · show Act.put _ (some 83) _ = _
      simp only [Act.put, List.setIfInBounds_toArray, List.set_cons_zero, List.set_cons_succ, i64_w, i32_w]
      rfl
    refine one_ (i := 4) (N := some 84) #[true, true, true, true, true, false, false, false, true, false, false] rfl rfl (by kernel_rfl) (by decide) (fun K hK => ?_)
    refine goes_ Try.func35 (by kernel_rfl) rfl #[.agg #[.int .i64 t307, .int .i64 t308, .int .i64 t309, .int .i64 t310, .int .i64 t311, .slice Aq25_ t312.length cq25_, .int .i64 t315], .agg #[.int .i64 t316, .int .i64 t317]] (by rfl) rfl rfl (by (try simp only [List.map_toArray, List.map_cons, List.map_nil]); first | done | rfl | (simp only [List.length_drop, List.length_take]; rfl)) ?_
    (with_reducible refine (impl_ResetGuesses.calls t307 t308 t309 t310 t311 _ _ t312 t315 t316 t317 t318 t319 t320 t321 t322 t323 t326 t327 _ ?side1 ?side2 A27.out).mono ?_)
    (case side1 => exact (Kd.R_reads' HOq25_.out).2.2)
    (case side2 => have h1_ := (Kd.R_reads' HOq25_.out).1; have h2_ := (Kd.R_reads' HOq25_.out).2.1; omega)
    rintro e wv31 ⟨vq26_, rfl, ho0, hb⟩
    refine ⟨_, rfl, ?_⟩
    have hkW := (Kept.refl wv30 (fun _ => False))
    have hk2 := Kept.below hkW hb
    obtain ⟨Aq26_, cq26_, rfl⟩ := Kd.R_slice ho0
    obtain ⟨okq26_, hoo0, hi0⟩ := lk_R ho0 (a := wv30.heap.size) (b := w.heap.size) hkW.1 (Nat.le_trans HB.out.size hkW.1)
    have HOq26_ := Aside0.mk (hoo0)
    have HIq26_ := Aside0.mk (hi0)
    replace HOq4_ := Aside0.mk (Kd.R_below HOq4_.out hb)
    replace HOq5_ := Aside0.mk (Kd.R_below HOq5_.out hb)
    replace HOq8_ := Aside0.mk (Kd.R_below HOq8_.out hb)
    replace HOq11_ := Aside0.mk (Kd.R_below HOq11_.out hb)
    replace HOq17_ := Aside0.mk (Kd.R_below HOq17_.out hb)
    replace HOq25_ := Aside0.mk (Kd.R_below HOq25_.out hb)
    replace BK242 := Aside0.mk (blk_below BK242.out hb)
    replace BK243 := Aside0.mk (blk_below BK243.out hb)
    replace BK266 := Aside0.mk (blk_below BK266.out hb)
    replace BK276 := Aside0.mk (blk_below BK276.out hb)
    replace BK289 := Aside0.mk (blk_below BK289.out hb)
    replace BK328 := Aside0.mk (blk_below BK328.out hb)
    replace HB := Aside0.mk (below_step (by repeat (first | (with_reducible first | exact HB.out | apply below_alloc | apply pw_below_drewN | apply below_drew1) | exact HB.out)) hb)
    replace HLA := Aside0.mk (And.intro HLA.out (hk2.1 : wv30.heap.size ≤ wv31.heap.size))
    (try clear hb)
    (try clear hkW)
    (try clear hk2)
    (try clear hkp)
    (try clear hoo0)
    (try clear hi0)
    (try clear ho0)
    refine hK.out _ _ (lk_t7 BK242.out (lk_e2 BK243.out)) (fun hHeld => ?_)
    clear hK K
    refine norm_ (a' := ?_) ?_ ?_
    rotate_left
    · show Act.put _ (some 84) _ = _
      simp only [Act.put, List.setIfInBounds_toArray, List.set_cons_zero, List.set_cons_succ, i64_w, i32_w]
      rfl
    refine pure_ (i := 5) (N := some 79) (v := ?_) (a' := ?_) #[true, true, true, true, true, true, false, false, true, false, false] rfl rfl (by kernel_rfl) (fun _ _ _ h => h) (Or.inl ⟨by rfl, ?_⟩) ?_ ?_
    rotate_left
    · intro w'
      go_simp
      with_reducible rfl
    rotate_left
    · simp only [Act.put, List.setIfInBounds_toArray, List.set_cons_zero, List.set_cons_succ, i64_w, i32_w]
      rfl
    refine pure_ (i := 6) (N := some 85) (v := ?_) (a' := ?_) #[true, true, true, true, true, true, true, false, true, false, false] rfl rfl (by kernel_rfl) (fun _ _ _ h => h) (Or.inl ⟨by rfl, ?_⟩) ?_ ?_
    rotate_left
    · intro w'
      go_simp
      with_reducible rfl
    rotate_left
    · simp only [Act.put, List.setIfInBounds_toArray, List.set_cons_zero, List.set_cons_succ, i64_w, i32_w]
      rfl
    refine pure_ (i := 7) (N := some 86) (v := ?_) (a' := ?_) #[true, true, true, true, true, true, true, true, true, false, false] rfl rfl (by kernel_rfl) (fun _ _ _ h => h) (Or.inl ⟨by rfl, ?_⟩) ?_ ?_
    rotate_left
    · intro w'
      go_simp
      with_reducible rfl
    rotate_left
    · simp only [Act.put, List.setIfInBounds_toArray, List.set_cons_zero, List.set_cons_succ, i64_w, i32_w]
      rfl
    exact norm_ (by simp only [putAll, Act.put, List.setIfInBounds_toArray, List.set_cons_zero, List.set_cons_succ]) (hCont (okq25_, Aq25_, cq25_, okq26_, Aq26_, cq26_, gb328) _ ⟨HOq4_.out, HOq5_.out, HOq8_.out, HOq11_.out, HOq17_.out, BK242.out, BK243.out, BK266.out, BK276.out, BK289.out, HB.out, (by have z_ := HLA.out; omega), HOq25_.out, (fun k_ hk_ => by have i_ := HIq25_.out k_ hk_; have g0_ := HG328.out; have z_ := HLA.out; (try dsimp only); first | omega | (refine ⟨?_, ?_⟩ <;> omega) | (refine ⟨⟨?_, ?_⟩, ?_⟩ <;> omega) | (refine ⟨⟨?_, ?_⟩, ?_, ?_⟩ <;> omega)), HOq26_.out, (fun k_ hk_ => by have i_ := HIq26_.out k_ hk_; have g0_ := HG328.out; have z_ := HLA.out; (try dsimp only); first | omega | (refine ⟨?_, ?_⟩ <;> omega) | (refine ⟨⟨?_, ?_⟩, ?_⟩ <;> omega) | (refine ⟨⟨?_, ?_⟩, ?_, ?_⟩ <;> omega)), (fun k_ h1_ h2_ => by have i_ := HIq25_.out k_ h1_; have j_ := HIq26_.out k_ h2_; have z_ := HLA.out; omega), BK328.out, (by have g_ := HG328.out; have z_ := HLA.out; (try dsimp only); first | omega | (refine ⟨?_, ?_⟩ <;> omega) | (refine ⟨⟨?_, ?_⟩, ?_⟩ <;> omega) | (refine ⟨⟨?_, ?_⟩, ?_, ?_⟩ <;> omega)), GE328.out⟩)
  rintro ⟨okq27_, Aq27_, cq27_, okq28_, Aq28_, cq28_, gm328⟩ wv32 ⟨f0_, f1_, f2_, f3_, f4_, f5_, f6_, f7_, f8_, f9_, f10_, f11_, f12_, f13_, f14_, f15_, f16_, f17_, f18_, f19_⟩
  replace HOq4_ := Aside0.mk (show Kd.R k28 28 wv32 w.heap.size okq4_ (.slice Aq4_ t250.length cq4_) t250 from f0_)
  replace HOq5_ := Aside0.mk (show Kd.R k28 28 wv32 w.heap.size okq5_ (.slice Aq5_ t261.length cq5_) t261 from f1_)
  replace HOq8_ := Aside0.mk (show Kd.R k28 28 wv32 w.heap.size okq8_ (.slice Aq8_ t272.length cq8_) t302 from f2_)
  replace HOq11_ := Aside0.mk (show Kd.R k28 28 wv32 w.heap.size okq11_ (.slice Aq11_ t284.length cq11_) t305 from f3_)
  replace HOq17_ := Aside0.mk (show Kd.R k28 28 wv32 w.heap.size okq17_ (.slice Aq17_ t296.length cq17_) t296 from f4_)
  replace BK242 := Aside0.mk (show wv32.heap[gb242]? = some (Obj.cells #[.int .i64 a0_0, .int .i64 a0_1, .int .i64 a0_2, .int .i64 a0_3, .int .i64 a0_4, .slice A0_5 l0_5.length c0_5, .int .i64 a0_6] 50 (0, 0)) from f5_)
  replace BK243 := Aside0.mk (show wv32.heap[gb243]? = some (Obj.cells #[.int .i64 a1_0, .int .i64 a1_1] 42 (0, 0)) from f6_)
  replace BK266 := Aside0.mk (show wv32.heap[gm266]? = some (Obj.cells #[.int .i64 t256, .int .i64 t257, .int .i64 t258, .int .i64 t259, .int .i64 t260, .slice Aq5_ t261.length cq5_, .int .i64 t264] 31 (0, 0)) from f7_)
  replace BK276 := Aside0.mk (show wv32.heap[gb276]? = some (Obj.cells #[.int .i64 t267, .int .i64 t268, .int .i64 t269, .int .i64 t270, .int .i64 t271, .slice Aq8_ t272.length cq8_, .int .i64 t275] 31 (0, 0)) from f8_)
  replace BK289 := Aside0.mk (show wv32.heap[gm289]? = some (Obj.cells #[.int .i64 t279, .int .i64 t280, .int .i64 t281, .int .i64 t282, .int .i64 t283, .slice Aq11_ t284.length cq11_, .int .i64 t287] 31 (0, 0)) from f9_)
  replace HB := Aside0.mk (show Below w.heap.size w wv32 from f10_)
  replace HLA := Aside0.mk (And.intro HLA.out (show wv27.heap.size ≤ wv32.heap.size from f11_))
  have HOq27_ := Aside0.mk (show Kd.R k28 28 wv32 w.heap.size okq27_ (.slice Aq27_ t312.length cq27_) t312 from f12_)
  have HIq27_ := Aside0.mk (show ∀ k_, okq27_ k_ → (wv27.heap.size ≤ k_ ∧ k_ < wv32.heap.size) ∧ k_ ≠ gm328 from f13_)
  have HOq28_ := Aside0.mk (show Kd.R k28 28 wv32 w.heap.size okq28_ (.slice Aq28_ t323.length cq28_) t323 from f14_)
  have HIq28_ := Aside0.mk (show ∀ k_, okq28_ k_ → (wv27.heap.size ≤ k_ ∧ k_ < wv32.heap.size) ∧ k_ ≠ gm328 from f15_)
  have HFq27__q28_ := Aside0.mk (show ∀ k_, okq27_ k_ → ¬ okq28_ k_ from f16_)
  have BK328 := Aside0.mk (show wv32.heap[gm328]? = some (Obj.cells #[.int .i64 0, .int .i64 0, .int .i64 0, .int .i64 0, .int .i64 0, .slice none 0 0, .int .i64 0] 31 (0, 0)) from f17_)
  have HG328 := Aside0.mk (show wv27.heap.size ≤ gm328 ∧ gm328 < wv32.heap.size from f18_)
  have GE328 := Aside0.mk (show w.heap.size ≤ gm328 from f19_)
  clear f0_ f1_ f2_ f3_ f4_ f5_ f6_ f7_ f8_ f9_ f10_ f11_ f12_ f13_ f14_ f15_ f16_ f17_ f18_ f19_
  have hHeld : wv32.cell? ⟨gb242, 0, none⟩ = some (.int .i64 a0_0) ∧ wv32.cell? ⟨gb242, 1, none⟩ = some (.int .i64 a0_1) ∧ wv32.cell? ⟨gb242, 2, none⟩ = some (.int .i64 a0_2) ∧ wv32.cell? ⟨gb242, 3, none⟩ = some (.int .i64 a0_3) ∧ wv32.cell? ⟨gb242, 4, none⟩ = some (.int .i64 a0_4) ∧ wv32.cell? ⟨gb242, 5, none⟩ = some (.slice A0_5 l0_5.length c0_5) ∧ wv32.cell? ⟨gb242, 6, none⟩ = some (.int .i64 a0_6) ∧ wv32.cell? ⟨gb243, 0, none⟩ = some (.int .i64 a1_0) ∧ wv32.cell? ⟨gb243, 1, none⟩ = some (.int .i64 a1_1) := lk_t7 BK242.out (lk_e2 BK243.out)
  refine norm_ (a' := ?_) ?_ ?_
  rotate_left
  · simp only [putAll, Act.put, List.setIfInBounds_toArray, List.set_cons_zero, List.set_cons_succ]
    rfl
  refine one_ (i := 9) (N := none) #[true, true, true, true, true, true, true, true, true, true, false] rfl rfl (by kernel_rfl) (by decide) (fun K hK => ?_)
  have hcz29_0 : wv32.cell? ⟨gm328, 0, none⟩ = some (.int .i64 0) := (blk_cell BK328.out 0).trans rfl
  have hcz29_f0 := blk_frozen BK328.out 0
  have hcz29_1 : wv32.cell? ⟨gm328, 1, none⟩ = some (.int .i64 0) := (blk_cell BK328.out 1).trans rfl
  have hcz29_f1 := blk_frozen BK328.out 1
  have hcz29_2 : wv32.cell? ⟨gm328, 2, none⟩ = some (.int .i64 0) := (blk_cell BK328.out 2).trans rfl
  have hcz29_f2 := blk_frozen BK328.out 2
  have hcz29_3 : wv32.cell? ⟨gm328, 3, none⟩ = some (.int .i64 0) := (blk_cell BK328.out 3).trans rfl
  have hcz29_f3 := blk_frozen BK328.out 3
  have hcz29_4 : wv32.cell? ⟨gm328, 4, none⟩ = some (.int .i64 0) := (blk_cell BK328.out 4).trans rfl
  have hcz29_f4 := blk_frozen BK328.out 4
  have hcz29_5 : wv32.cell? ⟨gm328, 5, none⟩ = some (.slice none 0 0) := (blk_cell BK328.out 5).trans rfl
  have hcz29_f5 := blk_frozen BK328.out 5
  have hcz29_6 : wv32.cell? ⟨gm328, 6, none⟩ = some (.int .i64 0) := (blk_cell BK328.out 6).trans rfl
  have hcz29_f6 := blk_frozen BK328.out 6
  refine skip_ (w1 := ?_) (by rfl) rfl ?_ ?_
  rotate_left
  · go_simp
    rfl
  refine hK.out _ _ (lk_t7 (blk_kept BK242.out (show Kept wv32 (((((((wv32.setCell ⟨gm328, 0, none⟩ (.int .i64 t318)).setCell ⟨gm328, 1, none⟩ (.int .i64 t319)).setCell ⟨gm328, 2, none⟩ (.int .i64 t320)).setCell ⟨gm328, 3, none⟩ (.int .i64 t321)).setCell ⟨gm328, 4, none⟩ (.int .i64 t322)).setCell ⟨gm328, 5, none⟩ (.slice Aq28_ t323.length cq28_)).setCell ⟨gm328, 6, none⟩ (.int .i64 t326)) (fun k_ => k_ = gm328) from by repeat (first | (with_reducible first | exact Kept.refl _ _ | apply Kept.alloc | apply Kept.drewN | apply Kept.drew) | refine Kept.setCell ?_ (.inl (by first | exact rfl | exact .inl rfl | exact .inr rfl | exact .inr (.inl rfl) | exact .inr (.inr rfl))) _ | exact Kept.refl _ _)) (fun hs_ => by have hs2_ : gb242 = gm328 := hs_; have g_ := HG242.out; have g0_ := HG328.out; have z_ := HLA.out; omega)) (lk_e2 (blk_kept BK243.out (show Kept wv32 (((((((wv32.setCell ⟨gm328, 0, none⟩ (.int .i64 t318)).setCell ⟨gm328, 1, none⟩ (.int .i64 t319)).setCell ⟨gm328, 2, none⟩ (.int .i64 t320)).setCell ⟨gm328, 3, none⟩ (.int .i64 t321)).setCell ⟨gm328, 4, none⟩ (.int .i64 t322)).setCell ⟨gm328, 5, none⟩ (.slice Aq28_ t323.length cq28_)).setCell ⟨gm328, 6, none⟩ (.int .i64 t326)) (fun k_ => k_ = gm328) from by repeat (first | (with_reducible first | exact Kept.refl _ _ | apply Kept.alloc | apply Kept.drewN | apply Kept.drew) | refine Kept.setCell ?_ (.inl (by first | exact rfl | exact .inl rfl | exact .inr rfl | exact .inr (.inl rfl) | exact .inr (.inr rfl))) _ | exact Kept.refl _ _)) (fun hs_ => by have hs2_ : gb243 = gm328 := hs_; have g_ := HG243.out; have g0_ := HG328.out; have z_ := HLA.out; omega)))) (fun hHeld => ?_)
  clear hK K
  refine pure_ (i := 10) (N := some 15) (v := ?_) (a' := ?_) #[true, true, true, true, true, true, true, true, true, true, true] rfl rfl (by kernel_rfl) (fun _ _ _ h => h) (Or.inl ⟨by rfl, ?_⟩) ?_ ?_
  rotate_left
  · intro w'
    go_simp
    with_reducible rfl
  rotate_left
  · simp only [Act.put, List.setIfInBounds_toArray, List.set_cons_zero, List.set_cons_succ, i64_w, i32_w]
    rfl
  refine done_ (by kernel_rfl) ?_
  (try clear hHeld)
  replace HOq4_ := Aside0.mk (Kd.R_kept HOq4_.out (show Kept wv32 (((((((wv32.setCell ⟨gm328, 0, none⟩ (.int .i64 t318)).setCell ⟨gm328, 1, none⟩ (.int .i64 t319)).setCell ⟨gm328, 2, none⟩ (.int .i64 t320)).setCell ⟨gm328, 3, none⟩ (.int .i64 t321)).setCell ⟨gm328, 4, none⟩ (.int .i64 t322)).setCell ⟨gm328, 5, none⟩ (.slice Aq28_ t323.length cq28_)).setCell ⟨gm328, 6, none⟩ (.int .i64 t326)) (fun k_ => k_ = gm328) from by repeat (first | (with_reducible first | exact Kept.refl _ _ | apply Kept.alloc | apply Kept.drewN | apply Kept.drew) | refine Kept.setCell ?_ (.inl (by first | exact rfl | exact .inl rfl | exact .inr rfl | exact .inr (.inl rfl) | exact .inr (.inr rfl))) _ | exact Kept.refl _ _)) (fun k_ hk_ hs_ => by have i_ := HIq4_.out k_ hk_; have hs2_ : k_ = gm328 := hs_; have g0_ := HG328.out; have z_ := HLA.out; omega))
  replace HOq5_ := Aside0.mk (Kd.R_kept HOq5_.out (show Kept wv32 (((((((wv32.setCell ⟨gm328, 0, none⟩ (.int .i64 t318)).setCell ⟨gm328, 1, none⟩ (.int .i64 t319)).setCell ⟨gm328, 2, none⟩ (.int .i64 t320)).setCell ⟨gm328, 3, none⟩ (.int .i64 t321)).setCell ⟨gm328, 4, none⟩ (.int .i64 t322)).setCell ⟨gm328, 5, none⟩ (.slice Aq28_ t323.length cq28_)).setCell ⟨gm328, 6, none⟩ (.int .i64 t326)) (fun k_ => k_ = gm328) from by repeat (first | (with_reducible first | exact Kept.refl _ _ | apply Kept.alloc | apply Kept.drewN | apply Kept.drew) | refine Kept.setCell ?_ (.inl (by first | exact rfl | exact .inl rfl | exact .inr rfl | exact .inr (.inl rfl) | exact .inr (.inr rfl))) _ | exact Kept.refl _ _)) (fun k_ hk_ hs_ => by have i_ := HIq5_.out k_ hk_; have hs2_ : k_ = gm328 := hs_; have g0_ := HG328.out; have z_ := HLA.out; omega))
  replace HOq8_ := Aside0.mk (Kd.R_kept HOq8_.out (show Kept wv32 (((((((wv32.setCell ⟨gm328, 0, none⟩ (.int .i64 t318)).setCell ⟨gm328, 1, none⟩ (.int .i64 t319)).setCell ⟨gm328, 2, none⟩ (.int .i64 t320)).setCell ⟨gm328, 3, none⟩ (.int .i64 t321)).setCell ⟨gm328, 4, none⟩ (.int .i64 t322)).setCell ⟨gm328, 5, none⟩ (.slice Aq28_ t323.length cq28_)).setCell ⟨gm328, 6, none⟩ (.int .i64 t326)) (fun k_ => k_ = gm328) from by repeat (first | (with_reducible first | exact Kept.refl _ _ | apply Kept.alloc | apply Kept.drewN | apply Kept.drew) | refine Kept.setCell ?_ (.inl (by first | exact rfl | exact .inl rfl | exact .inr rfl | exact .inr (.inl rfl) | exact .inr (.inr rfl))) _ | exact Kept.refl _ _)) (fun k_ hk_ hs_ => by have i_ := HIq8_.out k_ hk_; have hs2_ : k_ = gm328 := hs_; have g0_ := HG328.out; have z_ := HLA.out; omega))
  replace HOq11_ := Aside0.mk (Kd.R_kept HOq11_.out (show Kept wv32 (((((((wv32.setCell ⟨gm328, 0, none⟩ (.int .i64 t318)).setCell ⟨gm328, 1, none⟩ (.int .i64 t319)).setCell ⟨gm328, 2, none⟩ (.int .i64 t320)).setCell ⟨gm328, 3, none⟩ (.int .i64 t321)).setCell ⟨gm328, 4, none⟩ (.int .i64 t322)).setCell ⟨gm328, 5, none⟩ (.slice Aq28_ t323.length cq28_)).setCell ⟨gm328, 6, none⟩ (.int .i64 t326)) (fun k_ => k_ = gm328) from by repeat (first | (with_reducible first | exact Kept.refl _ _ | apply Kept.alloc | apply Kept.drewN | apply Kept.drew) | refine Kept.setCell ?_ (.inl (by first | exact rfl | exact .inl rfl | exact .inr rfl | exact .inr (.inl rfl) | exact .inr (.inr rfl))) _ | exact Kept.refl _ _)) (fun k_ hk_ hs_ => by have i_ := HIq11_.out k_ hk_; have hs2_ : k_ = gm328 := hs_; have g0_ := HG328.out; have z_ := HLA.out; omega))
  replace HOq17_ := Aside0.mk (Kd.R_kept HOq17_.out (show Kept wv32 (((((((wv32.setCell ⟨gm328, 0, none⟩ (.int .i64 t318)).setCell ⟨gm328, 1, none⟩ (.int .i64 t319)).setCell ⟨gm328, 2, none⟩ (.int .i64 t320)).setCell ⟨gm328, 3, none⟩ (.int .i64 t321)).setCell ⟨gm328, 4, none⟩ (.int .i64 t322)).setCell ⟨gm328, 5, none⟩ (.slice Aq28_ t323.length cq28_)).setCell ⟨gm328, 6, none⟩ (.int .i64 t326)) (fun k_ => k_ = gm328) from by repeat (first | (with_reducible first | exact Kept.refl _ _ | apply Kept.alloc | apply Kept.drewN | apply Kept.drew) | refine Kept.setCell ?_ (.inl (by first | exact rfl | exact .inl rfl | exact .inr rfl | exact .inr (.inl rfl) | exact .inr (.inr rfl))) _ | exact Kept.refl _ _)) (fun k_ hk_ hs_ => by have i_ := HIq17_.out k_ hk_; have hs2_ : k_ = gm328 := hs_; have g0_ := HG328.out; have z_ := HLA.out; omega))
  replace HOq27_ := Aside0.mk (Kd.R_kept HOq27_.out (show Kept wv32 (((((((wv32.setCell ⟨gm328, 0, none⟩ (.int .i64 t318)).setCell ⟨gm328, 1, none⟩ (.int .i64 t319)).setCell ⟨gm328, 2, none⟩ (.int .i64 t320)).setCell ⟨gm328, 3, none⟩ (.int .i64 t321)).setCell ⟨gm328, 4, none⟩ (.int .i64 t322)).setCell ⟨gm328, 5, none⟩ (.slice Aq28_ t323.length cq28_)).setCell ⟨gm328, 6, none⟩ (.int .i64 t326)) (fun k_ => k_ = gm328) from by repeat (first | (with_reducible first | exact Kept.refl _ _ | apply Kept.alloc | apply Kept.drewN | apply Kept.drew) | refine Kept.setCell ?_ (.inl (by first | exact rfl | exact .inl rfl | exact .inr rfl | exact .inr (.inl rfl) | exact .inr (.inr rfl))) _ | exact Kept.refl _ _)) (fun k_ hk_ hs_ => by have i_ := HIq27_.out k_ hk_; have hs2_ : k_ = gm328 := hs_; have g0_ := HG328.out; have z_ := HLA.out; omega))
  replace HOq28_ := Aside0.mk (Kd.R_kept HOq28_.out (show Kept wv32 (((((((wv32.setCell ⟨gm328, 0, none⟩ (.int .i64 t318)).setCell ⟨gm328, 1, none⟩ (.int .i64 t319)).setCell ⟨gm328, 2, none⟩ (.int .i64 t320)).setCell ⟨gm328, 3, none⟩ (.int .i64 t321)).setCell ⟨gm328, 4, none⟩ (.int .i64 t322)).setCell ⟨gm328, 5, none⟩ (.slice Aq28_ t323.length cq28_)).setCell ⟨gm328, 6, none⟩ (.int .i64 t326)) (fun k_ => k_ = gm328) from by repeat (first | (with_reducible first | exact Kept.refl _ _ | apply Kept.alloc | apply Kept.drewN | apply Kept.drew) | refine Kept.setCell ?_ (.inl (by first | exact rfl | exact .inl rfl | exact .inr rfl | exact .inr (.inl rfl) | exact .inr (.inr rfl))) _ | exact Kept.refl _ _)) (fun k_ hk_ hs_ => by have i_ := HIq28_.out k_ hk_; have hs2_ : k_ = gm328 := hs_; have g0_ := HG328.out; have z_ := HLA.out; omega))
  replace BK242 := Aside0.mk ((blk_kept BK242.out (show Kept wv32 (((((((wv32.setCell ⟨gm328, 0, none⟩ (.int .i64 t318)).setCell ⟨gm328, 1, none⟩ (.int .i64 t319)).setCell ⟨gm328, 2, none⟩ (.int .i64 t320)).setCell ⟨gm328, 3, none⟩ (.int .i64 t321)).setCell ⟨gm328, 4, none⟩ (.int .i64 t322)).setCell ⟨gm328, 5, none⟩ (.slice Aq28_ t323.length cq28_)).setCell ⟨gm328, 6, none⟩ (.int .i64 t326)) (fun k_ => k_ = gm328) from by repeat (first | (with_reducible first | exact Kept.refl _ _ | apply Kept.alloc | apply Kept.drewN | apply Kept.drew) | refine Kept.setCell ?_ (.inl (by first | exact rfl | exact .inl rfl | exact .inr rfl | exact .inr (.inl rfl) | exact .inr (.inr rfl))) _ | exact Kept.refl _ _)) (fun hs_ => by have hs2_ : gb242 = gm328 := hs_; have g_ := HG242.out; have g0_ := HG328.out; have z_ := HLA.out; omega)))
  replace BK243 := Aside0.mk ((blk_kept BK243.out (show Kept wv32 (((((((wv32.setCell ⟨gm328, 0, none⟩ (.int .i64 t318)).setCell ⟨gm328, 1, none⟩ (.int .i64 t319)).setCell ⟨gm328, 2, none⟩ (.int .i64 t320)).setCell ⟨gm328, 3, none⟩ (.int .i64 t321)).setCell ⟨gm328, 4, none⟩ (.int .i64 t322)).setCell ⟨gm328, 5, none⟩ (.slice Aq28_ t323.length cq28_)).setCell ⟨gm328, 6, none⟩ (.int .i64 t326)) (fun k_ => k_ = gm328) from by repeat (first | (with_reducible first | exact Kept.refl _ _ | apply Kept.alloc | apply Kept.drewN | apply Kept.drew) | refine Kept.setCell ?_ (.inl (by first | exact rfl | exact .inl rfl | exact .inr rfl | exact .inr (.inl rfl) | exact .inr (.inr rfl))) _ | exact Kept.refl _ _)) (fun hs_ => by have hs2_ : gb243 = gm328 := hs_; have g_ := HG243.out; have g0_ := HG328.out; have z_ := HLA.out; omega)))
  replace BK266 := Aside0.mk ((blk_kept BK266.out (show Kept wv32 (((((((wv32.setCell ⟨gm328, 0, none⟩ (.int .i64 t318)).setCell ⟨gm328, 1, none⟩ (.int .i64 t319)).setCell ⟨gm328, 2, none⟩ (.int .i64 t320)).setCell ⟨gm328, 3, none⟩ (.int .i64 t321)).setCell ⟨gm328, 4, none⟩ (.int .i64 t322)).setCell ⟨gm328, 5, none⟩ (.slice Aq28_ t323.length cq28_)).setCell ⟨gm328, 6, none⟩ (.int .i64 t326)) (fun k_ => k_ = gm328) from by repeat (first | (with_reducible first | exact Kept.refl _ _ | apply Kept.alloc | apply Kept.drewN | apply Kept.drew) | refine Kept.setCell ?_ (.inl (by first | exact rfl | exact .inl rfl | exact .inr rfl | exact .inr (.inl rfl) | exact .inr (.inr rfl))) _ | exact Kept.refl _ _)) (fun hs_ => by have hs2_ : gm266 = gm328 := hs_; have g_ := HG266.out; have g0_ := HG328.out; have z_ := HLA.out; omega)))
  replace BK276 := Aside0.mk ((blk_kept BK276.out (show Kept wv32 (((((((wv32.setCell ⟨gm328, 0, none⟩ (.int .i64 t318)).setCell ⟨gm328, 1, none⟩ (.int .i64 t319)).setCell ⟨gm328, 2, none⟩ (.int .i64 t320)).setCell ⟨gm328, 3, none⟩ (.int .i64 t321)).setCell ⟨gm328, 4, none⟩ (.int .i64 t322)).setCell ⟨gm328, 5, none⟩ (.slice Aq28_ t323.length cq28_)).setCell ⟨gm328, 6, none⟩ (.int .i64 t326)) (fun k_ => k_ = gm328) from by repeat (first | (with_reducible first | exact Kept.refl _ _ | apply Kept.alloc | apply Kept.drewN | apply Kept.drew) | refine Kept.setCell ?_ (.inl (by first | exact rfl | exact .inl rfl | exact .inr rfl | exact .inr (.inl rfl) | exact .inr (.inr rfl))) _ | exact Kept.refl _ _)) (fun hs_ => by have hs2_ : gb276 = gm328 := hs_; have g_ := HG276.out; have g0_ := HG328.out; have z_ := HLA.out; omega)))
  replace BK289 := Aside0.mk ((blk_kept BK289.out (show Kept wv32 (((((((wv32.setCell ⟨gm328, 0, none⟩ (.int .i64 t318)).setCell ⟨gm328, 1, none⟩ (.int .i64 t319)).setCell ⟨gm328, 2, none⟩ (.int .i64 t320)).setCell ⟨gm328, 3, none⟩ (.int .i64 t321)).setCell ⟨gm328, 4, none⟩ (.int .i64 t322)).setCell ⟨gm328, 5, none⟩ (.slice Aq28_ t323.length cq28_)).setCell ⟨gm328, 6, none⟩ (.int .i64 t326)) (fun k_ => k_ = gm328) from by repeat (first | (with_reducible first | exact Kept.refl _ _ | apply Kept.alloc | apply Kept.drewN | apply Kept.drew) | refine Kept.setCell ?_ (.inl (by first | exact rfl | exact .inl rfl | exact .inr rfl | exact .inr (.inl rfl) | exact .inr (.inr rfl))) _ | exact Kept.refl _ _)) (fun hs_ => by have hs2_ : gm289 = gm328 := hs_; have g_ := HG289.out; have g0_ := HG328.out; have z_ := HLA.out; omega)))
  replace BK328 := Aside0.mk ((show (((((((wv32.setCell ⟨gm328, 0, none⟩ (.int .i64 t318)).setCell ⟨gm328, 1, none⟩ (.int .i64 t319)).setCell ⟨gm328, 2, none⟩ (.int .i64 t320)).setCell ⟨gm328, 3, none⟩ (.int .i64 t321)).setCell ⟨gm328, 4, none⟩ (.int .i64 t322)).setCell ⟨gm328, 5, none⟩ (.slice Aq28_ t323.length cq28_)).setCell ⟨gm328, 6, none⟩ (.int .i64 t326)).heap[gm328]? = some (Obj.cells #[.int .i64 t318, .int .i64 t319, .int .i64 t320, .int .i64 t321, .int .i64 t322, .slice Aq28_ t323.length cq28_, .int .i64 t326] 31 (0, 0)) from by (with_reducible repeat (first | refine blk_drewN ?_ _ | refine blk_drew ?_ | refine blk_alloc ?_ _)); refine blk_put (cs := #[.int .i64 t318, .int .i64 t319, .int .i64 t320, .int .i64 t321, .int .i64 t322, .slice Aq28_ t323.length cq28_, .int .i64 0]) ?_ 6 _ rfl; (with_reducible repeat (first | refine blk_drewN ?_ _ | refine blk_drew ?_ | refine blk_alloc ?_ _)); refine blk_put (cs := #[.int .i64 t318, .int .i64 t319, .int .i64 t320, .int .i64 t321, .int .i64 t322, .slice none 0 0, .int .i64 0]) ?_ 5 _ rfl; (with_reducible repeat (first | refine blk_drewN ?_ _ | refine blk_drew ?_ | refine blk_alloc ?_ _)); refine blk_put (cs := #[.int .i64 t318, .int .i64 t319, .int .i64 t320, .int .i64 t321, .int .i64 0, .slice none 0 0, .int .i64 0]) ?_ 4 _ rfl; (with_reducible repeat (first | refine blk_drewN ?_ _ | refine blk_drew ?_ | refine blk_alloc ?_ _)); refine blk_put (cs := #[.int .i64 t318, .int .i64 t319, .int .i64 t320, .int .i64 0, .int .i64 0, .slice none 0 0, .int .i64 0]) ?_ 3 _ rfl; (with_reducible repeat (first | refine blk_drewN ?_ _ | refine blk_drew ?_ | refine blk_alloc ?_ _)); refine blk_put (cs := #[.int .i64 t318, .int .i64 t319, .int .i64 0, .int .i64 0, .int .i64 0, .slice none 0 0, .int .i64 0]) ?_ 2 _ rfl; (with_reducible repeat (first | refine blk_drewN ?_ _ | refine blk_drew ?_ | refine blk_alloc ?_ _)); refine blk_put (cs := #[.int .i64 t318, .int .i64 0, .int .i64 0, .int .i64 0, .int .i64 0, .slice none 0 0, .int .i64 0]) ?_ 1 _ rfl; (with_reducible repeat (first | refine blk_drewN ?_ _ | refine blk_drew ?_ | refine blk_alloc ?_ _)); refine blk_put (cs := #[.int .i64 0, .int .i64 0, .int .i64 0, .int .i64 0, .int .i64 0, .slice none 0 0, .int .i64 0]) ?_ 0 _ rfl; (with_reducible repeat (first | refine blk_drewN ?_ _ | refine blk_drew ?_ | refine blk_alloc ?_ _)); exact BK328.out))
  replace HB := Aside0.mk ((show Below w.heap.size w ((((((((wv32.setCell ⟨gm328, 0, none⟩ (.int .i64 t318)).setCell ⟨gm328, 1, none⟩ (.int .i64 t319)).setCell ⟨gm328, 2, none⟩ (.int .i64 t320)).setCell ⟨gm328, 3, none⟩ (.int .i64 t321)).setCell ⟨gm328, 4, none⟩ (.int .i64 t322)).setCell ⟨gm328, 5, none⟩ (.slice Aq28_ t323.length cq28_)).setCell ⟨gm328, 6, none⟩ (.int .i64 t326))) from by repeat (first | (with_reducible first | exact HB.out | apply below_alloc | apply pw_below_drewN | apply below_drew1 | refine below_set ?_ GE328.out) | exact HB.out)))
  replace HLA := Aside0.mk (And.intro HLA.out ((show Kept wv32 (((((((wv32.setCell ⟨gm328, 0, none⟩ (.int .i64 t318)).setCell ⟨gm328, 1, none⟩ (.int .i64 t319)).setCell ⟨gm328, 2, none⟩ (.int .i64 t320)).setCell ⟨gm328, 3, none⟩ (.int .i64 t321)).setCell ⟨gm328, 4, none⟩ (.int .i64 t322)).setCell ⟨gm328, 5, none⟩ (.slice Aq28_ t323.length cq28_)).setCell ⟨gm328, 6, none⟩ (.int .i64 t326)) (fun k_ => k_ = gm328) from by repeat (first | (with_reducible first | exact Kept.refl _ _ | apply Kept.alloc | apply Kept.drewN | apply Kept.drew) | refine Kept.setCell ?_ (.inl (by first | exact rfl | exact .inl rfl | exact .inr rfl | exact .inr (.inl rfl) | exact .inr (.inr rfl))) _ | exact Kept.refl _ _)).1 : wv32.heap.size ≤ ((((((((wv32.setCell ⟨gm328, 0, none⟩ (.int .i64 t318)).setCell ⟨gm328, 1, none⟩ (.int .i64 t319)).setCell ⟨gm328, 2, none⟩ (.int .i64 t320)).setCell ⟨gm328, 3, none⟩ (.int .i64 t321)).setCell ⟨gm328, 4, none⟩ (.int .i64 t322)).setCell ⟨gm328, 5, none⟩ (.slice Aq28_ t323.length cq28_)).setCell ⟨gm328, 6, none⟩ (.int .i64 t326))).heap.size))
  generalize (((((((wv32.setCell ⟨gm328, 0, none⟩ (.int .i64 t318)).setCell ⟨gm328, 1, none⟩ (.int .i64 t319)).setCell ⟨gm328, 2, none⟩ (.int .i64 t320)).setCell ⟨gm328, 3, none⟩ (.int .i64 t321)).setCell ⟨gm328, 4, none⟩ (.int .i64 t322)).setCell ⟨gm328, 5, none⟩ (.slice Aq28_ t323.length cq28_)).setCell ⟨gm328, 6, none⟩ (.int .i64 t326)) = wv33 at HOq4_ HOq5_ HOq8_ HOq11_ HOq17_ HOq27_ HOq28_ BK242 BK243 BK266 BK276 BK289 BK328 HB HLA ⊢
  obtain ⟨hcz30_0, hcz30_1, hcz30_2, hcz30_3, hcz30_4, hcz30_5, hcz30_6, hcz30_f0, hcz30_f1, hcz30_f2, hcz30_f3, hcz30_f4, hcz30_f5, hcz30_f6⟩ := lk_c7 BK328.out
  obtain ⟨hcz31_0, hcz31_1, hcz31_2, hcz31_3, hcz31_4, hcz31_5, hcz31_6, hcz31_f0, hcz31_f1, hcz31_f2, hcz31_f3, hcz31_f4, hcz31_f5, hcz31_f6⟩ := lk_c7 BK266.out
  have hnb32_ : gm328 ≠ gm266 := (by have g1_ := HG328.out; have g2_ := HG266.out; have z_ := HLA.out; omega)
  have hnb33_ : gm266 ≠ gm328 := (by have g1_ := HG266.out; have g2_ := HG328.out; have z_ := HLA.out; omega)
  go_wp2_with (first | ((with_reducible refine gate_callee (f := 30) rfl ?_); refine goesL_ (some 89) rfl rfl Try.func30 (by kernel_rfl) rfl #[.agg #[.int .i64 t318, .int .i64 t319, .int .i64 t320, .int .i64 t321, .int .i64 t322, .slice Aq28_ t323.length cq28_, .int .i64 t326], .agg #[.int .i64 t256, .int .i64 t257, .int .i64 t258, .int .i64 t259, .int .i64 t260, .slice Aq5_ t261.length cq5_, .int .i64 t264]] rfl (by (try simp only [List.map_toArray, List.map_cons, List.map_nil]); first | done | rfl | (simp only [List.length_drop, List.length_take]; rfl)) ?_; (with_reducible refine (laws_eqKeeperHost.calls k t318 t319 t320 t321 t322 _ _ t323 t326 t256 t257 t258 t259 t260 _ _ t261 t264 true _ ?side1 ?side2 ?side3 ?side4 A28.out).mono ?_); (case side1 => exact (Kd.R_reads' HOq28_.out).2.2); (case side2 => have h1_ := (Kd.R_reads' HOq28_.out).1; have h2_ := (Kd.R_reads' HOq28_.out).2.1; omega); (case side3 => exact (Kd.R_reads' HOq5_.out).2.2); (case side4 => have h1_ := (Kd.R_reads' HOq5_.out).1; have h2_ := (Kd.R_reads' HOq5_.out).2.1; omega); rintro e wv34 ⟨rfl, hb⟩; refine ⟨_, rfl, ?_⟩; have hkW := (Kept.refl wv33 (fun _ => False)); have hk2 := Kept.below hkW hb; replace HOq4_ := Aside0.mk (Kd.R_below HOq4_.out hb); replace HOq5_ := Aside0.mk (Kd.R_below HOq5_.out hb); replace HOq8_ := Aside0.mk (Kd.R_below HOq8_.out hb); replace HOq11_ := Aside0.mk (Kd.R_below HOq11_.out hb); replace HOq17_ := Aside0.mk (Kd.R_below HOq17_.out hb); replace HOq27_ := Aside0.mk (Kd.R_below HOq27_.out hb); replace HOq28_ := Aside0.mk (Kd.R_below HOq28_.out hb); replace BK242 := Aside0.mk (blk_below BK242.out hb); replace BK243 := Aside0.mk (blk_below BK243.out hb); replace BK266 := Aside0.mk (blk_below BK266.out hb); replace BK276 := Aside0.mk (blk_below BK276.out hb); replace BK289 := Aside0.mk (blk_below BK289.out hb); replace BK328 := Aside0.mk (blk_below BK328.out hb); replace HB := Aside0.mk (below_step (by repeat (first | (with_reducible first | exact HB.out | apply below_alloc | apply pw_below_drewN | apply below_drew1) | exact HB.out)) hb); replace HLA := Aside0.mk (And.intro HLA.out (hk2.1 : wv33.heap.size ≤ wv34.heap.size)); (try clear hb); (try clear hkW); (try clear hk2); (try clear hkp); obtain ⟨hcz34_0, hcz34_1, hcz34_2, hcz34_3, hcz34_4, hcz34_5, hcz34_6, hcz34_f0, hcz34_f1, hcz34_f2, hcz34_f3, hcz34_f4, hcz34_f5, hcz34_f6⟩ := lk_c7 BK289.out) | ((with_reducible refine gate_callee (f := 32) rfl ?_); refine goesL_ (some 98) rfl rfl Try.func32 (by kernel_rfl) rfl #[.agg #[.int .i64 t279, .int .i64 t280, .int .i64 t281, .int .i64 t282, .int .i64 t283, .slice Aq11_ t305.length cq11_, .int .i64 t287], .int .i64 1] rfl (by (try simp only [List.map_toArray, List.map_cons, List.map_nil]); first | done | (rw [show t305.length = t284.length from (Kd.R_reads' HOq11_.out).1.symm] <;> rfl) | rfl | (simp only [List.length_drop, List.length_take]; rfl)) ?_; (with_reducible refine (laws_heldKeeperHost.calls k t279 t280 t281 t282 t283 _ _ t305 t287 1 t330 _ ?side1 ?side2 A31.out).mono ?_); (case side1 => exact (Kd.R_reads' HOq11_.out).2.2); (case side2 => have h1_ := (Kd.R_reads' HOq11_.out).1; have h2_ := (Kd.R_reads' HOq11_.out).2.1; omega); rintro e wv35 ⟨rfl, hb⟩; refine ⟨_, rfl, ?_⟩; have hkW := (Kept.refl wv34 (fun _ => False)); have hk2 := Kept.below hkW hb; replace HOq4_ := Aside0.mk (Kd.R_below HOq4_.out hb); replace HOq5_ := Aside0.mk (Kd.R_below HOq5_.out hb); replace HOq8_ := Aside0.mk (Kd.R_below HOq8_.out hb); replace HOq11_ := Aside0.mk (Kd.R_below HOq11_.out hb); replace HOq17_ := Aside0.mk (Kd.R_below HOq17_.out hb); replace HOq27_ := Aside0.mk (Kd.R_below HOq27_.out hb); replace HOq28_ := Aside0.mk (Kd.R_below HOq28_.out hb); replace BK242 := Aside0.mk (blk_below BK242.out hb); replace BK243 := Aside0.mk (blk_below BK243.out hb); replace BK266 := Aside0.mk (blk_below BK266.out hb); replace BK276 := Aside0.mk (blk_below BK276.out hb); replace BK289 := Aside0.mk (blk_below BK289.out hb); replace BK328 := Aside0.mk (blk_below BK328.out hb); replace HB := Aside0.mk (below_step (by repeat (first | (with_reducible first | exact HB.out | apply below_alloc | apply pw_below_drewN | apply below_drew1) | exact HB.out)) hb); replace HLA := Aside0.mk (And.intro HLA.out (hk2.1 : wv34.heap.size ≤ wv35.heap.size)); (try clear hb); (try clear hkW); (try clear hk2); (try clear hkp)))
  go_ret
  exact ⟨by first | rfl | (simp [*] <;> rfl), by repeat (first | (with_reducible first | exact HB.out | apply below_alloc | apply pw_below_drewN | apply below_drew1) | exact HB.out)⟩

end Go.Proofs.Ytjngmadmdkkcmaa.PFnExactResetGuesses
