-- Made by a program of this session, after the kit's print of the translation. Lean checks it.
import Derived.Test.YtjngmadmdkkcmaaPFnExactResetGuessesx0
import Derived.Test.YtjngmadmdkkcmaaPFnExactResetGuessesx3
namespace Go.Proofs.Ytjngmadmdkkcmaa.PFnExactResetGuesses
open Go.RowKit Go.Proofs.YtjngmadmdkkcmaaW.PrintWords Go.Proofs.YtjngmadmdkkcmaaW.PrintLast Go.Proofs.YtjngmadmdkkcmaaW.PrintMore
attribute [local go_sem] max2_int min2_int max_two min_two max_three min_three max_four min_four   -- for this text's walks alone
set_option linter.unusedVariables false
set_option linter.unusedSimpArgs false


/-! ### what a law's walk needs: rows by intervals of blocks -/
theorem lk_R {α : Type} {d : Kd α} {e b n1 a : Nat} {ok : Nat → Prop} {w' : World} {v : Value} {xs : List α} (h : d.R e w' n1 ok v xs) (ha : a ≤ n1) (hb : b ≤ n1) : ∃ ok' : Nat → Prop, d.R e w' b ok' v xs ∧ ∀ k, ok' k → (a ≤ k ∧ k < w'.heap.size) ∧ ok k :=
  ⟨_, Kd.R_lower (Kd.R_bound h) hb, fun _ hk => ⟨⟨Nat.le_trans ha hk.2.1, hk.2.2.1⟩, hk.1⟩⟩
theorem lk_S {α : Type} {d : Kd α} {e b n1 a : Nat} {ok : Nat → Prop} {w' : World} {v : Value} {xs : List α} (h : Kd.S d e w' n1 ok v xs) (ha : a ≤ n1) (hb : b ≤ n1) : ∃ ok' : Nat → Prop, Kd.S d e w' b ok' v xs ∧ ∀ k, ok' k → (a ≤ k ∧ k < w'.heap.size) ∧ ok k :=
  ⟨_, Kd.S_lower (Kd.S_bound h) hb, fun _ hk => ⟨⟨Nat.le_trans ha hk.2.1, hk.2.2.1⟩, hk.1⟩⟩
theorem lk_Ri {α : Type} {d : Kd α} {e b : Nat} {ok : Nat → Prop} {w' : World} {v : Value} {xs : List α} (h : d.R e w' b ok v xs) : ∃ ok' : Nat → Prop, d.R e w' b ok' v xs ∧ ∀ k, ok' k → k < w'.heap.size ∧ ok k :=
  ⟨_, Kd.R_bound h, fun _ hk => ⟨hk.2.2.1, hk.1⟩⟩
theorem lk_Si {α : Type} {d : Kd α} {e b : Nat} {ok : Nat → Prop} {w' : World} {v : Value} {xs : List α} (h : Kd.S d e w' b ok v xs) : ∃ ok' : Nat → Prop, Kd.S d e w' b ok' v xs ∧ ∀ k, ok' k → k < w'.heap.size ∧ ok k :=
  ⟨_, Kd.S_bound h, fun _ hk => ⟨hk.2.2.1, hk.1⟩⟩
theorem lk_c2 {w : World} {g : Nat} {t : TypeId} {v0 v1 : Value} (h : w.heap[g]? = some (.cells #[v0, v1] t (0, 0))) : w.cell? ⟨g, 0, none⟩ = some v0 ∧ w.cell? ⟨g, 1, none⟩ = some v1 ∧ w.frozen? ⟨g, 0, none⟩ = false ∧ w.frozen? ⟨g, 1, none⟩ = false := ⟨(blk_cell h 0).trans rfl, (blk_cell h 1).trans rfl, blk_frozen h 0, blk_frozen h 1⟩
theorem lk_c3 {w : World} {g : Nat} {t : TypeId} {v0 v1 v2 : Value} (h : w.heap[g]? = some (.cells #[v0, v1, v2] t (0, 0))) : w.cell? ⟨g, 0, none⟩ = some v0 ∧ w.cell? ⟨g, 1, none⟩ = some v1 ∧ w.cell? ⟨g, 2, none⟩ = some v2 ∧ w.frozen? ⟨g, 0, none⟩ = false ∧ w.frozen? ⟨g, 1, none⟩ = false ∧ w.frozen? ⟨g, 2, none⟩ = false := ⟨(blk_cell h 0).trans rfl, (blk_cell h 1).trans rfl, (blk_cell h 2).trans rfl, blk_frozen h 0, blk_frozen h 1, blk_frozen h 2⟩
theorem lk_c4 {w : World} {g : Nat} {t : TypeId} {v0 v1 v2 v3 : Value} (h : w.heap[g]? = some (.cells #[v0, v1, v2, v3] t (0, 0))) : w.cell? ⟨g, 0, none⟩ = some v0 ∧ w.cell? ⟨g, 1, none⟩ = some v1 ∧ w.cell? ⟨g, 2, none⟩ = some v2 ∧ w.cell? ⟨g, 3, none⟩ = some v3 ∧ w.frozen? ⟨g, 0, none⟩ = false ∧ w.frozen? ⟨g, 1, none⟩ = false ∧ w.frozen? ⟨g, 2, none⟩ = false ∧ w.frozen? ⟨g, 3, none⟩ = false := ⟨(blk_cell h 0).trans rfl, (blk_cell h 1).trans rfl, (blk_cell h 2).trans rfl, (blk_cell h 3).trans rfl, blk_frozen h 0, blk_frozen h 1, blk_frozen h 2, blk_frozen h 3⟩
theorem lk_c5 {w : World} {g : Nat} {t : TypeId} {v0 v1 v2 v3 v4 : Value} (h : w.heap[g]? = some (.cells #[v0, v1, v2, v3, v4] t (0, 0))) : w.cell? ⟨g, 0, none⟩ = some v0 ∧ w.cell? ⟨g, 1, none⟩ = some v1 ∧ w.cell? ⟨g, 2, none⟩ = some v2 ∧ w.cell? ⟨g, 3, none⟩ = some v3 ∧ w.cell? ⟨g, 4, none⟩ = some v4 ∧ w.frozen? ⟨g, 0, none⟩ = false ∧ w.frozen? ⟨g, 1, none⟩ = false ∧ w.frozen? ⟨g, 2, none⟩ = false ∧ w.frozen? ⟨g, 3, none⟩ = false ∧ w.frozen? ⟨g, 4, none⟩ = false := ⟨(blk_cell h 0).trans rfl, (blk_cell h 1).trans rfl, (blk_cell h 2).trans rfl, (blk_cell h 3).trans rfl, (blk_cell h 4).trans rfl, blk_frozen h 0, blk_frozen h 1, blk_frozen h 2, blk_frozen h 3, blk_frozen h 4⟩
theorem lk_c6 {w : World} {g : Nat} {t : TypeId} {v0 v1 v2 v3 v4 v5 : Value} (h : w.heap[g]? = some (.cells #[v0, v1, v2, v3, v4, v5] t (0, 0))) : w.cell? ⟨g, 0, none⟩ = some v0 ∧ w.cell? ⟨g, 1, none⟩ = some v1 ∧ w.cell? ⟨g, 2, none⟩ = some v2 ∧ w.cell? ⟨g, 3, none⟩ = some v3 ∧ w.cell? ⟨g, 4, none⟩ = some v4 ∧ w.cell? ⟨g, 5, none⟩ = some v5 ∧ w.frozen? ⟨g, 0, none⟩ = false ∧ w.frozen? ⟨g, 1, none⟩ = false ∧ w.frozen? ⟨g, 2, none⟩ = false ∧ w.frozen? ⟨g, 3, none⟩ = false ∧ w.frozen? ⟨g, 4, none⟩ = false ∧ w.frozen? ⟨g, 5, none⟩ = false := ⟨(blk_cell h 0).trans rfl, (blk_cell h 1).trans rfl, (blk_cell h 2).trans rfl, (blk_cell h 3).trans rfl, (blk_cell h 4).trans rfl, (blk_cell h 5).trans rfl, blk_frozen h 0, blk_frozen h 1, blk_frozen h 2, blk_frozen h 3, blk_frozen h 4, blk_frozen h 5⟩
theorem lk_c7 {w : World} {g : Nat} {t : TypeId} {v0 v1 v2 v3 v4 v5 v6 : Value} (h : w.heap[g]? = some (.cells #[v0, v1, v2, v3, v4, v5, v6] t (0, 0))) : w.cell? ⟨g, 0, none⟩ = some v0 ∧ w.cell? ⟨g, 1, none⟩ = some v1 ∧ w.cell? ⟨g, 2, none⟩ = some v2 ∧ w.cell? ⟨g, 3, none⟩ = some v3 ∧ w.cell? ⟨g, 4, none⟩ = some v4 ∧ w.cell? ⟨g, 5, none⟩ = some v5 ∧ w.cell? ⟨g, 6, none⟩ = some v6 ∧ w.frozen? ⟨g, 0, none⟩ = false ∧ w.frozen? ⟨g, 1, none⟩ = false ∧ w.frozen? ⟨g, 2, none⟩ = false ∧ w.frozen? ⟨g, 3, none⟩ = false ∧ w.frozen? ⟨g, 4, none⟩ = false ∧ w.frozen? ⟨g, 5, none⟩ = false ∧ w.frozen? ⟨g, 6, none⟩ = false := ⟨(blk_cell h 0).trans rfl, (blk_cell h 1).trans rfl, (blk_cell h 2).trans rfl, (blk_cell h 3).trans rfl, (blk_cell h 4).trans rfl, (blk_cell h 5).trans rfl, (blk_cell h 6).trans rfl, blk_frozen h 0, blk_frozen h 1, blk_frozen h 2, blk_frozen h 3, blk_frozen h 4, blk_frozen h 5, blk_frozen h 6⟩
theorem lk_c9 {w : World} {g : Nat} {t : TypeId} {v0 v1 v2 v3 v4 v5 v6 v7 v8 : Value} (h : w.heap[g]? = some (.cells #[v0, v1, v2, v3, v4, v5, v6, v7, v8] t (0, 0))) : w.cell? ⟨g, 0, none⟩ = some v0 ∧ w.cell? ⟨g, 1, none⟩ = some v1 ∧ w.cell? ⟨g, 2, none⟩ = some v2 ∧ w.cell? ⟨g, 3, none⟩ = some v3 ∧ w.cell? ⟨g, 4, none⟩ = some v4 ∧ w.cell? ⟨g, 5, none⟩ = some v5 ∧ w.cell? ⟨g, 6, none⟩ = some v6 ∧ w.cell? ⟨g, 7, none⟩ = some v7 ∧ w.cell? ⟨g, 8, none⟩ = some v8 ∧ w.frozen? ⟨g, 0, none⟩ = false ∧ w.frozen? ⟨g, 1, none⟩ = false ∧ w.frozen? ⟨g, 2, none⟩ = false ∧ w.frozen? ⟨g, 3, none⟩ = false ∧ w.frozen? ⟨g, 4, none⟩ = false ∧ w.frozen? ⟨g, 5, none⟩ = false ∧ w.frozen? ⟨g, 6, none⟩ = false ∧ w.frozen? ⟨g, 7, none⟩ = false ∧ w.frozen? ⟨g, 8, none⟩ = false := ⟨(blk_cell h 0).trans rfl, (blk_cell h 1).trans rfl, (blk_cell h 2).trans rfl, (blk_cell h 3).trans rfl, (blk_cell h 4).trans rfl, (blk_cell h 5).trans rfl, (blk_cell h 6).trans rfl, (blk_cell h 7).trans rfl, (blk_cell h 8).trans rfl, blk_frozen h 0, blk_frozen h 1, blk_frozen h 2, blk_frozen h 3, blk_frozen h 4, blk_frozen h 5, blk_frozen h 6, blk_frozen h 7, blk_frozen h 8⟩
theorem lk_c10 {w : World} {g : Nat} {t : TypeId} {v0 v1 v2 v3 v4 v5 v6 v7 v8 v9 : Value} (h : w.heap[g]? = some (.cells #[v0, v1, v2, v3, v4, v5, v6, v7, v8, v9] t (0, 0))) : w.cell? ⟨g, 0, none⟩ = some v0 ∧ w.cell? ⟨g, 1, none⟩ = some v1 ∧ w.cell? ⟨g, 2, none⟩ = some v2 ∧ w.cell? ⟨g, 3, none⟩ = some v3 ∧ w.cell? ⟨g, 4, none⟩ = some v4 ∧ w.cell? ⟨g, 5, none⟩ = some v5 ∧ w.cell? ⟨g, 6, none⟩ = some v6 ∧ w.cell? ⟨g, 7, none⟩ = some v7 ∧ w.cell? ⟨g, 8, none⟩ = some v8 ∧ w.cell? ⟨g, 9, none⟩ = some v9 ∧ w.frozen? ⟨g, 0, none⟩ = false ∧ w.frozen? ⟨g, 1, none⟩ = false ∧ w.frozen? ⟨g, 2, none⟩ = false ∧ w.frozen? ⟨g, 3, none⟩ = false ∧ w.frozen? ⟨g, 4, none⟩ = false ∧ w.frozen? ⟨g, 5, none⟩ = false ∧ w.frozen? ⟨g, 6, none⟩ = false ∧ w.frozen? ⟨g, 7, none⟩ = false ∧ w.frozen? ⟨g, 8, none⟩ = false ∧ w.frozen? ⟨g, 9, none⟩ = false := ⟨(blk_cell h 0).trans rfl, (blk_cell h 1).trans rfl, (blk_cell h 2).trans rfl, (blk_cell h 3).trans rfl, (blk_cell h 4).trans rfl, (blk_cell h 5).trans rfl, (blk_cell h 6).trans rfl, (blk_cell h 7).trans rfl, (blk_cell h 8).trans rfl, (blk_cell h 9).trans rfl, blk_frozen h 0, blk_frozen h 1, blk_frozen h 2, blk_frozen h 3, blk_frozen h 4, blk_frozen h 5, blk_frozen h 6, blk_frozen h 7, blk_frozen h 8, blk_frozen h 9⟩
theorem lk_e1 {w : World} {g : Nat} {t : TypeId} {v0 : Value} (h : w.heap[g]? = some (.cells #[v0] t (0, 0))) : w.cell? ⟨g, 0, none⟩ = some v0 := (blk_cell h 0).trans rfl
theorem lk_t1 {w : World} {g : Nat} {t : TypeId} {v0 : Value} {T : Prop} (h : w.heap[g]? = some (.cells #[v0] t (0, 0))) (z : T) : w.cell? ⟨g, 0, none⟩ = some v0 ∧ T := ⟨(blk_cell h 0).trans rfl, z⟩
theorem lk_e2 {w : World} {g : Nat} {t : TypeId} {v0 v1 : Value} (h : w.heap[g]? = some (.cells #[v0, v1] t (0, 0))) : w.cell? ⟨g, 0, none⟩ = some v0 ∧ w.cell? ⟨g, 1, none⟩ = some v1 := ⟨(blk_cell h 0).trans rfl, (blk_cell h 1).trans rfl⟩
theorem lk_t2 {w : World} {g : Nat} {t : TypeId} {v0 v1 : Value} {T : Prop} (h : w.heap[g]? = some (.cells #[v0, v1] t (0, 0))) (z : T) : w.cell? ⟨g, 0, none⟩ = some v0 ∧ w.cell? ⟨g, 1, none⟩ = some v1 ∧ T := ⟨(blk_cell h 0).trans rfl, (blk_cell h 1).trans rfl, z⟩
theorem lk_e3 {w : World} {g : Nat} {t : TypeId} {v0 v1 v2 : Value} (h : w.heap[g]? = some (.cells #[v0, v1, v2] t (0, 0))) : w.cell? ⟨g, 0, none⟩ = some v0 ∧ w.cell? ⟨g, 1, none⟩ = some v1 ∧ w.cell? ⟨g, 2, none⟩ = some v2 := ⟨(blk_cell h 0).trans rfl, (blk_cell h 1).trans rfl, (blk_cell h 2).trans rfl⟩
theorem lk_t3 {w : World} {g : Nat} {t : TypeId} {v0 v1 v2 : Value} {T : Prop} (h : w.heap[g]? = some (.cells #[v0, v1, v2] t (0, 0))) (z : T) : w.cell? ⟨g, 0, none⟩ = some v0 ∧ w.cell? ⟨g, 1, none⟩ = some v1 ∧ w.cell? ⟨g, 2, none⟩ = some v2 ∧ T := ⟨(blk_cell h 0).trans rfl, (blk_cell h 1).trans rfl, (blk_cell h 2).trans rfl, z⟩
theorem lk_e4 {w : World} {g : Nat} {t : TypeId} {v0 v1 v2 v3 : Value} (h : w.heap[g]? = some (.cells #[v0, v1, v2, v3] t (0, 0))) : w.cell? ⟨g, 0, none⟩ = some v0 ∧ w.cell? ⟨g, 1, none⟩ = some v1 ∧ w.cell? ⟨g, 2, none⟩ = some v2 ∧ w.cell? ⟨g, 3, none⟩ = some v3 := ⟨(blk_cell h 0).trans rfl, (blk_cell h 1).trans rfl, (blk_cell h 2).trans rfl, (blk_cell h 3).trans rfl⟩
theorem lk_t4 {w : World} {g : Nat} {t : TypeId} {v0 v1 v2 v3 : Value} {T : Prop} (h : w.heap[g]? = some (.cells #[v0, v1, v2, v3] t (0, 0))) (z : T) : w.cell? ⟨g, 0, none⟩ = some v0 ∧ w.cell? ⟨g, 1, none⟩ = some v1 ∧ w.cell? ⟨g, 2, none⟩ = some v2 ∧ w.cell? ⟨g, 3, none⟩ = some v3 ∧ T := ⟨(blk_cell h 0).trans rfl, (blk_cell h 1).trans rfl, (blk_cell h 2).trans rfl, (blk_cell h 3).trans rfl, z⟩
theorem lk_e5 {w : World} {g : Nat} {t : TypeId} {v0 v1 v2 v3 v4 : Value} (h : w.heap[g]? = some (.cells #[v0, v1, v2, v3, v4] t (0, 0))) : w.cell? ⟨g, 0, none⟩ = some v0 ∧ w.cell? ⟨g, 1, none⟩ = some v1 ∧ w.cell? ⟨g, 2, none⟩ = some v2 ∧ w.cell? ⟨g, 3, none⟩ = some v3 ∧ w.cell? ⟨g, 4, none⟩ = some v4 := ⟨(blk_cell h 0).trans rfl, (blk_cell h 1).trans rfl, (blk_cell h 2).trans rfl, (blk_cell h 3).trans rfl, (blk_cell h 4).trans rfl⟩
theorem lk_t5 {w : World} {g : Nat} {t : TypeId} {v0 v1 v2 v3 v4 : Value} {T : Prop} (h : w.heap[g]? = some (.cells #[v0, v1, v2, v3, v4] t (0, 0))) (z : T) : w.cell? ⟨g, 0, none⟩ = some v0 ∧ w.cell? ⟨g, 1, none⟩ = some v1 ∧ w.cell? ⟨g, 2, none⟩ = some v2 ∧ w.cell? ⟨g, 3, none⟩ = some v3 ∧ w.cell? ⟨g, 4, none⟩ = some v4 ∧ T := ⟨(blk_cell h 0).trans rfl, (blk_cell h 1).trans rfl, (blk_cell h 2).trans rfl, (blk_cell h 3).trans rfl, (blk_cell h 4).trans rfl, z⟩
theorem lk_e6 {w : World} {g : Nat} {t : TypeId} {v0 v1 v2 v3 v4 v5 : Value} (h : w.heap[g]? = some (.cells #[v0, v1, v2, v3, v4, v5] t (0, 0))) : w.cell? ⟨g, 0, none⟩ = some v0 ∧ w.cell? ⟨g, 1, none⟩ = some v1 ∧ w.cell? ⟨g, 2, none⟩ = some v2 ∧ w.cell? ⟨g, 3, none⟩ = some v3 ∧ w.cell? ⟨g, 4, none⟩ = some v4 ∧ w.cell? ⟨g, 5, none⟩ = some v5 := ⟨(blk_cell h 0).trans rfl, (blk_cell h 1).trans rfl, (blk_cell h 2).trans rfl, (blk_cell h 3).trans rfl, (blk_cell h 4).trans rfl, (blk_cell h 5).trans rfl⟩
theorem lk_t6 {w : World} {g : Nat} {t : TypeId} {v0 v1 v2 v3 v4 v5 : Value} {T : Prop} (h : w.heap[g]? = some (.cells #[v0, v1, v2, v3, v4, v5] t (0, 0))) (z : T) : w.cell? ⟨g, 0, none⟩ = some v0 ∧ w.cell? ⟨g, 1, none⟩ = some v1 ∧ w.cell? ⟨g, 2, none⟩ = some v2 ∧ w.cell? ⟨g, 3, none⟩ = some v3 ∧ w.cell? ⟨g, 4, none⟩ = some v4 ∧ w.cell? ⟨g, 5, none⟩ = some v5 ∧ T := ⟨(blk_cell h 0).trans rfl, (blk_cell h 1).trans rfl, (blk_cell h 2).trans rfl, (blk_cell h 3).trans rfl, (blk_cell h 4).trans rfl, (blk_cell h 5).trans rfl, z⟩
theorem lk_e7 {w : World} {g : Nat} {t : TypeId} {v0 v1 v2 v3 v4 v5 v6 : Value} (h : w.heap[g]? = some (.cells #[v0, v1, v2, v3, v4, v5, v6] t (0, 0))) : w.cell? ⟨g, 0, none⟩ = some v0 ∧ w.cell? ⟨g, 1, none⟩ = some v1 ∧ w.cell? ⟨g, 2, none⟩ = some v2 ∧ w.cell? ⟨g, 3, none⟩ = some v3 ∧ w.cell? ⟨g, 4, none⟩ = some v4 ∧ w.cell? ⟨g, 5, none⟩ = some v5 ∧ w.cell? ⟨g, 6, none⟩ = some v6 := ⟨(blk_cell h 0).trans rfl, (blk_cell h 1).trans rfl, (blk_cell h 2).trans rfl, (blk_cell h 3).trans rfl, (blk_cell h 4).trans rfl, (blk_cell h 5).trans rfl, (blk_cell h 6).trans rfl⟩
theorem lk_t7 {w : World} {g : Nat} {t : TypeId} {v0 v1 v2 v3 v4 v5 v6 : Value} {T : Prop} (h : w.heap[g]? = some (.cells #[v0, v1, v2, v3, v4, v5, v6] t (0, 0))) (z : T) : w.cell? ⟨g, 0, none⟩ = some v0 ∧ w.cell? ⟨g, 1, none⟩ = some v1 ∧ w.cell? ⟨g, 2, none⟩ = some v2 ∧ w.cell? ⟨g, 3, none⟩ = some v3 ∧ w.cell? ⟨g, 4, none⟩ = some v4 ∧ w.cell? ⟨g, 5, none⟩ = some v5 ∧ w.cell? ⟨g, 6, none⟩ = some v6 ∧ T := ⟨(blk_cell h 0).trans rfl, (blk_cell h 1).trans rfl, (blk_cell h 2).trans rfl, (blk_cell h 3).trans rfl, (blk_cell h 4).trans rfl, (blk_cell h 5).trans rfl, (blk_cell h 6).trans rfl, z⟩
theorem lk_e8 {w : World} {g : Nat} {t : TypeId} {v0 v1 v2 v3 v4 v5 v6 v7 : Value} (h : w.heap[g]? = some (.cells #[v0, v1, v2, v3, v4, v5, v6, v7] t (0, 0))) : w.cell? ⟨g, 0, none⟩ = some v0 ∧ w.cell? ⟨g, 1, none⟩ = some v1 ∧ w.cell? ⟨g, 2, none⟩ = some v2 ∧ w.cell? ⟨g, 3, none⟩ = some v3 ∧ w.cell? ⟨g, 4, none⟩ = some v4 ∧ w.cell? ⟨g, 5, none⟩ = some v5 ∧ w.cell? ⟨g, 6, none⟩ = some v6 ∧ w.cell? ⟨g, 7, none⟩ = some v7 := ⟨(blk_cell h 0).trans rfl, (blk_cell h 1).trans rfl, (blk_cell h 2).trans rfl, (blk_cell h 3).trans rfl, (blk_cell h 4).trans rfl, (blk_cell h 5).trans rfl, (blk_cell h 6).trans rfl, (blk_cell h 7).trans rfl⟩
theorem lk_t8 {w : World} {g : Nat} {t : TypeId} {v0 v1 v2 v3 v4 v5 v6 v7 : Value} {T : Prop} (h : w.heap[g]? = some (.cells #[v0, v1, v2, v3, v4, v5, v6, v7] t (0, 0))) (z : T) : w.cell? ⟨g, 0, none⟩ = some v0 ∧ w.cell? ⟨g, 1, none⟩ = some v1 ∧ w.cell? ⟨g, 2, none⟩ = some v2 ∧ w.cell? ⟨g, 3, none⟩ = some v3 ∧ w.cell? ⟨g, 4, none⟩ = some v4 ∧ w.cell? ⟨g, 5, none⟩ = some v5 ∧ w.cell? ⟨g, 6, none⟩ = some v6 ∧ w.cell? ⟨g, 7, none⟩ = some v7 ∧ T := ⟨(blk_cell h 0).trans rfl, (blk_cell h 1).trans rfl, (blk_cell h 2).trans rfl, (blk_cell h 3).trans rfl, (blk_cell h 4).trans rfl, (blk_cell h 5).trans rfl, (blk_cell h 6).trans rfl, (blk_cell h 7).trans rfl, z⟩
theorem lk_e9 {w : World} {g : Nat} {t : TypeId} {v0 v1 v2 v3 v4 v5 v6 v7 v8 : Value} (h : w.heap[g]? = some (.cells #[v0, v1, v2, v3, v4, v5, v6, v7, v8] t (0, 0))) : w.cell? ⟨g, 0, none⟩ = some v0 ∧ w.cell? ⟨g, 1, none⟩ = some v1 ∧ w.cell? ⟨g, 2, none⟩ = some v2 ∧ w.cell? ⟨g, 3, none⟩ = some v3 ∧ w.cell? ⟨g, 4, none⟩ = some v4 ∧ w.cell? ⟨g, 5, none⟩ = some v5 ∧ w.cell? ⟨g, 6, none⟩ = some v6 ∧ w.cell? ⟨g, 7, none⟩ = some v7 ∧ w.cell? ⟨g, 8, none⟩ = some v8 := ⟨(blk_cell h 0).trans rfl, (blk_cell h 1).trans rfl, (blk_cell h 2).trans rfl, (blk_cell h 3).trans rfl, (blk_cell h 4).trans rfl, (blk_cell h 5).trans rfl, (blk_cell h 6).trans rfl, (blk_cell h 7).trans rfl, (blk_cell h 8).trans rfl⟩
theorem lk_t9 {w : World} {g : Nat} {t : TypeId} {v0 v1 v2 v3 v4 v5 v6 v7 v8 : Value} {T : Prop} (h : w.heap[g]? = some (.cells #[v0, v1, v2, v3, v4, v5, v6, v7, v8] t (0, 0))) (z : T) : w.cell? ⟨g, 0, none⟩ = some v0 ∧ w.cell? ⟨g, 1, none⟩ = some v1 ∧ w.cell? ⟨g, 2, none⟩ = some v2 ∧ w.cell? ⟨g, 3, none⟩ = some v3 ∧ w.cell? ⟨g, 4, none⟩ = some v4 ∧ w.cell? ⟨g, 5, none⟩ = some v5 ∧ w.cell? ⟨g, 6, none⟩ = some v6 ∧ w.cell? ⟨g, 7, none⟩ = some v7 ∧ w.cell? ⟨g, 8, none⟩ = some v8 ∧ T := ⟨(blk_cell h 0).trans rfl, (blk_cell h 1).trans rfl, (blk_cell h 2).trans rfl, (blk_cell h 3).trans rfl, (blk_cell h 4).trans rfl, (blk_cell h 5).trans rfl, (blk_cell h 6).trans rfl, (blk_cell h 7).trans rfl, (blk_cell h 8).trans rfl, z⟩
theorem lk_e10 {w : World} {g : Nat} {t : TypeId} {v0 v1 v2 v3 v4 v5 v6 v7 v8 v9 : Value} (h : w.heap[g]? = some (.cells #[v0, v1, v2, v3, v4, v5, v6, v7, v8, v9] t (0, 0))) : w.cell? ⟨g, 0, none⟩ = some v0 ∧ w.cell? ⟨g, 1, none⟩ = some v1 ∧ w.cell? ⟨g, 2, none⟩ = some v2 ∧ w.cell? ⟨g, 3, none⟩ = some v3 ∧ w.cell? ⟨g, 4, none⟩ = some v4 ∧ w.cell? ⟨g, 5, none⟩ = some v5 ∧ w.cell? ⟨g, 6, none⟩ = some v6 ∧ w.cell? ⟨g, 7, none⟩ = some v7 ∧ w.cell? ⟨g, 8, none⟩ = some v8 ∧ w.cell? ⟨g, 9, none⟩ = some v9 := ⟨(blk_cell h 0).trans rfl, (blk_cell h 1).trans rfl, (blk_cell h 2).trans rfl, (blk_cell h 3).trans rfl, (blk_cell h 4).trans rfl, (blk_cell h 5).trans rfl, (blk_cell h 6).trans rfl, (blk_cell h 7).trans rfl, (blk_cell h 8).trans rfl, (blk_cell h 9).trans rfl⟩
theorem lk_t10 {w : World} {g : Nat} {t : TypeId} {v0 v1 v2 v3 v4 v5 v6 v7 v8 v9 : Value} {T : Prop} (h : w.heap[g]? = some (.cells #[v0, v1, v2, v3, v4, v5, v6, v7, v8, v9] t (0, 0))) (z : T) : w.cell? ⟨g, 0, none⟩ = some v0 ∧ w.cell? ⟨g, 1, none⟩ = some v1 ∧ w.cell? ⟨g, 2, none⟩ = some v2 ∧ w.cell? ⟨g, 3, none⟩ = some v3 ∧ w.cell? ⟨g, 4, none⟩ = some v4 ∧ w.cell? ⟨g, 5, none⟩ = some v5 ∧ w.cell? ⟨g, 6, none⟩ = some v6 ∧ w.cell? ⟨g, 7, none⟩ = some v7 ∧ w.cell? ⟨g, 8, none⟩ = some v8 ∧ w.cell? ⟨g, 9, none⟩ = some v9 ∧ T := ⟨(blk_cell h 0).trans rfl, (blk_cell h 1).trans rfl, (blk_cell h 2).trans rfl, (blk_cell h 3).trans rfl, (blk_cell h 4).trans rfl, (blk_cell h 5).trans rfl, (blk_cell h 6).trans rfl, (blk_cell h 7).trans rfl, (blk_cell h 8).trans rfl, (blk_cell h 9).trans rfl, z⟩
theorem lk_e11 {w : World} {g : Nat} {t : TypeId} {v0 v1 v2 v3 v4 v5 v6 v7 v8 v9 v10 : Value} (h : w.heap[g]? = some (.cells #[v0, v1, v2, v3, v4, v5, v6, v7, v8, v9, v10] t (0, 0))) : w.cell? ⟨g, 0, none⟩ = some v0 ∧ w.cell? ⟨g, 1, none⟩ = some v1 ∧ w.cell? ⟨g, 2, none⟩ = some v2 ∧ w.cell? ⟨g, 3, none⟩ = some v3 ∧ w.cell? ⟨g, 4, none⟩ = some v4 ∧ w.cell? ⟨g, 5, none⟩ = some v5 ∧ w.cell? ⟨g, 6, none⟩ = some v6 ∧ w.cell? ⟨g, 7, none⟩ = some v7 ∧ w.cell? ⟨g, 8, none⟩ = some v8 ∧ w.cell? ⟨g, 9, none⟩ = some v9 ∧ w.cell? ⟨g, 10, none⟩ = some v10 := ⟨(blk_cell h 0).trans rfl, (blk_cell h 1).trans rfl, (blk_cell h 2).trans rfl, (blk_cell h 3).trans rfl, (blk_cell h 4).trans rfl, (blk_cell h 5).trans rfl, (blk_cell h 6).trans rfl, (blk_cell h 7).trans rfl, (blk_cell h 8).trans rfl, (blk_cell h 9).trans rfl, (blk_cell h 10).trans rfl⟩
theorem lk_t11 {w : World} {g : Nat} {t : TypeId} {v0 v1 v2 v3 v4 v5 v6 v7 v8 v9 v10 : Value} {T : Prop} (h : w.heap[g]? = some (.cells #[v0, v1, v2, v3, v4, v5, v6, v7, v8, v9, v10] t (0, 0))) (z : T) : w.cell? ⟨g, 0, none⟩ = some v0 ∧ w.cell? ⟨g, 1, none⟩ = some v1 ∧ w.cell? ⟨g, 2, none⟩ = some v2 ∧ w.cell? ⟨g, 3, none⟩ = some v3 ∧ w.cell? ⟨g, 4, none⟩ = some v4 ∧ w.cell? ⟨g, 5, none⟩ = some v5 ∧ w.cell? ⟨g, 6, none⟩ = some v6 ∧ w.cell? ⟨g, 7, none⟩ = some v7 ∧ w.cell? ⟨g, 8, none⟩ = some v8 ∧ w.cell? ⟨g, 9, none⟩ = some v9 ∧ w.cell? ⟨g, 10, none⟩ = some v10 ∧ T := ⟨(blk_cell h 0).trans rfl, (blk_cell h 1).trans rfl, (blk_cell h 2).trans rfl, (blk_cell h 3).trans rfl, (blk_cell h 4).trans rfl, (blk_cell h 5).trans rfl, (blk_cell h 6).trans rfl, (blk_cell h 7).trans rfl, (blk_cell h 8).trans rfl, (blk_cell h 9).trans rfl, (blk_cell h 10).trans rfl, z⟩
theorem lk_e12 {w : World} {g : Nat} {t : TypeId} {v0 v1 v2 v3 v4 v5 v6 v7 v8 v9 v10 v11 : Value} (h : w.heap[g]? = some (.cells #[v0, v1, v2, v3, v4, v5, v6, v7, v8, v9, v10, v11] t (0, 0))) : w.cell? ⟨g, 0, none⟩ = some v0 ∧ w.cell? ⟨g, 1, none⟩ = some v1 ∧ w.cell? ⟨g, 2, none⟩ = some v2 ∧ w.cell? ⟨g, 3, none⟩ = some v3 ∧ w.cell? ⟨g, 4, none⟩ = some v4 ∧ w.cell? ⟨g, 5, none⟩ = some v5 ∧ w.cell? ⟨g, 6, none⟩ = some v6 ∧ w.cell? ⟨g, 7, none⟩ = some v7 ∧ w.cell? ⟨g, 8, none⟩ = some v8 ∧ w.cell? ⟨g, 9, none⟩ = some v9 ∧ w.cell? ⟨g, 10, none⟩ = some v10 ∧ w.cell? ⟨g, 11, none⟩ = some v11 := ⟨(blk_cell h 0).trans rfl, (blk_cell h 1).trans rfl, (blk_cell h 2).trans rfl, (blk_cell h 3).trans rfl, (blk_cell h 4).trans rfl, (blk_cell h 5).trans rfl, (blk_cell h 6).trans rfl, (blk_cell h 7).trans rfl, (blk_cell h 8).trans rfl, (blk_cell h 9).trans rfl, (blk_cell h 10).trans rfl, (blk_cell h 11).trans rfl⟩
theorem lk_t12 {w : World} {g : Nat} {t : TypeId} {v0 v1 v2 v3 v4 v5 v6 v7 v8 v9 v10 v11 : Value} {T : Prop} (h : w.heap[g]? = some (.cells #[v0, v1, v2, v3, v4, v5, v6, v7, v8, v9, v10, v11] t (0, 0))) (z : T) : w.cell? ⟨g, 0, none⟩ = some v0 ∧ w.cell? ⟨g, 1, none⟩ = some v1 ∧ w.cell? ⟨g, 2, none⟩ = some v2 ∧ w.cell? ⟨g, 3, none⟩ = some v3 ∧ w.cell? ⟨g, 4, none⟩ = some v4 ∧ w.cell? ⟨g, 5, none⟩ = some v5 ∧ w.cell? ⟨g, 6, none⟩ = some v6 ∧ w.cell? ⟨g, 7, none⟩ = some v7 ∧ w.cell? ⟨g, 8, none⟩ = some v8 ∧ w.cell? ⟨g, 9, none⟩ = some v9 ∧ w.cell? ⟨g, 10, none⟩ = some v10 ∧ w.cell? ⟨g, 11, none⟩ = some v11 ∧ T := ⟨(blk_cell h 0).trans rfl, (blk_cell h 1).trans rfl, (blk_cell h 2).trans rfl, (blk_cell h 3).trans rfl, (blk_cell h 4).trans rfl, (blk_cell h 5).trans rfl, (blk_cell h 6).trans rfl, (blk_cell h 7).trans rfl, (blk_cell h 8).trans rfl, (blk_cell h 9).trans rfl, (blk_cell h 10).trans rfl, (blk_cell h 11).trans rfl, z⟩
theorem lk_e13 {w : World} {g : Nat} {t : TypeId} {v0 v1 v2 v3 v4 v5 v6 v7 v8 v9 v10 v11 v12 : Value} (h : w.heap[g]? = some (.cells #[v0, v1, v2, v3, v4, v5, v6, v7, v8, v9, v10, v11, v12] t (0, 0))) : w.cell? ⟨g, 0, none⟩ = some v0 ∧ w.cell? ⟨g, 1, none⟩ = some v1 ∧ w.cell? ⟨g, 2, none⟩ = some v2 ∧ w.cell? ⟨g, 3, none⟩ = some v3 ∧ w.cell? ⟨g, 4, none⟩ = some v4 ∧ w.cell? ⟨g, 5, none⟩ = some v5 ∧ w.cell? ⟨g, 6, none⟩ = some v6 ∧ w.cell? ⟨g, 7, none⟩ = some v7 ∧ w.cell? ⟨g, 8, none⟩ = some v8 ∧ w.cell? ⟨g, 9, none⟩ = some v9 ∧ w.cell? ⟨g, 10, none⟩ = some v10 ∧ w.cell? ⟨g, 11, none⟩ = some v11 ∧ w.cell? ⟨g, 12, none⟩ = some v12 := ⟨(blk_cell h 0).trans rfl, (blk_cell h 1).trans rfl, (blk_cell h 2).trans rfl, (blk_cell h 3).trans rfl, (blk_cell h 4).trans rfl, (blk_cell h 5).trans rfl, (blk_cell h 6).trans rfl, (blk_cell h 7).trans rfl, (blk_cell h 8).trans rfl, (blk_cell h 9).trans rfl, (blk_cell h 10).trans rfl, (blk_cell h 11).trans rfl, (blk_cell h 12).trans rfl⟩
theorem lk_t13 {w : World} {g : Nat} {t : TypeId} {v0 v1 v2 v3 v4 v5 v6 v7 v8 v9 v10 v11 v12 : Value} {T : Prop} (h : w.heap[g]? = some (.cells #[v0, v1, v2, v3, v4, v5, v6, v7, v8, v9, v10, v11, v12] t (0, 0))) (z : T) : w.cell? ⟨g, 0, none⟩ = some v0 ∧ w.cell? ⟨g, 1, none⟩ = some v1 ∧ w.cell? ⟨g, 2, none⟩ = some v2 ∧ w.cell? ⟨g, 3, none⟩ = some v3 ∧ w.cell? ⟨g, 4, none⟩ = some v4 ∧ w.cell? ⟨g, 5, none⟩ = some v5 ∧ w.cell? ⟨g, 6, none⟩ = some v6 ∧ w.cell? ⟨g, 7, none⟩ = some v7 ∧ w.cell? ⟨g, 8, none⟩ = some v8 ∧ w.cell? ⟨g, 9, none⟩ = some v9 ∧ w.cell? ⟨g, 10, none⟩ = some v10 ∧ w.cell? ⟨g, 11, none⟩ = some v11 ∧ w.cell? ⟨g, 12, none⟩ = some v12 ∧ T := ⟨(blk_cell h 0).trans rfl, (blk_cell h 1).trans rfl, (blk_cell h 2).trans rfl, (blk_cell h 3).trans rfl, (blk_cell h 4).trans rfl, (blk_cell h 5).trans rfl, (blk_cell h 6).trans rfl, (blk_cell h 7).trans rfl, (blk_cell h 8).trans rfl, (blk_cell h 9).trans rfl, (blk_cell h 10).trans rfl, (blk_cell h 11).trans rfl, (blk_cell h 12).trans rfl, z⟩
/-! ### spec_ResetGuesses: function 33 -/
def spec_ResetGuesses.f (k : Nat) (a0_0 : Int) (a0_1 : Int) (a0_2 : Int) (a0_3 : Int) (a0_4 : Int) (l0_5 : List (S28)) (a0_6 : Int) (a1_0 : Int) (a1_1 : Int) : Option (Int × Int × Int × Int × Int × (List (S28)) × Int × Bool) := (spec_l24Copy.f a0_0 a0_1 a0_2 a0_3 a0_4 l0_5 a0_6).bind fun bt187 => ((spec_IsValidKeeper.f k a0_0 a0_1 a0_2 a0_3 a0_4).bind fun t197 => (if t197 = true then ((spec_l24Mark.f a0_0 a0_1 a0_2 a0_3 a0_4).bind fun t198 => (if t198 < a0_6 then (some (bt187.1, bt187.2.1, bt187.2.2.1, bt187.2.2.2.1, bt187.2.2.2.2.1, bt187.2.2.2.2.2.1, bt187.2.2.2.2.2.2, false)) else (if a0_2 = 1000000 then (some (bt187.1, bt187.2.1, bt187.2.2.1, bt187.2.2.2.1, bt187.2.2.2.2.1, bt187.2.2.2.2.2.1, bt187.2.2.2.2.2.2, false)) else (if a1_0 = a0_0 then ((spec_AreShares.f k (([(⟨a1_0, a1_1⟩ : S26)] : List (S26)))).bind fun t202 => (if t202 = true then ((spec_l24Mark.f a1_0 a1_1 (wrap64 (a0_2 + 1)) 0 a0_4).bind fun t203 => (some (a1_0, a1_1, wrap64 (a0_2 + 1), 0, a0_4, bt187.2.2.2.2.2.1, t203, true))) else (some (bt187.1, bt187.2.1, bt187.2.2.1, bt187.2.2.2.1, bt187.2.2.2.2.1, bt187.2.2.2.2.2.1, bt187.2.2.2.2.2.2, false)))) else (some (bt187.1, bt187.2.1, bt187.2.2.1, bt187.2.2.2.1, bt187.2.2.2.2.1, bt187.2.2.2.2.2.1, bt187.2.2.2.2.2.2, false)))))) else (some (bt187.1, bt187.2.1, bt187.2.2.1, bt187.2.2.2.1, bt187.2.2.2.2.1, bt187.2.2.2.2.2.1, bt187.2.2.2.2.2.2, false))))
theorem spec_ResetGuesses.mono : ∀ a0 a1 a2 a3 a4 a5 a6 a7 a8 k, LeO (spec_ResetGuesses.f k a0 a1 a2 a3 a4 a5 a6 a7 a8) (spec_ResetGuesses.f (k + 1) a0 a1 a2 a3 a4 a5 a6 a7 a8) := by
  intro a0 a1 a2 a3 a4 a5 a6 a7 a8 k
  unfold spec_ResetGuesses.f
  repeat' first
      | (with_reducible exact spec_AreShares.mono _ _)
      | (with_reducible exact spec_IsValidKeeper.mono _ _ _ _ _ _)
      | (with_reducible exact LeO.refl _)
      | (with_reducible exact LeO.none _)
      | (with_reducible refine LeO.ite ?_ ?_)
      | (with_reducible refine LeO.bind ?_ (fun _ => ?_))
      | exact spec_AreShares.mono _ _
      | exact spec_IsValidKeeper.mono _ _ _ _ _ _
      | exact LeO.none _
      | refine LeO.ite ?_ ?_
      | refine LeO.bind ?_ (fun _ => ?_)
set_option maxHeartbeats 8000000 in
set_option maxRecDepth 100000 in
theorem spec_ResetGuesses.calls (k : Nat) (a0_0 : Int) (a0_1 : Int) (a0_2 : Int) (a0_3 : Int) (a0_4 : Int) (A0_5 : Option Addr) (c0_5 : Nat) (l0_5 : List (S28)) (a0_6 : Int) (a1_0 : Int) (a1_1 : Int) (r1 : Int) (r2 : Int) (r3 : Int) (r4 : Int) (r5 : Int) (r6 : List (S28)) (r7 : Int) (r8 : Bool) (w : World) (hr0_5 : Kd.C k28 w A0_5 l0_5.length l0_5) (hc0_5 : l0_5.length ≤ c0_5) (h : spec_ResetGuesses.f k a0_0 a0_1 a0_2 a0_3 a0_4 l0_5 a0_6 a1_0 a1_1 = some (r1, r2, r3, r4, r5, r6, r7, r8)) :
    Calls Try.prog 33 #[.agg #[.int .i64 a0_0, .int .i64 a0_1, .int .i64 a0_2, .int .i64 a0_3, .int .i64 a0_4, .slice A0_5 l0_5.length c0_5, .int .i64 a0_6], .agg #[.int .i64 a1_0, .int .i64 a1_1]] w fun e w' => ∃ v5_ : Value, e = .returned (.tuple #[.agg #[.int .i64 r1, .int .i64 r2, .int .i64 r3, .int .i64 r4, .int .i64 r5, v5_, .int .i64 r7], .bool r8]) ∧ Kd.R k28 28 w' w.heap.size (fun _ => True) v5_ r6 ∧ Below w.heap.size w w' := by
  have hu31 := Try.underlying31
  have hu26 := Try.underlying26
  have hu28 := Try.underlying28
  have HR0_5 := Aside0.mk hr0_5
  have HC0_5 := Aside0.mk hc0_5
  clear hr0_5 hc0_5
  have HB := Aside0.mk (Below.refl w.heap.size w)
  have H : ((spec_l24Copy.f a0_0 a0_1 a0_2 a0_3 a0_4 l0_5 a0_6).bind fun bt187 => ((spec_IsValidKeeper.f k a0_0 a0_1 a0_2 a0_3 a0_4).bind fun t197 => (if t197 = true then ((spec_l24Mark.f a0_0 a0_1 a0_2 a0_3 a0_4).bind fun t198 => (if t198 < a0_6 then (some (bt187.1, bt187.2.1, bt187.2.2.1, bt187.2.2.2.1, bt187.2.2.2.2.1, bt187.2.2.2.2.2.1, bt187.2.2.2.2.2.2, false)) else (if a0_2 = 1000000 then (some (bt187.1, bt187.2.1, bt187.2.2.1, bt187.2.2.2.1, bt187.2.2.2.2.1, bt187.2.2.2.2.2.1, bt187.2.2.2.2.2.2, false)) else (if a1_0 = a0_0 then ((spec_AreShares.f k (([(⟨a1_0, a1_1⟩ : S26)] : List (S26)))).bind fun t202 => (if t202 = true then ((spec_l24Mark.f a1_0 a1_1 (wrap64 (a0_2 + 1)) 0 a0_4).bind fun t203 => (some (a1_0, a1_1, wrap64 (a0_2 + 1), 0, a0_4, bt187.2.2.2.2.2.1, t203, true))) else (some (bt187.1, bt187.2.1, bt187.2.2.1, bt187.2.2.2.1, bt187.2.2.2.2.1, bt187.2.2.2.2.2.1, bt187.2.2.2.2.2.2, false)))) else (some (bt187.1, bt187.2.1, bt187.2.2.1, bt187.2.2.2.1, bt187.2.2.2.2.1, bt187.2.2.2.2.2.1, bt187.2.2.2.2.2.2, false)))))) else (some (bt187.1, bt187.2.1, bt187.2.2.1, bt187.2.2.2.1, bt187.2.2.2.2.1, bt187.2.2.2.2.2.1, bt187.2.2.2.2.2.2, false))))) = some (r1, r2, r3, r4, r5, r6, r7, r8) := h
  clear h
  replace H := Option.bind_eq_some_iff.mp H
  obtain ⟨⟨t187, t188, t189, t190, t191, t192, t195⟩, A30, H⟩ := H
  replace H : ((spec_IsValidKeeper.f k a0_0 a0_1 a0_2 a0_3 a0_4).bind fun t197 => (if t197 = true then ((spec_l24Mark.f a0_0 a0_1 a0_2 a0_3 a0_4).bind fun t198 => (if t198 < a0_6 then (some (t187, t188, t189, t190, t191, t192, t195, false)) else (if a0_2 = 1000000 then (some (t187, t188, t189, t190, t191, t192, t195, false)) else (if a1_0 = a0_0 then ((spec_AreShares.f k (([(⟨a1_0, a1_1⟩ : S26)] : List (S26)))).bind fun t202 => (if t202 = true then ((spec_l24Mark.f a1_0 a1_1 (wrap64 (a0_2 + 1)) 0 a0_4).bind fun t203 => (some (a1_0, a1_1, wrap64 (a0_2 + 1), 0, a0_4, t192, t203, true))) else (some (t187, t188, t189, t190, t191, t192, t195, false)))) else (some (t187, t188, t189, t190, t191, t192, t195, false)))))) else (some (t187, t188, t189, t190, t191, t192, t195, false)))) = some (r1, r2, r3, r4, r5, r6, r7, r8) := H
  have A3 := Aside0.mk A30
  clear A30
  replace H := Option.bind_eq_some_iff.mp H
  obtain ⟨t197, A40, H⟩ := H
  replace H : (if t197 = true then ((spec_l24Mark.f a0_0 a0_1 a0_2 a0_3 a0_4).bind fun t198 => (if t198 < a0_6 then (some (t187, t188, t189, t190, t191, t192, t195, false)) else (if a0_2 = 1000000 then (some (t187, t188, t189, t190, t191, t192, t195, false)) else (if a1_0 = a0_0 then ((spec_AreShares.f k (([(⟨a1_0, a1_1⟩ : S26)] : List (S26)))).bind fun t202 => (if t202 = true then ((spec_l24Mark.f a1_0 a1_1 (wrap64 (a0_2 + 1)) 0 a0_4).bind fun t203 => (some (a1_0, a1_1, wrap64 (a0_2 + 1), 0, a0_4, t192, t203, true))) else (some (t187, t188, t189, t190, t191, t192, t195, false)))) else (some (t187, t188, t189, t190, t191, t192, t195, false)))))) else (some (t187, t188, t189, t190, t191, t192, t195, false))) = some (r1, r2, r3, r4, r5, r6, r7, r8) := H
  have A4 := Aside0.mk A40
  clear A40
  by_cases c5 : t197 = true
  rotate_left
  · replace c5 := Bool.eq_false_iff.mpr c5
    subst c5
    have H1 : (some (t187, t188, t189, t190, t191, t192, t195, false)) = some (r1, r2, r3, r4, r5, r6, r7, r8) := by rw [if_neg (show ¬ (false = true) by decide)] at H; exact H
    clear H
    have H := H1
    clear H1
    simp only [Option.some.injEq, Prod.mk.injEq] at H
    obtain ⟨rfl, rfl, rfl, rfl, rfl, rfl, rfl, rfl⟩ := H
    go_enter Try.func33, Try.ntmps33
    go_wp2_with (first | ((with_reducible refine gate_dst (N := 2) rfl ?_); (try (refine gate_guard (by rfl) ?_; dsimp only)); refine box_event ?hg (N := 2) ?hd (cs := #[.int .i64 a0_0, .int .i64 a0_1, .int .i64 a0_2, .int .i64 a0_3, .int .i64 a0_4, .slice A0_5 l0_5.length c0_5, .int .i64 a0_6]) (t := 31) ?hr ?_; (case hd => rfl); (case hg => rfl); (case hr => first | (go_simp; done) | (go_simp; rfl)); intro gb184 hg wv1 hbox hb; have BK184 := Aside0.mk (hbox); have GE184 := Aside0.mk ((by rw [hg]; exact Nat.le_trans HB.out.size ((Kept.refl w (fun _ => False))).1 : w.heap.size ≤ gb184)); have HG184 := Aside0.mk ((⟨by rw [hg]; exact ((Kept.refl w (fun _ => False))).1, blk_lt hbox⟩ : w.heap.size ≤ gb184 ∧ gb184 < wv1.heap.size)); have HLA := Aside0.mk (((Kept.below (Kept.refl w (fun _ => False)) hb).1 : w.heap.size ≤ wv1.heap.size)); replace HB := Aside0.mk (below_step HB.out hb); clear hb hbox hg) | ((with_reducible refine gate_dst (N := 3) rfl ?_); (try (refine gate_guard (by rfl) ?_; dsimp only)); refine box_event ?hg (N := 3) ?hd (cs := #[.int .i64 a1_0, .int .i64 a1_1]) (t := 26) ?hr ?_; (case hd => rfl); (case hg => rfl); (case hr => first | (go_simp; done) | (go_simp; rfl)); intro gb185 hg wv2 hbox hb; have BK185 := Aside0.mk (hbox); have GE185 := Aside0.mk ((by rw [hg]; exact Nat.le_trans HB.out.size ((Kept.refl wv1 (fun _ => False))).1 : w.heap.size ≤ gb185)); have HG185 := Aside0.mk ((⟨by rw [hg]; exact ((Kept.refl wv1 (fun _ => False))).1, blk_lt hbox⟩ : wv1.heap.size ≤ gb185 ∧ gb185 < wv2.heap.size)); replace BK184 := Aside0.mk (blk_below BK184.out hb); replace HB := Aside0.mk (below_step HB.out hb); replace HLA := Aside0.mk (And.intro HLA.out ((Kept.below (Kept.refl wv1 (fun _ => False)) hb).1 : wv1.heap.size ≤ wv2.heap.size)); clear hb hbox hg) | ((with_reducible refine gate_dst (N := 4) rfl ?_); (try (refine gate_guard (by rfl) ?_; dsimp only)); refine box_event ?hg (N := 4) ?hd (cs := #[.int .i64 0, .int .i64 0, .int .i64 0, .int .i64 0, .int .i64 0, .slice none 0 0, .int .i64 0]) (t := 31) ?hr ?_; (case hd => rfl); (case hg => rfl); (case hr => first | (go_simp; done) | (go_simp; rfl)); intro gb186 hg wv3 hbox hb; have BK186 := Aside0.mk (hbox); have GE186 := Aside0.mk ((by rw [hg]; exact Nat.le_trans HB.out.size ((Kept.refl wv2 (fun _ => False))).1 : w.heap.size ≤ gb186)); have HG186 := Aside0.mk ((⟨by rw [hg]; exact ((Kept.refl wv2 (fun _ => False))).1, blk_lt hbox⟩ : wv2.heap.size ≤ gb186 ∧ gb186 < wv3.heap.size)); replace BK184 := Aside0.mk (blk_below BK184.out hb); replace BK185 := Aside0.mk (blk_below BK185.out hb); replace HB := Aside0.mk (below_step HB.out hb); replace HLA := Aside0.mk (And.intro HLA.out ((Kept.below (Kept.refl wv2 (fun _ => False)) hb).1 : wv2.heap.size ≤ wv3.heap.size)); clear hb hbox hg; obtain ⟨hcz1_0, hcz1_1, hcz1_2, hcz1_3, hcz1_4, hcz1_5, hcz1_6, hcz1_f0, hcz1_f1, hcz1_f2, hcz1_f3, hcz1_f4, hcz1_f5, hcz1_f6⟩ := lk_c7 BK184.out) | ((with_reducible refine gate_callee (f := 73) rfl ?_); refine goesL_ (some 8) rfl rfl Try.func73 (by kernel_rfl) rfl #[.agg #[.int .i64 a0_0, .int .i64 a0_1, .int .i64 a0_2, .int .i64 a0_3, .int .i64 a0_4, .slice A0_5 l0_5.length c0_5, .int .i64 a0_6]] rfl (by (try simp only [List.map_toArray, List.map_cons, List.map_nil]); first | done | rfl | (simp only [List.length_drop, List.length_take]; rfl)) ?_; (with_reducible refine (spec_l24Copy.calls a0_0 a0_1 a0_2 a0_3 a0_4 _ _ l0_5 a0_6 t187 t188 t189 t190 t191 t192 t195 _ ?side1 ?side2 A3.out).mono ?_); (case side1 => exact Kd.C_below HR0_5.out (by repeat (first | (with_reducible first | exact HB.out | apply below_alloc | apply pw_below_drewN | apply below_drew1) | exact HB.out))); (case side2 => exact HC0_5.out); rintro e wv4 ⟨vq2_, rfl, ho0, hb⟩; refine ⟨_, rfl, ?_⟩; have hkW := (Kept.refl wv3 (fun _ => False)); have hk2 := Kept.below hkW hb; obtain ⟨Aq2_, cq2_, rfl⟩ := Kd.R_slice ho0; obtain ⟨okq2_, hoo0, hi0⟩ := lk_R ho0 (a := wv3.heap.size) (b := w.heap.size) hkW.1 (Nat.le_trans HB.out.size hkW.1); have HOq2_ := Aside0.mk (hoo0); have HIq2_ := Aside0.mk (hi0); replace BK184 := Aside0.mk (blk_below BK184.out hb); replace BK185 := Aside0.mk (blk_below BK185.out hb); replace BK186 := Aside0.mk (blk_below BK186.out hb); replace HB := Aside0.mk (below_step (by repeat (first | (with_reducible first | exact HB.out | apply below_alloc | apply pw_below_drewN | apply below_drew1) | exact HB.out)) hb); replace HLA := Aside0.mk (And.intro HLA.out (hk2.1 : wv3.heap.size ≤ wv4.heap.size)); (try clear hb); (try clear hkW); (try clear hk2); (try clear hkp); (try clear hoo0); (try clear hi0); (try clear ho0)) | ((with_reducible refine gate_dst (N := 6) rfl ?_); (try (refine gate_guard (by rfl) ?_; dsimp only)); refine box_event ?hg (N := 6) ?hd (cs := #[.int .i64 0, .int .i64 0, .int .i64 0, .int .i64 0, .int .i64 0, .slice none 0 0, .int .i64 0]) (t := 31) ?hr ?_; (case hd => rfl); (case hg => rfl); (case hr => first | (go_simp; done) | (go_simp; rfl)); intro gb196 hg wv5 hbox hb; have BK196 := Aside0.mk (hbox); have GE196 := Aside0.mk ((by rw [hg]; exact Nat.le_trans HB.out.size ((Kept.refl wv4 (fun _ => False))).1 : w.heap.size ≤ gb196)); have HG196 := Aside0.mk ((⟨by rw [hg]; exact ((Kept.refl wv4 (fun _ => False))).1, blk_lt hbox⟩ : wv4.heap.size ≤ gb196 ∧ gb196 < wv5.heap.size)); replace HOq2_ := Aside0.mk (Kd.R_below HOq2_.out hb); replace BK184 := Aside0.mk (blk_below BK184.out hb); replace BK185 := Aside0.mk (blk_below BK185.out hb); replace BK186 := Aside0.mk (blk_below BK186.out hb); replace HB := Aside0.mk (below_step HB.out hb); replace HLA := Aside0.mk (And.intro HLA.out ((Kept.below (Kept.refl wv4 (fun _ => False)) hb).1 : wv4.heap.size ≤ wv5.heap.size)); clear hb hbox hg; obtain ⟨hcz3_0, hcz3_1, hcz3_2, hcz3_3, hcz3_4, hcz3_5, hcz3_6, hcz3_f0, hcz3_f1, hcz3_f2, hcz3_f3, hcz3_f4, hcz3_f5, hcz3_f6⟩ := lk_c7 BK196.out) | ((with_reducible refine gate_store (t := 31) (p := 6) rfl ?_); refine store_event (t := 31) (p := 6) (v := ?vo_lg12) (w1 := (((((((wv5.setCell ⟨gb196, 0, none⟩ (.int .i64 t187)).setCell ⟨gb196, 1, none⟩ (.int .i64 t188)).setCell ⟨gb196, 2, none⟩ (.int .i64 t189)).setCell ⟨gb196, 3, none⟩ (.int .i64 t190)).setCell ⟨gb196, 4, none⟩ (.int .i64 t191)).setCell ⟨gb196, 5, none⟩ (.slice Aq2_ t192.length cq2_)).setCell ⟨gb196, 6, none⟩ (.int .i64 t195))) ?hg ?ho ?hn ?hr ?_; (case ho => rfl); (case hg => rfl); (case hn => rfl); (case hr => first | (go_simp; done) | (go_simp; rfl)); intro wv6 hw; have hk2 := (show Kept wv5 wv6 (fun k_ => k_ = gb196) from by rw [hw]; exact (show Kept wv5 (((((((wv5.setCell ⟨gb196, 0, none⟩ (.int .i64 t187)).setCell ⟨gb196, 1, none⟩ (.int .i64 t188)).setCell ⟨gb196, 2, none⟩ (.int .i64 t189)).setCell ⟨gb196, 3, none⟩ (.int .i64 t190)).setCell ⟨gb196, 4, none⟩ (.int .i64 t191)).setCell ⟨gb196, 5, none⟩ (.slice Aq2_ t192.length cq2_)).setCell ⟨gb196, 6, none⟩ (.int .i64 t195)) (fun k_ => k_ = gb196) from by repeat (first | (with_reducible first | exact Kept.refl _ _ | apply Kept.alloc | apply Kept.drewN | apply Kept.drew) | refine Kept.setCell ?_ (.inl (by first | exact rfl | exact .inl rfl | exact .inr rfl | exact .inr (.inl rfl) | exact .inr (.inr rfl))) _ | exact Kept.refl _ _))); replace HOq2_ := Aside0.mk (Kd.R_kept HOq2_.out hk2 (fun k_ hk_ hs_ => by have i_ := HIq2_.out k_ hk_; have hs2_ : k_ = gb196 := hs_; have g0_ := HG196.out; have z_ := HLA.out; omega)); replace BK184 := Aside0.mk (blk_kept BK184.out hk2 (fun hs_ => by have hs2_ : gb184 = gb196 := hs_; have g_ := HG184.out; have g0_ := HG196.out; have z_ := HLA.out; omega)); replace BK185 := Aside0.mk (blk_kept BK185.out hk2 (fun hs_ => by have hs2_ : gb185 = gb196 := hs_; have g_ := HG185.out; have g0_ := HG196.out; have z_ := HLA.out; omega)); replace BK186 := Aside0.mk (blk_kept BK186.out hk2 (fun hs_ => by have hs2_ : gb186 = gb196 := hs_; have g_ := HG186.out; have g0_ := HG196.out; have z_ := HLA.out; omega)); replace BK196 := Aside0.mk ((show wv6.heap[gb196]? = some (Obj.cells #[.int .i64 t187, .int .i64 t188, .int .i64 t189, .int .i64 t190, .int .i64 t191, .slice Aq2_ t192.length cq2_, .int .i64 t195] 31 (0, 0)) from by rw [hw]; exact (show _ = some (Obj.cells #[.int .i64 t187, .int .i64 t188, .int .i64 t189, .int .i64 t190, .int .i64 t191, .slice Aq2_ t192.length cq2_, .int .i64 t195] 31 (0, 0)) from by (with_reducible repeat (first | refine blk_drewN ?_ _ | refine blk_drew ?_ | refine blk_alloc ?_ _)); refine blk_put (cs := #[.int .i64 t187, .int .i64 t188, .int .i64 t189, .int .i64 t190, .int .i64 t191, .slice Aq2_ t192.length cq2_, .int .i64 0]) ?_ 6 _ rfl; (with_reducible repeat (first | refine blk_drewN ?_ _ | refine blk_drew ?_ | refine blk_alloc ?_ _)); refine blk_put (cs := #[.int .i64 t187, .int .i64 t188, .int .i64 t189, .int .i64 t190, .int .i64 t191, .slice none 0 0, .int .i64 0]) ?_ 5 _ rfl; (with_reducible repeat (first | refine blk_drewN ?_ _ | refine blk_drew ?_ | refine blk_alloc ?_ _)); refine blk_put (cs := #[.int .i64 t187, .int .i64 t188, .int .i64 t189, .int .i64 t190, .int .i64 0, .slice none 0 0, .int .i64 0]) ?_ 4 _ rfl; (with_reducible repeat (first | refine blk_drewN ?_ _ | refine blk_drew ?_ | refine blk_alloc ?_ _)); refine blk_put (cs := #[.int .i64 t187, .int .i64 t188, .int .i64 t189, .int .i64 0, .int .i64 0, .slice none 0 0, .int .i64 0]) ?_ 3 _ rfl; (with_reducible repeat (first | refine blk_drewN ?_ _ | refine blk_drew ?_ | refine blk_alloc ?_ _)); refine blk_put (cs := #[.int .i64 t187, .int .i64 t188, .int .i64 0, .int .i64 0, .int .i64 0, .slice none 0 0, .int .i64 0]) ?_ 2 _ rfl; (with_reducible repeat (first | refine blk_drewN ?_ _ | refine blk_drew ?_ | refine blk_alloc ?_ _)); refine blk_put (cs := #[.int .i64 t187, .int .i64 0, .int .i64 0, .int .i64 0, .int .i64 0, .slice none 0 0, .int .i64 0]) ?_ 1 _ rfl; (with_reducible repeat (first | refine blk_drewN ?_ _ | refine blk_drew ?_ | refine blk_alloc ?_ _)); refine blk_put (cs := #[.int .i64 0, .int .i64 0, .int .i64 0, .int .i64 0, .int .i64 0, .slice none 0 0, .int .i64 0]) ?_ 0 _ rfl; (with_reducible repeat (first | refine blk_drewN ?_ _ | refine blk_drew ?_ | refine blk_alloc ?_ _)); exact BK196.out))); replace HB := Aside0.mk ((show Below w.heap.size w wv6 from by rw [hw]; exact by repeat (first | (with_reducible first | exact HB.out | apply below_alloc | apply pw_below_drewN | apply below_drew1 | refine below_set ?_ GE196.out) | exact HB.out))); replace HLA := Aside0.mk (And.intro HLA.out (hk2.1 : wv5.heap.size ≤ wv6.heap.size)); clear hw hk2))
    replace HOq2_ := Aside0.mk (Kd.R_kept HOq2_.out (show Kept wv6 wv6.drew (fun k_ => False) from by repeat (first | (with_reducible first | exact Kept.refl _ _ | apply Kept.alloc | apply Kept.drewN | apply Kept.drew) | exact Kept.refl _ _)) (fun _ _ hs_ => hs_.elim))
    replace BK184 := Aside0.mk ((blk_kept BK184.out (show Kept wv6 wv6.drew (fun k_ => False) from by repeat (first | (with_reducible first | exact Kept.refl _ _ | apply Kept.alloc | apply Kept.drewN | apply Kept.drew) | exact Kept.refl _ _)) (fun hs_ => hs_.elim)))
    replace BK185 := Aside0.mk ((blk_kept BK185.out (show Kept wv6 wv6.drew (fun k_ => False) from by repeat (first | (with_reducible first | exact Kept.refl _ _ | apply Kept.alloc | apply Kept.drewN | apply Kept.drew) | exact Kept.refl _ _)) (fun hs_ => hs_.elim)))
    replace BK186 := Aside0.mk ((blk_kept BK186.out (show Kept wv6 wv6.drew (fun k_ => False) from by repeat (first | (with_reducible first | exact Kept.refl _ _ | apply Kept.alloc | apply Kept.drewN | apply Kept.drew) | exact Kept.refl _ _)) (fun hs_ => hs_.elim)))
    replace BK196 := Aside0.mk ((blk_kept BK196.out (show Kept wv6 wv6.drew (fun k_ => False) from by repeat (first | (with_reducible first | exact Kept.refl _ _ | apply Kept.alloc | apply Kept.drewN | apply Kept.drew) | exact Kept.refl _ _)) (fun hs_ => hs_.elim)))
    replace HB := Aside0.mk ((show Below w.heap.size w (wv6.drew) from by repeat (first | (with_reducible first | exact HB.out | apply below_alloc | apply pw_below_drewN | apply below_drew1) | exact HB.out)))
    replace HLA := Aside0.mk (And.intro HLA.out ((show Kept wv6 wv6.drew (fun k_ => False) from by repeat (first | (with_reducible first | exact Kept.refl _ _ | apply Kept.alloc | apply Kept.drewN | apply Kept.drew) | exact Kept.refl _ _)).1 : wv6.heap.size ≤ (wv6.drew).heap.size))
    refine start_ (n := 33) (S := fun w' => w'.cell? ⟨gb184, 0, none⟩ = some (.int .i64 a0_0) ∧ w'.cell? ⟨gb184, 1, none⟩ = some (.int .i64 a0_1) ∧ w'.cell? ⟨gb184, 2, none⟩ = some (.int .i64 a0_2) ∧ w'.cell? ⟨gb184, 3, none⟩ = some (.int .i64 a0_3) ∧ w'.cell? ⟨gb184, 4, none⟩ = some (.int .i64 a0_4) ∧ w'.cell? ⟨gb184, 5, none⟩ = some (.slice A0_5 l0_5.length c0_5) ∧ w'.cell? ⟨gb184, 6, none⟩ = some (.int .i64 a0_6)) (ds := []) #[false, false, false, false, false, false, false, false, false, false, false, false, false, false, false, false, false, false, false, false, false, false, false, false, false, false, false, false, false, false, false, false, false] (by kernel_rfl) rfl rfl (lk_e7 BK184.out) (fun hHeld => ?_)
    generalize wv6.drew = wv7 at HOq2_ BK184 BK185 BK186 BK196 HB HLA hHeld ⊢
    refine pure_ (i := 0) (N := some 9) (v := ?_) (a' := ?_) #[true, false, false, false, false, false, false, false, false, false, false, false, false, false, false, false, false, false, false, false, false, false, false, false, false, false, false, false, false, false, false, false, false] rfl rfl (by kernel_rfl) (fun _ _ _ h => h) (Or.inl ⟨by rfl, ?_⟩) ?_ ?_
    rotate_left
    · intro w'
      go_simp
      with_reducible rfl
    rotate_left
    · simp only [Act.put, List.setIfInBounds_toArray, List.set_cons_zero, List.set_cons_succ, i64_w, i32_w]
      rfl
    refine take_ (i := 1) (N := some 10) (v := ?_) (a' := ?_) #[true, true, false, false, false, false, false, false, false, false, false, false, false, false, false, false, false, false, false, false, false, false, false, false, false, false, false, false, false, false, false, false, false] rfl rfl (by kernel_rfl) (fun _ _ _ h => h) (Or.inl ⟨by rfl, ?_⟩) hHeld ?_ ?_
    rotate_left
    · rintro w' ⟨s0, s1, s2, s3, s4, s5, s6⟩
      go_simp
      with_reducible rfl
    rotate_left
    · simp only [Act.put, List.setIfInBounds_toArray, List.set_cons_zero, List.set_cons_succ, i64_w, i32_w]
      rfl
    refine one_ (i := 2) (N := some 11) #[true, true, true, false, false, false, false, false, false, false, false, false, false, false, false, false, false, false, false, false, false, false, false, false, false, false, false, false, false, false, false, false, false] rfl rfl (by kernel_rfl) (by decide) (fun K hK => ?_)
    refine goes_ Try.func69 (by kernel_rfl) rfl #[.agg #[.int .i64 a0_0, .int .i64 a0_1, .int .i64 a0_2, .int .i64 a0_3, .int .i64 a0_4]] (by rfl) rfl rfl (by (try simp only [List.map_toArray, List.map_cons, List.map_nil]); first | done | rfl | (simp only [List.length_drop, List.length_take]; rfl)) ?_
    (with_reducible refine (spec_IsValidKeeper.calls k a0_0 a0_1 a0_2 a0_3 a0_4 false _  A4.out).mono ?_)
    rintro e wv8 ⟨rfl, hb⟩
    refine ⟨_, rfl, ?_⟩
    have hkW := (Kept.refl wv7 (fun _ => False))
    have hk2 := Kept.below hkW hb
    replace HOq2_ := Aside0.mk (Kd.R_below HOq2_.out hb)
    replace BK184 := Aside0.mk (blk_below BK184.out hb)
    replace BK185 := Aside0.mk (blk_below BK185.out hb)
    replace BK186 := Aside0.mk (blk_below BK186.out hb)
    replace BK196 := Aside0.mk (blk_below BK196.out hb)
    replace HB := Aside0.mk (below_step (by repeat (first | (with_reducible first | exact HB.out | apply below_alloc | apply pw_below_drewN | apply below_drew1) | exact HB.out)) hb)
    replace HLA := Aside0.mk (And.intro HLA.out (hk2.1 : wv7.heap.size ≤ wv8.heap.size))
    (try clear hb)
    (try clear hkW)
    (try clear hk2)
    (try clear hkp)
    refine hK.out _ _ (lk_e7 BK184.out) (fun hHeld => ?_)
    clear hK K
    refine norm_ (a' := ?_) ?_ ?_
    rotate_left
    · show Act.put _ (some 11) _ = _
      simp only [Act.put, List.setIfInBounds_toArray, List.set_cons_zero, List.set_cons_succ, i64_w, i32_w]
      rfl
    refine pure_ (i := 3) (N := some 12) (v := ?_) (a' := ?_) #[true, true, true, true, false, false, false, false, false, false, false, false, false, false, false, false, false, false, false, false, false, false, false, false, false, false, false, false, false, false, false, false, false] rfl rfl (by kernel_rfl) (fun _ _ _ h => h) (Or.inl ⟨by rfl, ?_⟩) ?_ ?_
    rotate_left
    · intro w'
      go_simp
      with_reducible rfl
    rotate_left
    · simp only [Act.put, List.setIfInBounds_toArray, List.set_cons_zero, List.set_cons_succ, i64_w, i32_w]
      rfl
    refine pure_ (i := 4) (N := some 13) (v := ?_) (a' := ?_) #[true, true, true, true, true, false, false, false, false, false, false, false, false, false, false, false, false, false, false, false, false, false, false, false, false, false, false, false, false, false, false, false, false] rfl rfl (by kernel_rfl) (fun _ _ _ h => h) (Or.inl ⟨by rfl, ?_⟩) ?_ ?_
    rotate_left
    · intro w'
      go_simp
      with_reducible rfl
    rotate_left
    · simp only [Act.put, List.setIfInBounds_toArray, List.set_cons_zero, List.set_cons_succ, i64_w, i32_w]
      rfl
    refine pure_ (i := 5) (N := some 14) (v := undef) (a' := ?_) #[true, true, true, true, true, true, false, false, false, false, false, false, false, false, false, false, false, false, false, false, false, false, false, false, false, false, false, false, false, false, false, false, false] rfl rfl (by kernel_rfl) (fun _ _ _ h => h) (Or.inr ⟨by rfl, rfl⟩) ?_ ?_
    rotate_left
    · simp only [Act.put, List.setIfInBounds_toArray, List.set_cons_zero, List.set_cons_succ, i64_w, i32_w]
      rfl
    refine pure_ (i := 6) (N := some 15) (v := undef) (a' := ?_) #[true, true, true, true, true, true, true, false, false, false, false, false, false, false, false, false, false, false, false, false, false, false, false, false, false, false, false, false, false, false, false, false, false] rfl rfl (by kernel_rfl) (fun _ _ _ h => h) (Or.inr ⟨by rfl, rfl⟩) ?_ ?_
    rotate_left
    · simp only [Act.put, List.setIfInBounds_toArray, List.set_cons_zero, List.set_cons_succ, i64_w, i32_w]
      rfl
    refine pure_ (i := 7) (N := some 16) (v := undef) (a' := ?_) #[true, true, true, true, true, true, true, true, false, false, false, false, false, false, false, false, false, false, false, false, false, false, false, false, false, false, false, false, false, false, false, false, false] rfl rfl (by kernel_rfl) (fun _ _ _ h => h) (Or.inr ⟨by rfl, rfl⟩) ?_ ?_
    rotate_left
    · simp only [Act.put, List.setIfInBounds_toArray, List.set_cons_zero, List.set_cons_succ, i64_w, i32_w]
      rfl
    refine pure_ (i := 8) (N := some 17) (v := undef) (a' := ?_) #[true, true, true, true, true, true, true, true, true, false, false, false, false, false, false, false, false, false, false, false, false, false, false, false, false, false, false, false, false, false, false, false, false] rfl rfl (by kernel_rfl) (fun _ _ _ h => h) (Or.inr ⟨by rfl, rfl⟩) ?_ ?_
    rotate_left
    · simp only [Act.put, List.setIfInBounds_toArray, List.set_cons_zero, List.set_cons_succ, i64_w, i32_w]
      rfl
    refine pure_ (i := 9) (N := some 18) (v := undef) (a' := ?_) #[true, true, true, true, true, true, true, true, true, true, false, false, false, false, false, false, false, false, false, false, false, false, false, false, false, false, false, false, false, false, false, false, false] rfl rfl (by kernel_rfl) (fun _ _ _ h => h) (Or.inr ⟨by rfl, rfl⟩) ?_ ?_
    rotate_left
    · simp only [Act.put, List.setIfInBounds_toArray, List.set_cons_zero, List.set_cons_succ, i64_w, i32_w]
      rfl
    refine pure_ (i := 10) (N := some 19) (v := undef) (a' := ?_) #[true, true, true, true, true, true, true, true, true, true, true, false, false, false, false, false, false, false, false, false, false, false, false, false, false, false, false, false, false, false, false, false, false] rfl rfl (by kernel_rfl) (fun _ _ _ h => h) (Or.inr ⟨by rfl, rfl⟩) ?_ ?_
    rotate_left
    · simp only [Act.put, List.setIfInBounds_toArray, List.set_cons_zero, List.set_cons_succ, i64_w, i32_w]
      rfl
    refine pure_ (i := 11) (N := some 20) (v := ?_) (a' := ?_) #[true, true, true, true, true, true, true, true, true, true, true, true, false, false, false, false, false, false, false, false, false, false, false, false, false, false, false, false, false, false, false, false, false] rfl rfl (by kernel_rfl) (fun _ _ _ h => h) (Or.inl ⟨by rfl, ?_⟩) ?_ ?_
    rotate_left
    · intro w'
      go_simp
      with_reducible rfl
    rotate_left
    · simp only [Act.put, List.setIfInBounds_toArray, List.set_cons_zero, List.set_cons_succ, i64_w, i32_w]
      rfl
    refine pure_ (i := 12) (N := some 21) (v := ?_) (a' := ?_) #[true, true, true, true, true, true, true, true, true, true, true, true, true, false, false, false, false, false, false, false, false, false, false, false, false, false, false, false, false, false, false, false, false] rfl rfl (by kernel_rfl) (fun _ _ _ h => h) (Or.inl ⟨by rfl, ?_⟩) ?_ ?_
    rotate_left
    · intro w'
      go_simp
      with_reducible rfl
    rotate_left
    · simp only [Act.put, List.setIfInBounds_toArray, List.set_cons_zero, List.set_cons_succ, i64_w, i32_w]
      rfl
    refine pure_ (i := 13) (N := some 22) (v := undef) (a' := ?_) #[true, true, true, true, true, true, true, true, true, true, true, true, true, true, false, false, false, false, false, false, false, false, false, false, false, false, false, false, false, false, false, false, false] rfl rfl (by kernel_rfl) (fun _ _ _ h => h) (Or.inr ⟨by rfl, rfl⟩) ?_ ?_
    rotate_left
    · simp only [Act.put, List.setIfInBounds_toArray, List.set_cons_zero, List.set_cons_succ, i64_w, i32_w]
      rfl
    refine pure_ (i := 14) (N := some 23) (v := undef) (a' := ?_) #[true, true, true, true, true, true, true, true, true, true, true, true, true, true, true, false, false, false, false, false, false, false, false, false, false, false, false, false, false, false, false, false, false] rfl rfl (by kernel_rfl) (fun _ _ _ h => h) (Or.inr ⟨by rfl, rfl⟩) ?_ ?_
    rotate_left
    · simp only [Act.put, List.setIfInBounds_toArray, List.set_cons_zero, List.set_cons_succ, i64_w, i32_w]
      rfl
    refine pure_ (i := 15) (N := some 24) (v := undef) (a' := ?_) #[true, true, true, true, true, true, true, true, true, true, true, true, true, true, true, true, false, false, false, false, false, false, false, false, false, false, false, false, false, false, false, false, false] rfl rfl (by kernel_rfl) (fun _ _ _ h => h) (Or.inr ⟨by rfl, rfl⟩) ?_ ?_
    rotate_left
    · simp only [Act.put, List.setIfInBounds_toArray, List.set_cons_zero, List.set_cons_succ, i64_w, i32_w]
      rfl
    refine pure_ (i := 16) (N := some 25) (v := undef) (a' := ?_) #[true, true, true, true, true, true, true, true, true, true, true, true, true, true, true, true, true, false, false, false, false, false, false, false, false, false, false, false, false, false, false, false, false] rfl rfl (by kernel_rfl) (fun _ _ _ h => h) (Or.inr ⟨by rfl, rfl⟩) ?_ ?_
    rotate_left
    · simp only [Act.put, List.setIfInBounds_toArray, List.set_cons_zero, List.set_cons_succ, i64_w, i32_w]
      rfl
    refine pure_ (i := 17) (N := some 26) (v := ?_) (a' := ?_) #[true, true, true, true, true, true, true, true, true, true, true, true, true, true, true, true, true, true, false, false, false, false, false, false, false, false, false, false, false, false, false, false, false] rfl rfl (by kernel_rfl) (fun _ _ _ h => h) (Or.inl ⟨by rfl, ?_⟩) ?_ ?_
    rotate_left
    · intro w'
      go_simp
      with_reducible rfl
    rotate_left
    · simp only [Act.put, List.setIfInBounds_toArray, List.set_cons_zero, List.set_cons_succ, i64_w, i32_w]
      rfl
    refine pure_ (i := 18) (N := some 27) (v := ?_) (a' := ?_) #[true, true, true, true, true, true, true, true, true, true, true, true, true, true, true, true, true, true, true, false, false, false, false, false, false, false, false, false, false, false, false, false, false] rfl rfl (by kernel_rfl) (fun _ _ _ h => h) (Or.inl ⟨by rfl, ?_⟩) ?_ ?_
    rotate_left
    · intro w'
      go_simp
      with_reducible rfl
    rotate_left
    · simp only [Act.put, List.setIfInBounds_toArray, List.set_cons_zero, List.set_cons_succ, i64_w, i32_w]
      rfl
    refine pure_ (i := 19) (N := some 28) (v := undef) (a' := ?_) #[true, true, true, true, true, true, true, true, true, true, true, true, true, true, true, true, true, true, true, true, false, false, false, false, false, false, false, false, false, false, false, false, false] rfl rfl (by kernel_rfl) (fun _ _ _ h => h) (Or.inr ⟨by rfl, rfl⟩) ?_ ?_
    rotate_left
    · simp only [Act.put, List.setIfInBounds_toArray, List.set_cons_zero, List.set_cons_succ, i64_w, i32_w]
      rfl
    refine pure_ (i := 20) (N := some 29) (v := undef) (a' := ?_) #[true, true, true, true, true, true, true, true, true, true, true, true, true, true, true, true, true, true, true, true, true, false, false, false, false, false, false, false, false, false, false, false, false] rfl rfl (by kernel_rfl) (fun _ _ _ h => h) (Or.inr ⟨by rfl, rfl⟩) ?_ ?_
    rotate_left
    · simp only [Act.put, List.setIfInBounds_toArray, List.set_cons_zero, List.set_cons_succ, i64_w, i32_w]
      rfl
    refine pure_ (i := 21) (N := some 30) (v := undef) (a' := ?_) #[true, true, true, true, true, true, true, true, true, true, true, true, true, true, true, true, true, true, true, true, true, true, false, false, false, false, false, false, false, false, false, false, false] rfl rfl (by kernel_rfl) (fun _ _ _ h => h) (Or.inr ⟨by rfl, rfl⟩) ?_ ?_
    rotate_left
    · simp only [Act.put, List.setIfInBounds_toArray, List.set_cons_zero, List.set_cons_succ, i64_w, i32_w]
      rfl
    refine pure_ (i := 22) (N := some 31) (v := undef) (a' := ?_) #[true, true, true, true, true, true, true, true, true, true, true, true, true, true, true, true, true, true, true, true, true, true, true, false, false, false, false, false, false, false, false, false, false] rfl rfl (by kernel_rfl) (fun _ _ _ h => h) (Or.inr ⟨by rfl, rfl⟩) ?_ ?_
    rotate_left
    · simp only [Act.put, List.setIfInBounds_toArray, List.set_cons_zero, List.set_cons_succ, i64_w, i32_w]
      rfl
    refine pure_ (i := 23) (N := some 32) (v := undef) (a' := ?_) #[true, true, true, true, true, true, true, true, true, true, true, true, true, true, true, true, true, true, true, true, true, true, true, true, false, false, false, false, false, false, false, false, false] rfl rfl (by kernel_rfl) (fun _ _ _ h => h) (Or.inr ⟨by rfl, rfl⟩) ?_ ?_
    rotate_left
    · simp only [Act.put, List.setIfInBounds_toArray, List.set_cons_zero, List.set_cons_succ, i64_w, i32_w]
      rfl
    refine pure_ (i := 24) (N := some 33) (v := undef) (a' := ?_) #[true, true, true, true, true, true, true, true, true, true, true, true, true, true, true, true, true, true, true, true, true, true, true, true, true, false, false, false, false, false, false, false, false] rfl rfl (by kernel_rfl) (fun _ _ _ h => h) (Or.inr ⟨by rfl, rfl⟩) ?_ ?_
    rotate_left
    · simp only [Act.put, List.setIfInBounds_toArray, List.set_cons_zero, List.set_cons_succ, i64_w, i32_w]
      rfl
    refine pure_ (i := 25) (N := some 34) (v := undef) (a' := ?_) #[true, true, true, true, true, true, true, true, true, true, true, true, true, true, true, true, true, true, true, true, true, true, true, true, true, true, false, false, false, false, false, false, false] rfl rfl (by kernel_rfl) (fun _ _ _ h => h) (Or.inr ⟨by rfl, rfl⟩) ?_ ?_
    rotate_left
    · simp only [Act.put, List.setIfInBounds_toArray, List.set_cons_zero, List.set_cons_succ, i64_w, i32_w]
      rfl
    refine pure_ (i := 26) (N := some 35) (v := ?_) (a' := ?_) #[true, true, true, true, true, true, true, true, true, true, true, true, true, true, true, true, true, true, true, true, true, true, true, true, true, true, true, false, false, false, false, false, false] rfl rfl (by kernel_rfl) (fun _ _ _ h => h) (Or.inl ⟨by rfl, ?_⟩) ?_ ?_
    rotate_left
    · intro w'
      go_simp
      with_reducible rfl
    rotate_left
    · simp only [Act.put, List.setIfInBounds_toArray, List.set_cons_zero, List.set_cons_succ, i64_w, i32_w]
      rfl
    refine pure_ (i := 27) (N := some 36) (v := ?_) (a' := ?_) #[true, true, true, true, true, true, true, true, true, true, true, true, true, true, true, true, true, true, true, true, true, true, true, true, true, true, true, true, false, false, false, false, false] rfl rfl (by kernel_rfl) (fun _ _ _ h => h) (Or.inl ⟨by rfl, ?_⟩) ?_ ?_
    rotate_left
    · intro w'
      go_simp
      with_reducible rfl
    rotate_left
    · simp only [Act.put, List.setIfInBounds_toArray, List.set_cons_zero, List.set_cons_succ, i64_w, i32_w]
      rfl
    refine pure_ (i := 28) (N := some 37) (v := undef) (a' := ?_) #[true, true, true, true, true, true, true, true, true, true, true, true, true, true, true, true, true, true, true, true, true, true, true, true, true, true, true, true, true, false, false, false, false] rfl rfl (by kernel_rfl) (fun _ _ _ h => h) (Or.inr ⟨by rfl, rfl⟩) ?_ ?_
    rotate_left
    · simp only [Act.put, List.setIfInBounds_toArray, List.set_cons_zero, List.set_cons_succ, i64_w, i32_w]
      rfl
    refine pure_ (i := 29) (N := some 38) (v := undef) (a' := ?_) #[true, true, true, true, true, true, true, true, true, true, true, true, true, true, true, true, true, true, true, true, true, true, true, true, true, true, true, true, true, true, false, false, false] rfl rfl (by kernel_rfl) (fun _ _ _ h => h) (Or.inr ⟨by rfl, rfl⟩) ?_ ?_
    rotate_left
    · simp only [Act.put, List.setIfInBounds_toArray, List.set_cons_zero, List.set_cons_succ, i64_w, i32_w]
      rfl
    refine pure_ (i := 30) (N := some 39) (v := undef) (a' := ?_) #[true, true, true, true, true, true, true, true, true, true, true, true, true, true, true, true, true, true, true, true, true, true, true, true, true, true, true, true, true, true, true, false, false] rfl rfl (by kernel_rfl) (fun _ _ _ h => h) (Or.inr ⟨by rfl, rfl⟩) ?_ ?_
    rotate_left
    · simp only [Act.put, List.setIfInBounds_toArray, List.set_cons_zero, List.set_cons_succ, i64_w, i32_w]
      rfl
    refine pure_ (i := 31) (N := some 40) (v := undef) (a' := ?_) #[true, true, true, true, true, true, true, true, true, true, true, true, true, true, true, true, true, true, true, true, true, true, true, true, true, true, true, true, true, true, true, true, false] rfl rfl (by kernel_rfl) (fun _ _ _ h => h) (Or.inr ⟨by rfl, rfl⟩) ?_ ?_
    rotate_left
    · simp only [Act.put, List.setIfInBounds_toArray, List.set_cons_zero, List.set_cons_succ, i64_w, i32_w]
      rfl
    refine pure_ (i := 32) (N := some 41) (v := ?_) (a' := ?_) #[true, true, true, true, true, true, true, true, true, true, true, true, true, true, true, true, true, true, true, true, true, true, true, true, true, true, true, true, true, true, true, true, true] rfl rfl (by kernel_rfl) (fun _ _ _ h => h) (Or.inl ⟨by rfl, ?_⟩) ?_ ?_
    rotate_left
    · intro w'
      go_simp
      with_reducible rfl
    rotate_left
    · simp only [Act.put, List.setIfInBounds_toArray, List.set_cons_zero, List.set_cons_succ, i64_w, i32_w]
      rfl
    refine done_ (by kernel_rfl) ?_
    (try clear hHeld)
    obtain ⟨hcz4_0, hcz4_1, hcz4_2, hcz4_3, hcz4_4, hcz4_5, hcz4_6, hcz4_f0, hcz4_f1, hcz4_f2, hcz4_f3, hcz4_f4, hcz4_f5, hcz4_f6⟩ := lk_c7 BK196.out
    obtain ⟨hcz5_0, hcz5_1, hcz5_2, hcz5_3, hcz5_4, hcz5_5, hcz5_6, hcz5_f0, hcz5_f1, hcz5_f2, hcz5_f3, hcz5_f4, hcz5_f5, hcz5_f6⟩ := lk_c7 BK186.out
    have hnb6_ : gb196 ≠ gb186 := (by have g1_ := HG196.out; have g2_ := HG186.out; have z_ := HLA.out; omega)
    have hnb7_ : gb186 ≠ gb196 := (by have g1_ := HG186.out; have g2_ := HG196.out; have z_ := HLA.out; omega)
    go_wp2_with (first | ((with_reducible refine gate_store (t := 31) (p := 4) rfl ?_); refine store_event (t := 31) (p := 4) (v := ?vo_lg13) (w1 := (((((((wv8.setCell ⟨gb186, 0, none⟩ (.int .i64 t187)).setCell ⟨gb186, 1, none⟩ (.int .i64 t188)).setCell ⟨gb186, 2, none⟩ (.int .i64 t189)).setCell ⟨gb186, 3, none⟩ (.int .i64 t190)).setCell ⟨gb186, 4, none⟩ (.int .i64 t191)).setCell ⟨gb186, 5, none⟩ (.slice Aq2_ t192.length cq2_)).setCell ⟨gb186, 6, none⟩ (.int .i64 t195))) ?hg ?ho ?hn ?hr ?_; (case ho => rfl); (case hg => rfl); (case hn => rfl); (case hr => first | (go_simp; done) | (go_simp; rfl)); intro wv9 hw; have hk2 := (show Kept wv8 wv9 (fun k_ => k_ = gb186) from by rw [hw]; exact (show Kept wv8 (((((((wv8.setCell ⟨gb186, 0, none⟩ (.int .i64 t187)).setCell ⟨gb186, 1, none⟩ (.int .i64 t188)).setCell ⟨gb186, 2, none⟩ (.int .i64 t189)).setCell ⟨gb186, 3, none⟩ (.int .i64 t190)).setCell ⟨gb186, 4, none⟩ (.int .i64 t191)).setCell ⟨gb186, 5, none⟩ (.slice Aq2_ t192.length cq2_)).setCell ⟨gb186, 6, none⟩ (.int .i64 t195)) (fun k_ => k_ = gb186) from by repeat (first | (with_reducible first | exact Kept.refl _ _ | apply Kept.alloc | apply Kept.drewN | apply Kept.drew) | refine Kept.setCell ?_ (.inl (by first | exact rfl | exact .inl rfl | exact .inr rfl | exact .inr (.inl rfl) | exact .inr (.inr rfl))) _ | exact Kept.refl _ _))); replace HOq2_ := Aside0.mk (Kd.R_kept HOq2_.out hk2 (fun k_ hk_ hs_ => by have i_ := HIq2_.out k_ hk_; have hs2_ : k_ = gb186 := hs_; have g0_ := HG186.out; have z_ := HLA.out; omega)); replace BK184 := Aside0.mk (blk_kept BK184.out hk2 (fun hs_ => by have hs2_ : gb184 = gb186 := hs_; have g_ := HG184.out; have g0_ := HG186.out; have z_ := HLA.out; omega)); replace BK185 := Aside0.mk (blk_kept BK185.out hk2 (fun hs_ => by have hs2_ : gb185 = gb186 := hs_; have g_ := HG185.out; have g0_ := HG186.out; have z_ := HLA.out; omega)); replace BK186 := Aside0.mk ((show wv9.heap[gb186]? = some (Obj.cells #[.int .i64 t187, .int .i64 t188, .int .i64 t189, .int .i64 t190, .int .i64 t191, .slice Aq2_ t192.length cq2_, .int .i64 t195] 31 (0, 0)) from by rw [hw]; exact (show _ = some (Obj.cells #[.int .i64 t187, .int .i64 t188, .int .i64 t189, .int .i64 t190, .int .i64 t191, .slice Aq2_ t192.length cq2_, .int .i64 t195] 31 (0, 0)) from by (with_reducible repeat (first | refine blk_drewN ?_ _ | refine blk_drew ?_ | refine blk_alloc ?_ _)); refine blk_put (cs := #[.int .i64 t187, .int .i64 t188, .int .i64 t189, .int .i64 t190, .int .i64 t191, .slice Aq2_ t192.length cq2_, .int .i64 0]) ?_ 6 _ rfl; (with_reducible repeat (first | refine blk_drewN ?_ _ | refine blk_drew ?_ | refine blk_alloc ?_ _)); refine blk_put (cs := #[.int .i64 t187, .int .i64 t188, .int .i64 t189, .int .i64 t190, .int .i64 t191, .slice none 0 0, .int .i64 0]) ?_ 5 _ rfl; (with_reducible repeat (first | refine blk_drewN ?_ _ | refine blk_drew ?_ | refine blk_alloc ?_ _)); refine blk_put (cs := #[.int .i64 t187, .int .i64 t188, .int .i64 t189, .int .i64 t190, .int .i64 0, .slice none 0 0, .int .i64 0]) ?_ 4 _ rfl; (with_reducible repeat (first | refine blk_drewN ?_ _ | refine blk_drew ?_ | refine blk_alloc ?_ _)); refine blk_put (cs := #[.int .i64 t187, .int .i64 t188, .int .i64 t189, .int .i64 0, .int .i64 0, .slice none 0 0, .int .i64 0]) ?_ 3 _ rfl; (with_reducible repeat (first | refine blk_drewN ?_ _ | refine blk_drew ?_ | refine blk_alloc ?_ _)); refine blk_put (cs := #[.int .i64 t187, .int .i64 t188, .int .i64 0, .int .i64 0, .int .i64 0, .slice none 0 0, .int .i64 0]) ?_ 2 _ rfl; (with_reducible repeat (first | refine blk_drewN ?_ _ | refine blk_drew ?_ | refine blk_alloc ?_ _)); refine blk_put (cs := #[.int .i64 t187, .int .i64 0, .int .i64 0, .int .i64 0, .int .i64 0, .slice none 0 0, .int .i64 0]) ?_ 1 _ rfl; (with_reducible repeat (first | refine blk_drewN ?_ _ | refine blk_drew ?_ | refine blk_alloc ?_ _)); refine blk_put (cs := #[.int .i64 0, .int .i64 0, .int .i64 0, .int .i64 0, .int .i64 0, .slice none 0 0, .int .i64 0]) ?_ 0 _ rfl; (with_reducible repeat (first | refine blk_drewN ?_ _ | refine blk_drew ?_ | refine blk_alloc ?_ _)); exact BK186.out))); replace BK196 := Aside0.mk (blk_kept BK196.out hk2 (fun hs_ => by have hs2_ : gb196 = gb186 := hs_; have g_ := HG196.out; have g0_ := HG186.out; have z_ := HLA.out; omega)); replace HB := Aside0.mk ((show Below w.heap.size w wv9 from by rw [hw]; exact by repeat (first | (with_reducible first | exact HB.out | apply below_alloc | apply pw_below_drewN | apply below_drew1 | refine below_set ?_ GE186.out) | exact HB.out))); replace HLA := Aside0.mk (And.intro HLA.out (hk2.1 : wv8.heap.size ≤ wv9.heap.size)); clear hw hk2))
    refine bodyPost_ret (results_ct rfl _ _ gb186 31 #[.int .i64 t187, .int .i64 t188, .int .i64 t189, .int .i64 t190, .int .i64 t191, .slice Aq2_ t192.length cq2_, .int .i64 t195] (0, 0) _ rfl (BK186.out) Try.underlying31 rfl (by kernel_rfl)) rfl ?_
    exact ⟨_, by first | rfl | (simp [errW_none, errW_some] <;> rfl) | (simp [*] <;> rfl), Kd.R_mono HOq2_.out (fun _ _ => trivial), by repeat (first | (with_reducible first | exact HB.out | apply below_alloc | apply pw_below_drewN | apply below_drew1) | exact HB.out)⟩
  subst c5
  have H1 : ((spec_l24Mark.f a0_0 a0_1 a0_2 a0_3 a0_4).bind fun t198 => (if t198 < a0_6 then (some (t187, t188, t189, t190, t191, t192, t195, false)) else (if a0_2 = 1000000 then (some (t187, t188, t189, t190, t191, t192, t195, false)) else (if a1_0 = a0_0 then ((spec_AreShares.f k (([(⟨a1_0, a1_1⟩ : S26)] : List (S26)))).bind fun t202 => (if t202 = true then ((spec_l24Mark.f a1_0 a1_1 (wrap64 (a0_2 + 1)) 0 a0_4).bind fun t203 => (some (a1_0, a1_1, wrap64 (a0_2 + 1), 0, a0_4, t192, t203, true))) else (some (t187, t188, t189, t190, t191, t192, t195, false)))) else (some (t187, t188, t189, t190, t191, t192, t195, false)))))) = some (r1, r2, r3, r4, r5, r6, r7, r8) := by rw [if_pos rfl] at H; exact H
  clear H
  have H := H1
  clear H1
  replace H := Option.bind_eq_some_iff.mp H
  obtain ⟨t198, A60, H⟩ := H
  replace H : (if t198 < a0_6 then (some (t187, t188, t189, t190, t191, t192, t195, false)) else (if a0_2 = 1000000 then (some (t187, t188, t189, t190, t191, t192, t195, false)) else (if a1_0 = a0_0 then ((spec_AreShares.f k (([(⟨a1_0, a1_1⟩ : S26)] : List (S26)))).bind fun t202 => (if t202 = true then ((spec_l24Mark.f a1_0 a1_1 (wrap64 (a0_2 + 1)) 0 a0_4).bind fun t203 => (some (a1_0, a1_1, wrap64 (a0_2 + 1), 0, a0_4, t192, t203, true))) else (some (t187, t188, t189, t190, t191, t192, t195, false)))) else (some (t187, t188, t189, t190, t191, t192, t195, false))))) = some (r1, r2, r3, r4, r5, r6, r7, r8) := H
  have A6 := Aside0.mk A60
  clear A60
  by_cases c7 : t198 < a0_6
  · rw [if_pos c7] at H
    have c7b0 : decide (t198 < a0_6) = true := decide_eq_true c7
    clear c7
    simp only [Option.some.injEq, Prod.mk.injEq] at H
    obtain ⟨rfl, rfl, rfl, rfl, rfl, rfl, rfl, rfl⟩ := H
    go_enter Try.func33, Try.ntmps33
    go_wp2_with (first | ((with_reducible refine gate_dst (N := 2) rfl ?_); (try (refine gate_guard (by rfl) ?_; dsimp only)); refine box_event ?hg (N := 2) ?hd (cs := #[.int .i64 a0_0, .int .i64 a0_1, .int .i64 a0_2, .int .i64 a0_3, .int .i64 a0_4, .slice A0_5 l0_5.length c0_5, .int .i64 a0_6]) (t := 31) ?hr ?_; (case hd => rfl); (case hg => rfl); (case hr => first | (go_simp; done) | (go_simp; rfl)); intro gb184 hg wv1 hbox hb; have BK184 := Aside0.mk (hbox); have GE184 := Aside0.mk ((by rw [hg]; exact Nat.le_trans HB.out.size ((Kept.refl w (fun _ => False))).1 : w.heap.size ≤ gb184)); have HG184 := Aside0.mk ((⟨by rw [hg]; exact ((Kept.refl w (fun _ => False))).1, blk_lt hbox⟩ : w.heap.size ≤ gb184 ∧ gb184 < wv1.heap.size)); have HLA := Aside0.mk (((Kept.below (Kept.refl w (fun _ => False)) hb).1 : w.heap.size ≤ wv1.heap.size)); replace HB := Aside0.mk (below_step HB.out hb); clear hb hbox hg) | ((with_reducible refine gate_dst (N := 3) rfl ?_); (try (refine gate_guard (by rfl) ?_; dsimp only)); refine box_event ?hg (N := 3) ?hd (cs := #[.int .i64 a1_0, .int .i64 a1_1]) (t := 26) ?hr ?_; (case hd => rfl); (case hg => rfl); (case hr => first | (go_simp; done) | (go_simp; rfl)); intro gb185 hg wv2 hbox hb; have BK185 := Aside0.mk (hbox); have GE185 := Aside0.mk ((by rw [hg]; exact Nat.le_trans HB.out.size ((Kept.refl wv1 (fun _ => False))).1 : w.heap.size ≤ gb185)); have HG185 := Aside0.mk ((⟨by rw [hg]; exact ((Kept.refl wv1 (fun _ => False))).1, blk_lt hbox⟩ : wv1.heap.size ≤ gb185 ∧ gb185 < wv2.heap.size)); replace BK184 := Aside0.mk (blk_below BK184.out hb); replace HB := Aside0.mk (below_step HB.out hb); replace HLA := Aside0.mk (And.intro HLA.out ((Kept.below (Kept.refl wv1 (fun _ => False)) hb).1 : wv1.heap.size ≤ wv2.heap.size)); clear hb hbox hg) | ((with_reducible refine gate_dst (N := 4) rfl ?_); (try (refine gate_guard (by rfl) ?_; dsimp only)); refine box_event ?hg (N := 4) ?hd (cs := #[.int .i64 0, .int .i64 0, .int .i64 0, .int .i64 0, .int .i64 0, .slice none 0 0, .int .i64 0]) (t := 31) ?hr ?_; (case hd => rfl); (case hg => rfl); (case hr => first | (go_simp; done) | (go_simp; rfl)); intro gb186 hg wv3 hbox hb; have BK186 := Aside0.mk (hbox); have GE186 := Aside0.mk ((by rw [hg]; exact Nat.le_trans HB.out.size ((Kept.refl wv2 (fun _ => False))).1 : w.heap.size ≤ gb186)); have HG186 := Aside0.mk ((⟨by rw [hg]; exact ((Kept.refl wv2 (fun _ => False))).1, blk_lt hbox⟩ : wv2.heap.size ≤ gb186 ∧ gb186 < wv3.heap.size)); replace BK184 := Aside0.mk (blk_below BK184.out hb); replace BK185 := Aside0.mk (blk_below BK185.out hb); replace HB := Aside0.mk (below_step HB.out hb); replace HLA := Aside0.mk (And.intro HLA.out ((Kept.below (Kept.refl wv2 (fun _ => False)) hb).1 : wv2.heap.size ≤ wv3.heap.size)); clear hb hbox hg; obtain ⟨hcz1_0, hcz1_1, hcz1_2, hcz1_3, hcz1_4, hcz1_5, hcz1_6, hcz1_f0, hcz1_f1, hcz1_f2, hcz1_f3, hcz1_f4, hcz1_f5, hcz1_f6⟩ := lk_c7 BK184.out) | ((with_reducible refine gate_callee (f := 73) rfl ?_); refine goesL_ (some 8) rfl rfl Try.func73 (by kernel_rfl) rfl #[.agg #[.int .i64 a0_0, .int .i64 a0_1, .int .i64 a0_2, .int .i64 a0_3, .int .i64 a0_4, .slice A0_5 l0_5.length c0_5, .int .i64 a0_6]] rfl (by (try simp only [List.map_toArray, List.map_cons, List.map_nil]); first | done | rfl | (simp only [List.length_drop, List.length_take]; rfl)) ?_; (with_reducible refine (spec_l24Copy.calls a0_0 a0_1 a0_2 a0_3 a0_4 _ _ l0_5 a0_6 t187 t188 t189 t190 t191 t192 t195 _ ?side1 ?side2 A3.out).mono ?_); (case side1 => exact Kd.C_below HR0_5.out (by repeat (first | (with_reducible first | exact HB.out | apply below_alloc | apply pw_below_drewN | apply below_drew1) | exact HB.out))); (case side2 => exact HC0_5.out); rintro e wv4 ⟨vq2_, rfl, ho0, hb⟩; refine ⟨_, rfl, ?_⟩; have hkW := (Kept.refl wv3 (fun _ => False)); have hk2 := Kept.below hkW hb; obtain ⟨Aq2_, cq2_, rfl⟩ := Kd.R_slice ho0; obtain ⟨okq2_, hoo0, hi0⟩ := lk_R ho0 (a := wv3.heap.size) (b := w.heap.size) hkW.1 (Nat.le_trans HB.out.size hkW.1); have HOq2_ := Aside0.mk (hoo0); have HIq2_ := Aside0.mk (hi0); replace BK184 := Aside0.mk (blk_below BK184.out hb); replace BK185 := Aside0.mk (blk_below BK185.out hb); replace BK186 := Aside0.mk (blk_below BK186.out hb); replace HB := Aside0.mk (below_step (by repeat (first | (with_reducible first | exact HB.out | apply below_alloc | apply pw_below_drewN | apply below_drew1) | exact HB.out)) hb); replace HLA := Aside0.mk (And.intro HLA.out (hk2.1 : wv3.heap.size ≤ wv4.heap.size)); (try clear hb); (try clear hkW); (try clear hk2); (try clear hkp); (try clear hoo0); (try clear hi0); (try clear ho0)) | ((with_reducible refine gate_dst (N := 6) rfl ?_); (try (refine gate_guard (by rfl) ?_; dsimp only)); refine box_event ?hg (N := 6) ?hd (cs := #[.int .i64 0, .int .i64 0, .int .i64 0, .int .i64 0, .int .i64 0, .slice none 0 0, .int .i64 0]) (t := 31) ?hr ?_; (case hd => rfl); (case hg => rfl); (case hr => first | (go_simp; done) | (go_simp; rfl)); intro gb196 hg wv5 hbox hb; have BK196 := Aside0.mk (hbox); have GE196 := Aside0.mk ((by rw [hg]; exact Nat.le_trans HB.out.size ((Kept.refl wv4 (fun _ => False))).1 : w.heap.size ≤ gb196)); have HG196 := Aside0.mk ((⟨by rw [hg]; exact ((Kept.refl wv4 (fun _ => False))).1, blk_lt hbox⟩ : wv4.heap.size ≤ gb196 ∧ gb196 < wv5.heap.size)); replace HOq2_ := Aside0.mk (Kd.R_below HOq2_.out hb); replace BK184 := Aside0.mk (blk_below BK184.out hb); replace BK185 := Aside0.mk (blk_below BK185.out hb); replace BK186 := Aside0.mk (blk_below BK186.out hb); replace HB := Aside0.mk (below_step HB.out hb); replace HLA := Aside0.mk (And.intro HLA.out ((Kept.below (Kept.refl wv4 (fun _ => False)) hb).1 : wv4.heap.size ≤ wv5.heap.size)); clear hb hbox hg; obtain ⟨hcz3_0, hcz3_1, hcz3_2, hcz3_3, hcz3_4, hcz3_5, hcz3_6, hcz3_f0, hcz3_f1, hcz3_f2, hcz3_f3, hcz3_f4, hcz3_f5, hcz3_f6⟩ := lk_c7 BK196.out) | ((with_reducible refine gate_store (t := 31) (p := 6) rfl ?_); refine store_event (t := 31) (p := 6) (v := ?vo_lg1) (w1 := (((((((wv5.setCell ⟨gb196, 0, none⟩ (.int .i64 t187)).setCell ⟨gb196, 1, none⟩ (.int .i64 t188)).setCell ⟨gb196, 2, none⟩ (.int .i64 t189)).setCell ⟨gb196, 3, none⟩ (.int .i64 t190)).setCell ⟨gb196, 4, none⟩ (.int .i64 t191)).setCell ⟨gb196, 5, none⟩ (.slice Aq2_ t192.length cq2_)).setCell ⟨gb196, 6, none⟩ (.int .i64 t195))) ?hg ?ho ?hn ?hr ?_; (case ho => rfl); (case hg => rfl); (case hn => rfl); (case hr => first | (go_simp; done) | (go_simp; rfl)); intro wv6 hw; have hk2 := (show Kept wv5 wv6 (fun k_ => k_ = gb196) from by rw [hw]; exact (show Kept wv5 (((((((wv5.setCell ⟨gb196, 0, none⟩ (.int .i64 t187)).setCell ⟨gb196, 1, none⟩ (.int .i64 t188)).setCell ⟨gb196, 2, none⟩ (.int .i64 t189)).setCell ⟨gb196, 3, none⟩ (.int .i64 t190)).setCell ⟨gb196, 4, none⟩ (.int .i64 t191)).setCell ⟨gb196, 5, none⟩ (.slice Aq2_ t192.length cq2_)).setCell ⟨gb196, 6, none⟩ (.int .i64 t195)) (fun k_ => k_ = gb196) from by repeat (first | (with_reducible first | exact Kept.refl _ _ | apply Kept.alloc | apply Kept.drewN | apply Kept.drew) | refine Kept.setCell ?_ (.inl (by first | exact rfl | exact .inl rfl | exact .inr rfl | exact .inr (.inl rfl) | exact .inr (.inr rfl))) _ | exact Kept.refl _ _))); replace HOq2_ := Aside0.mk (Kd.R_kept HOq2_.out hk2 (fun k_ hk_ hs_ => by have i_ := HIq2_.out k_ hk_; have hs2_ : k_ = gb196 := hs_; have g0_ := HG196.out; have z_ := HLA.out; omega)); replace BK184 := Aside0.mk (blk_kept BK184.out hk2 (fun hs_ => by have hs2_ : gb184 = gb196 := hs_; have g_ := HG184.out; have g0_ := HG196.out; have z_ := HLA.out; omega)); replace BK185 := Aside0.mk (blk_kept BK185.out hk2 (fun hs_ => by have hs2_ : gb185 = gb196 := hs_; have g_ := HG185.out; have g0_ := HG196.out; have z_ := HLA.out; omega)); replace BK186 := Aside0.mk (blk_kept BK186.out hk2 (fun hs_ => by have hs2_ : gb186 = gb196 := hs_; have g_ := HG186.out; have g0_ := HG196.out; have z_ := HLA.out; omega)); replace BK196 := Aside0.mk ((show wv6.heap[gb196]? = some (Obj.cells #[.int .i64 t187, .int .i64 t188, .int .i64 t189, .int .i64 t190, .int .i64 t191, .slice Aq2_ t192.length cq2_, .int .i64 t195] 31 (0, 0)) from by rw [hw]; exact (show _ = some (Obj.cells #[.int .i64 t187, .int .i64 t188, .int .i64 t189, .int .i64 t190, .int .i64 t191, .slice Aq2_ t192.length cq2_, .int .i64 t195] 31 (0, 0)) from by (with_reducible repeat (first | refine blk_drewN ?_ _ | refine blk_drew ?_ | refine blk_alloc ?_ _)); refine blk_put (cs := #[.int .i64 t187, .int .i64 t188, .int .i64 t189, .int .i64 t190, .int .i64 t191, .slice Aq2_ t192.length cq2_, .int .i64 0]) ?_ 6 _ rfl; (with_reducible repeat (first | refine blk_drewN ?_ _ | refine blk_drew ?_ | refine blk_alloc ?_ _)); refine blk_put (cs := #[.int .i64 t187, .int .i64 t188, .int .i64 t189, .int .i64 t190, .int .i64 t191, .slice none 0 0, .int .i64 0]) ?_ 5 _ rfl; (with_reducible repeat (first | refine blk_drewN ?_ _ | refine blk_drew ?_ | refine blk_alloc ?_ _)); refine blk_put (cs := #[.int .i64 t187, .int .i64 t188, .int .i64 t189, .int .i64 t190, .int .i64 0, .slice none 0 0, .int .i64 0]) ?_ 4 _ rfl; (with_reducible repeat (first | refine blk_drewN ?_ _ | refine blk_drew ?_ | refine blk_alloc ?_ _)); refine blk_put (cs := #[.int .i64 t187, .int .i64 t188, .int .i64 t189, .int .i64 0, .int .i64 0, .slice none 0 0, .int .i64 0]) ?_ 3 _ rfl; (with_reducible repeat (first | refine blk_drewN ?_ _ | refine blk_drew ?_ | refine blk_alloc ?_ _)); refine blk_put (cs := #[.int .i64 t187, .int .i64 t188, .int .i64 0, .int .i64 0, .int .i64 0, .slice none 0 0, .int .i64 0]) ?_ 2 _ rfl; (with_reducible repeat (first | refine blk_drewN ?_ _ | refine blk_drew ?_ | refine blk_alloc ?_ _)); refine blk_put (cs := #[.int .i64 t187, .int .i64 0, .int .i64 0, .int .i64 0, .int .i64 0, .slice none 0 0, .int .i64 0]) ?_ 1 _ rfl; (with_reducible repeat (first | refine blk_drewN ?_ _ | refine blk_drew ?_ | refine blk_alloc ?_ _)); refine blk_put (cs := #[.int .i64 0, .int .i64 0, .int .i64 0, .int .i64 0, .int .i64 0, .slice none 0 0, .int .i64 0]) ?_ 0 _ rfl; (with_reducible repeat (first | refine blk_drewN ?_ _ | refine blk_drew ?_ | refine blk_alloc ?_ _)); exact BK196.out))); replace HB := Aside0.mk ((show Below w.heap.size w wv6 from by rw [hw]; exact by repeat (first | (with_reducible first | exact HB.out | apply below_alloc | apply pw_below_drewN | apply below_drew1 | refine below_set ?_ GE196.out) | exact HB.out))); replace HLA := Aside0.mk (And.intro HLA.out (hk2.1 : wv5.heap.size ≤ wv6.heap.size)); clear hw hk2))
    replace HOq2_ := Aside0.mk (Kd.R_kept HOq2_.out (show Kept wv6 wv6.drew (fun k_ => False) from by repeat (first | (with_reducible first | exact Kept.refl _ _ | apply Kept.alloc | apply Kept.drewN | apply Kept.drew) | exact Kept.refl _ _)) (fun _ _ hs_ => hs_.elim))
    replace BK184 := Aside0.mk ((blk_kept BK184.out (show Kept wv6 wv6.drew (fun k_ => False) from by repeat (first | (with_reducible first | exact Kept.refl _ _ | apply Kept.alloc | apply Kept.drewN | apply Kept.drew) | exact Kept.refl _ _)) (fun hs_ => hs_.elim)))
    replace BK185 := Aside0.mk ((blk_kept BK185.out (show Kept wv6 wv6.drew (fun k_ => False) from by repeat (first | (with_reducible first | exact Kept.refl _ _ | apply Kept.alloc | apply Kept.drewN | apply Kept.drew) | exact Kept.refl _ _)) (fun hs_ => hs_.elim)))
    replace BK186 := Aside0.mk ((blk_kept BK186.out (show Kept wv6 wv6.drew (fun k_ => False) from by repeat (first | (with_reducible first | exact Kept.refl _ _ | apply Kept.alloc | apply Kept.drewN | apply Kept.drew) | exact Kept.refl _ _)) (fun hs_ => hs_.elim)))
    replace BK196 := Aside0.mk ((blk_kept BK196.out (show Kept wv6 wv6.drew (fun k_ => False) from by repeat (first | (with_reducible first | exact Kept.refl _ _ | apply Kept.alloc | apply Kept.drewN | apply Kept.drew) | exact Kept.refl _ _)) (fun hs_ => hs_.elim)))
    replace HB := Aside0.mk ((show Below w.heap.size w (wv6.drew) from by repeat (first | (with_reducible first | exact HB.out | apply below_alloc | apply pw_below_drewN | apply below_drew1) | exact HB.out)))
    replace HLA := Aside0.mk (And.intro HLA.out ((show Kept wv6 wv6.drew (fun k_ => False) from by repeat (first | (with_reducible first | exact Kept.refl _ _ | apply Kept.alloc | apply Kept.drewN | apply Kept.drew) | exact Kept.refl _ _)).1 : wv6.heap.size ≤ (wv6.drew).heap.size))
    refine start_ (n := 33) (S := fun w' => w'.cell? ⟨gb184, 0, none⟩ = some (.int .i64 a0_0) ∧ w'.cell? ⟨gb184, 1, none⟩ = some (.int .i64 a0_1) ∧ w'.cell? ⟨gb184, 2, none⟩ = some (.int .i64 a0_2) ∧ w'.cell? ⟨gb184, 3, none⟩ = some (.int .i64 a0_3) ∧ w'.cell? ⟨gb184, 4, none⟩ = some (.int .i64 a0_4) ∧ w'.cell? ⟨gb184, 5, none⟩ = some (.slice A0_5 l0_5.length c0_5) ∧ w'.cell? ⟨gb184, 6, none⟩ = some (.int .i64 a0_6)) (ds := []) #[false, false, false, false, false, false, false, false, false, false, false, false, false, false, false, false, false, false, false, false, false, false, false, false, false, false, false, false, false, false, false, false, false] (by kernel_rfl) rfl rfl (lk_e7 BK184.out) (fun hHeld => ?_)
    generalize wv6.drew = wv7 at HOq2_ BK184 BK185 BK186 BK196 HB HLA hHeld ⊢
    refine pure_ (i := 0) (N := some 9) (v := ?_) (a' := ?_) #[true, false, false, false, false, false, false, false, false, false, false, false, false, false, false, false, false, false, false, false, false, false, false, false, false, false, false, false, false, false, false, false, false] rfl rfl (by kernel_rfl) (fun _ _ _ h => h) (Or.inl ⟨by rfl, ?_⟩) ?_ ?_
    rotate_left
    · intro w'
      go_simp
      with_reducible rfl
    rotate_left
    · simp only [Act.put, List.setIfInBounds_toArray, List.set_cons_zero, List.set_cons_succ, i64_w, i32_w]
      rfl
    refine take_ (i := 1) (N := some 10) (v := ?_) (a' := ?_) #[true, true, false, false, false, false, false, false, false, false, false, false, false, false, false, false, false, false, false, false, false, false, false, false, false, false, false, false, false, false, false, false, false] rfl rfl (by kernel_rfl) (fun _ _ _ h => h) (Or.inl ⟨by rfl, ?_⟩) hHeld ?_ ?_
    rotate_left
    · rintro w' ⟨s0, s1, s2, s3, s4, s5, s6⟩
      go_simp
      with_reducible rfl
    rotate_left
    · simp only [Act.put, List.setIfInBounds_toArray, List.set_cons_zero, List.set_cons_succ, i64_w, i32_w]
      rfl
    refine one_ (i := 2) (N := some 11) #[true, true, true, false, false, false, false, false, false, false, false, false, false, false, false, false, false, false, false, false, false, false, false, false, false, false, false, false, false, false, false, false, false] rfl rfl (by kernel_rfl) (by decide) (fun K hK => ?_)
    refine goes_ Try.func69 (by kernel_rfl) rfl #[.agg #[.int .i64 a0_0, .int .i64 a0_1, .int .i64 a0_2, .int .i64 a0_3, .int .i64 a0_4]] (by rfl) rfl rfl (by (try simp only [List.map_toArray, List.map_cons, List.map_nil]); first | done | rfl | (simp only [List.length_drop, List.length_take]; rfl)) ?_
    (with_reducible refine (spec_IsValidKeeper.calls k a0_0 a0_1 a0_2 a0_3 a0_4 true _  A4.out).mono ?_)
    rintro e wv8 ⟨rfl, hb⟩
    refine ⟨_, rfl, ?_⟩
    have hkW := (Kept.refl wv7 (fun _ => False))
    have hk2 := Kept.below hkW hb
    replace HOq2_ := Aside0.mk (Kd.R_below HOq2_.out hb)
    replace BK184 := Aside0.mk (blk_below BK184.out hb)
    replace BK185 := Aside0.mk (blk_below BK185.out hb)
    replace BK186 := Aside0.mk (blk_below BK186.out hb)
    replace BK196 := Aside0.mk (blk_below BK196.out hb)
    replace HB := Aside0.mk (below_step (by repeat (first | (with_reducible first | exact HB.out | apply below_alloc | apply pw_below_drewN | apply below_drew1) | exact HB.out)) hb)
    replace HLA := Aside0.mk (And.intro HLA.out (hk2.1 : wv7.heap.size ≤ wv8.heap.size))
    (try clear hb)
    (try clear hkW)
    (try clear hk2)
    (try clear hkp)
    refine hK.out _ _ (lk_e7 BK184.out) (fun hHeld => ?_)
    clear hK K
    refine norm_ (a' := ?_) ?_ ?_
    rotate_left
    · show Act.put _ (some 11) _ = _
      simp only [Act.put, List.setIfInBounds_toArray, List.set_cons_zero, List.set_cons_succ, i64_w, i32_w]
      rfl
    refine pure_ (i := 3) (N := some 12) (v := ?_) (a' := ?_) #[true, true, true, true, false, false, false, false, false, false, false, false, false, false, false, false, false, false, false, false, false, false, false, false, false, false, false, false, false, false, false, false, false] rfl rfl (by kernel_rfl) (fun _ _ _ h => h) (Or.inl ⟨by rfl, ?_⟩) ?_ ?_
    rotate_left
    · intro w'
      go_simp
      with_reducible rfl
    rotate_left
    · simp only [Act.put, List.setIfInBounds_toArray, List.set_cons_zero, List.set_cons_succ, i64_w, i32_w]
      rfl
    refine pure_ (i := 4) (N := some 13) (v := ?_) (a' := ?_) #[true, true, true, true, true, false, false, false, false, false, false, false, false, false, false, false, false, false, false, false, false, false, false, false, false, false, false, false, false, false, false, false, false] rfl rfl (by kernel_rfl) (fun _ _ _ h => h) (Or.inl ⟨by rfl, ?_⟩) ?_ ?_
    rotate_left
    · intro w'
      go_simp
      with_reducible rfl
    rotate_left
    · simp only [Act.put, List.setIfInBounds_toArray, List.set_cons_zero, List.set_cons_succ, i64_w, i32_w]
      rfl
    refine pure_ (i := 5) (N := some 14) (v := ?_) (a' := ?_) #[true, true, true, true, true, true, false, false, false, false, false, false, false, false, false, false, false, false, false, false, false, false, false, false, false, false, false, false, false, false, false, false, false] rfl rfl (by kernel_rfl) (fun _ _ _ h => h) (Or.inl ⟨by rfl, ?_⟩) ?_ ?_
    rotate_left
    · intro w'
      go_simp
      with_reducible rfl
    rotate_left
    · simp only [Act.put, List.setIfInBounds_toArray, List.set_cons_zero, List.set_cons_succ, i64_w, i32_w]
      rfl
    refine pure_ (i := 8) (N := some 17) (v := ?_) (a' := ?_) #[true, true, true, true, true, true, false, false, true, false, false, false, false, false, false, false, false, false, false, false, false, false, false, false, false, false, false, false, false, false, false, false, false] rfl rfl (by kernel_rfl) (fun _ _ _ h => h) (Or.inl ⟨by rfl, ?_⟩) ?_ ?_
    rotate_left
    · intro w'
      go_simp
      with_reducible rfl
    rotate_left
    · simp only [Act.put, List.setIfInBounds_toArray, List.set_cons_zero, List.set_cons_succ, i64_w, i32_w]
      rfl
    refine take_ (i := 6) (N := some 15) (v := ?_) (a' := ?_) #[true, true, true, true, true, true, true, false, true, false, false, false, false, false, false, false, false, false, false, false, false, false, false, false, false, false, false, false, false, false, false, false, false] rfl rfl (by kernel_rfl) (fun _ _ _ h => h) (Or.inl ⟨by rfl, ?_⟩) hHeld ?_ ?_
    rotate_left
    · rintro w' ⟨s0, s1, s2, s3, s4, s5, s6⟩
      go_simp
      with_reducible rfl
    rotate_left
    · simp only [Act.put, List.setIfInBounds_toArray, List.set_cons_zero, List.set_cons_succ, i64_w, i32_w]
      rfl
    refine take_ (i := 9) (N := some 18) (v := ?_) (a' := ?_) #[true, true, true, true, true, true, true, false, true, true, false, false, false, false, false, false, false, false, false, false, false, false, false, false, false, false, false, false, false, false, false, false, false] rfl rfl (by kernel_rfl) (fun _ _ _ h => h) (Or.inl ⟨by rfl, ?_⟩) hHeld ?_ ?_
    rotate_left
    · rintro w' ⟨s0, s1, s2, s3, s4, s5, s6⟩
      go_simp
      with_reducible rfl
    rotate_left
    · simp only [Act.put, List.setIfInBounds_toArray, List.set_cons_zero, List.set_cons_succ, i64_w, i32_w]
      rfl
    refine one_ (i := 7) (N := some 16) #[true, true, true, true, true, true, true, true, true, true, false, false, false, false, false, false, false, false, false, false, false, false, false, false, false, false, false, false, false, false, false, false, false] rfl rfl (by kernel_rfl) (by decide) (fun K hK => ?_)
    refine goes_ Try.func79 (by kernel_rfl) rfl #[.agg #[.int .i64 a0_0, .int .i64 a0_1, .int .i64 a0_2, .int .i64 a0_3, .int .i64 a0_4]] (by rfl) rfl rfl (by (try simp only [List.map_toArray, List.map_cons, List.map_nil]); first | done | rfl | (simp only [List.length_drop, List.length_take]; rfl)) ?_
    (with_reducible refine (spec_l24Mark.calls a0_0 a0_1 a0_2 a0_3 a0_4 t198 _  A6.out).mono ?_)
    rintro e wv9 ⟨rfl, hb⟩
    refine ⟨_, rfl, ?_⟩
    have hkW := (Kept.refl wv8 (fun _ => False))
    have hk2 := Kept.below hkW hb
    replace HOq2_ := Aside0.mk (Kd.R_below HOq2_.out hb)
    replace BK184 := Aside0.mk (blk_below BK184.out hb)
    replace BK185 := Aside0.mk (blk_below BK185.out hb)
    replace BK186 := Aside0.mk (blk_below BK186.out hb)
    replace BK196 := Aside0.mk (blk_below BK196.out hb)
    replace HB := Aside0.mk (below_step (by repeat (first | (with_reducible first | exact HB.out | apply below_alloc | apply pw_below_drewN | apply below_drew1) | exact HB.out)) hb)
    replace HLA := Aside0.mk (And.intro HLA.out (hk2.1 : wv8.heap.size ≤ wv9.heap.size))
    (try clear hb)
    (try clear hkW)
    (try clear hk2)
    (try clear hkp)
    refine hK.out _ _ (lk_e7 BK184.out) (fun hHeld => ?_)
    clear hK K
    refine norm_ (a' := ?_) ?_ ?_
    rotate_left
    · show Act.put _ (some 16) _ = _
      simp only [Act.put, List.setIfInBounds_toArray, List.set_cons_zero, List.set_cons_succ, i64_w, i32_w]
      rfl
    refine pure_ (i := 10) (N := some 19) (v := ?_) (a' := ?_) #[true, true, true, true, true, true, true, true, true, true, true, false, false, false, false, false, false, false, false, false, false, false, false, false, false, false, false, false, false, false, false, false, false] rfl rfl (by kernel_rfl) (fun _ _ _ h => h) (Or.inl ⟨by rfl, ?_⟩) ?_ ?_
    rotate_left
    · intro w'
      go_simp
      with_reducible rfl
    rotate_left
    · simp only [Act.put, List.setIfInBounds_toArray, List.set_cons_zero, List.set_cons_succ, i64_w, i32_w]
      rfl
    refine pure_ (i := 11) (N := some 20) (v := ?_) (a' := ?_) #[true, true, true, true, true, true, true, true, true, true, true, true, false, false, false, false, false, false, false, false, false, false, false, false, false, false, false, false, false, false, false, false, false] rfl rfl (by kernel_rfl) (fun _ _ _ h => h) (Or.inl ⟨by rfl, ?_⟩) ?_ ?_
    rotate_left
    · intro w'
      go_simp
      with_reducible rfl
    rotate_left
    · simp only [Act.put, List.setIfInBounds_toArray, List.set_cons_zero, List.set_cons_succ, i64_w, i32_w]
      rfl
    refine pure_ (i := 12) (N := some 21) (v := ?_) (a' := ?_) #[true, true, true, true, true, true, true, true, true, true, true, true, true, false, false, false, false, false, false, false, false, false, false, false, false, false, false, false, false, false, false, false, false] rfl rfl (by kernel_rfl) (fun _ _ _ h => h) (Or.inl ⟨by rfl, ?_⟩) ?_ ?_
    rotate_left
    · intro w'
      go_simp
      with_reducible rfl
    rotate_left
    · simp only [Act.put, List.setIfInBounds_toArray, List.set_cons_zero, List.set_cons_succ, i64_w, i32_w]
      rfl
    refine pure_ (i := 13) (N := some 22) (v := undef) (a' := ?_) #[true, true, true, true, true, true, true, true, true, true, true, true, true, true, false, false, false, false, false, false, false, false, false, false, false, false, false, false, false, false, false, false, false] rfl rfl (by kernel_rfl) (fun _ _ _ h => h) (Or.inr ⟨by rfl, rfl⟩) ?_ ?_
    rotate_left
    · simp only [Act.put, List.setIfInBounds_toArray, List.set_cons_zero, List.set_cons_succ, i64_w, i32_w]
      rfl
    refine pure_ (i := 14) (N := some 23) (v := undef) (a' := ?_) #[true, true, true, true, true, true, true, true, true, true, true, true, true, true, true, false, false, false, false, false, false, false, false, false, false, false, false, false, false, false, false, false, false] rfl rfl (by kernel_rfl) (fun _ _ _ h => h) (Or.inr ⟨by rfl, rfl⟩) ?_ ?_
    rotate_left
    · simp only [Act.put, List.setIfInBounds_toArray, List.set_cons_zero, List.set_cons_succ, i64_w, i32_w]
      rfl
    refine pure_ (i := 15) (N := some 24) (v := undef) (a' := ?_) #[true, true, true, true, true, true, true, true, true, true, true, true, true, true, true, true, false, false, false, false, false, false, false, false, false, false, false, false, false, false, false, false, false] rfl rfl (by kernel_rfl) (fun _ _ _ h => h) (Or.inr ⟨by rfl, rfl⟩) ?_ ?_
    rotate_left
    · simp only [Act.put, List.setIfInBounds_toArray, List.set_cons_zero, List.set_cons_succ, i64_w, i32_w]
      rfl
    refine pure_ (i := 16) (N := some 25) (v := undef) (a' := ?_) #[true, true, true, true, true, true, true, true, true, true, true, true, true, true, true, true, true, false, false, false, false, false, false, false, false, false, false, false, false, false, false, false, false] rfl rfl (by kernel_rfl) (fun _ _ _ h => h) (Or.inr ⟨by rfl, rfl⟩) ?_ ?_
    rotate_left
    · simp only [Act.put, List.setIfInBounds_toArray, List.set_cons_zero, List.set_cons_succ, i64_w, i32_w]
      rfl
    refine pure_ (i := 17) (N := some 26) (v := ?_) (a' := ?_) #[true, true, true, true, true, true, true, true, true, true, true, true, true, true, true, true, true, true, false, false, false, false, false, false, false, false, false, false, false, false, false, false, false] rfl rfl (by kernel_rfl) (fun _ _ _ h => h) (Or.inl ⟨by rfl, ?_⟩) ?_ ?_
    rotate_left
    · intro w'
      go_simp
      with_reducible rfl
    rotate_left
    · simp only [Act.put, List.setIfInBounds_toArray, List.set_cons_zero, List.set_cons_succ, i64_w, i32_w]
      rfl
    refine pure_ (i := 18) (N := some 27) (v := ?_) (a' := ?_) #[true, true, true, true, true, true, true, true, true, true, true, true, true, true, true, true, true, true, true, false, false, false, false, false, false, false, false, false, false, false, false, false, false] rfl rfl (by kernel_rfl) (fun _ _ _ h => h) (Or.inl ⟨by rfl, ?_⟩) ?_ ?_
    rotate_left
    · intro w'
      go_simp
      with_reducible rfl
    rotate_left
    · simp only [Act.put, List.setIfInBounds_toArray, List.set_cons_zero, List.set_cons_succ, i64_w, i32_w]
      rfl
    refine pure_ (i := 19) (N := some 28) (v := undef) (a' := ?_) #[true, true, true, true, true, true, true, true, true, true, true, true, true, true, true, true, true, true, true, true, false, false, false, false, false, false, false, false, false, false, false, false, false] rfl rfl (by kernel_rfl) (fun _ _ _ h => h) (Or.inr ⟨by rfl, rfl⟩) ?_ ?_
    rotate_left
    · simp only [Act.put, List.setIfInBounds_toArray, List.set_cons_zero, List.set_cons_succ, i64_w, i32_w]
      rfl
    refine pure_ (i := 20) (N := some 29) (v := undef) (a' := ?_) #[true, true, true, true, true, true, true, true, true, true, true, true, true, true, true, true, true, true, true, true, true, false, false, false, false, false, false, false, false, false, false, false, false] rfl rfl (by kernel_rfl) (fun _ _ _ h => h) (Or.inr ⟨by rfl, rfl⟩) ?_ ?_
    rotate_left
    · simp only [Act.put, List.setIfInBounds_toArray, List.set_cons_zero, List.set_cons_succ, i64_w, i32_w]
      rfl
    refine pure_ (i := 21) (N := some 30) (v := undef) (a' := ?_) #[true, true, true, true, true, true, true, true, true, true, true, true, true, true, true, true, true, true, true, true, true, true, false, false, false, false, false, false, false, false, false, false, false] rfl rfl (by kernel_rfl) (fun _ _ _ h => h) (Or.inr ⟨by rfl, rfl⟩) ?_ ?_
    rotate_left
    · simp only [Act.put, List.setIfInBounds_toArray, List.set_cons_zero, List.set_cons_succ, i64_w, i32_w]
      rfl
    refine pure_ (i := 22) (N := some 31) (v := undef) (a' := ?_) #[true, true, true, true, true, true, true, true, true, true, true, true, true, true, true, true, true, true, true, true, true, true, true, false, false, false, false, false, false, false, false, false, false] rfl rfl (by kernel_rfl) (fun _ _ _ h => h) (Or.inr ⟨by rfl, rfl⟩) ?_ ?_
    rotate_left
    · simp only [Act.put, List.setIfInBounds_toArray, List.set_cons_zero, List.set_cons_succ, i64_w, i32_w]
      rfl
    refine pure_ (i := 23) (N := some 32) (v := undef) (a' := ?_) #[true, true, true, true, true, true, true, true, true, true, true, true, true, true, true, true, true, true, true, true, true, true, true, true, false, false, false, false, false, false, false, false, false] rfl rfl (by kernel_rfl) (fun _ _ _ h => h) (Or.inr ⟨by rfl, rfl⟩) ?_ ?_
    rotate_left
    · simp only [Act.put, List.setIfInBounds_toArray, List.set_cons_zero, List.set_cons_succ, i64_w, i32_w]
      rfl
    refine pure_ (i := 24) (N := some 33) (v := undef) (a' := ?_) #[true, true, true, true, true, true, true, true, true, true, true, true, true, true, true, true, true, true, true, true, true, true, true, true, true, false, false, false, false, false, false, false, false] rfl rfl (by kernel_rfl) (fun _ _ _ h => h) (Or.inr ⟨by rfl, rfl⟩) ?_ ?_
    rotate_left
    · simp only [Act.put, List.setIfInBounds_toArray, List.set_cons_zero, List.set_cons_succ, i64_w, i32_w]
      rfl
    refine pure_ (i := 25) (N := some 34) (v := undef) (a' := ?_) #[true, true, true, true, true, true, true, true, true, true, true, true, true, true, true, true, true, true, true, true, true, true, true, true, true, true, false, false, false, false, false, false, false] rfl rfl (by kernel_rfl) (fun _ _ _ h => h) (Or.inr ⟨by rfl, rfl⟩) ?_ ?_
    rotate_left
    · simp only [Act.put, List.setIfInBounds_toArray, List.set_cons_zero, List.set_cons_succ, i64_w, i32_w]
      rfl
    refine pure_ (i := 26) (N := some 35) (v := ?_) (a' := ?_) #[true, true, true, true, true, true, true, true, true, true, true, true, true, true, true, true, true, true, true, true, true, true, true, true, true, true, true, false, false, false, false, false, false] rfl rfl (by kernel_rfl) (fun _ _ _ h => h) (Or.inl ⟨by rfl, ?_⟩) ?_ ?_
    rotate_left
    · intro w'
      go_simp
      with_reducible rfl
    rotate_left
    · simp only [Act.put, List.setIfInBounds_toArray, List.set_cons_zero, List.set_cons_succ, i64_w, i32_w]
      rfl
    refine pure_ (i := 27) (N := some 36) (v := ?_) (a' := ?_) #[true, true, true, true, true, true, true, true, true, true, true, true, true, true, true, true, true, true, true, true, true, true, true, true, true, true, true, true, false, false, false, false, false] rfl rfl (by kernel_rfl) (fun _ _ _ h => h) (Or.inl ⟨by rfl, ?_⟩) ?_ ?_
    rotate_left
    · intro w'
      go_simp
      with_reducible rfl
    rotate_left
    · simp only [Act.put, List.setIfInBounds_toArray, List.set_cons_zero, List.set_cons_succ, i64_w, i32_w]
      rfl
    refine pure_ (i := 28) (N := some 37) (v := undef) (a' := ?_) #[true, true, true, true, true, true, true, true, true, true, true, true, true, true, true, true, true, true, true, true, true, true, true, true, true, true, true, true, true, false, false, false, false] rfl rfl (by kernel_rfl) (fun _ _ _ h => h) (Or.inr ⟨by rfl, rfl⟩) ?_ ?_
    rotate_left
    · simp only [Act.put, List.setIfInBounds_toArray, List.set_cons_zero, List.set_cons_succ, i64_w, i32_w]
      rfl
    refine pure_ (i := 29) (N := some 38) (v := undef) (a' := ?_) #[true, true, true, true, true, true, true, true, true, true, true, true, true, true, true, true, true, true, true, true, true, true, true, true, true, true, true, true, true, true, false, false, false] rfl rfl (by kernel_rfl) (fun _ _ _ h => h) (Or.inr ⟨by rfl, rfl⟩) ?_ ?_
    rotate_left
    · simp only [Act.put, List.setIfInBounds_toArray, List.set_cons_zero, List.set_cons_succ, i64_w, i32_w]
      rfl
    refine pure_ (i := 30) (N := some 39) (v := undef) (a' := ?_) #[true, true, true, true, true, true, true, true, true, true, true, true, true, true, true, true, true, true, true, true, true, true, true, true, true, true, true, true, true, true, true, false, false] rfl rfl (by kernel_rfl) (fun _ _ _ h => h) (Or.inr ⟨by rfl, rfl⟩) ?_ ?_
    rotate_left
    · simp only [Act.put, List.setIfInBounds_toArray, List.set_cons_zero, List.set_cons_succ, i64_w, i32_w]
      rfl
    refine pure_ (i := 31) (N := some 40) (v := undef) (a' := ?_) #[true, true, true, true, true, true, true, true, true, true, true, true, true, true, true, true, true, true, true, true, true, true, true, true, true, true, true, true, true, true, true, true, false] rfl rfl (by kernel_rfl) (fun _ _ _ h => h) (Or.inr ⟨by rfl, rfl⟩) ?_ ?_
    rotate_left
    · simp only [Act.put, List.setIfInBounds_toArray, List.set_cons_zero, List.set_cons_succ, i64_w, i32_w]
      rfl
    refine pure_ (i := 32) (N := some 41) (v := ?_) (a' := ?_) #[true, true, true, true, true, true, true, true, true, true, true, true, true, true, true, true, true, true, true, true, true, true, true, true, true, true, true, true, true, true, true, true, true] rfl rfl (by kernel_rfl) (fun _ _ _ h => h) (Or.inl ⟨by rfl, ?_⟩) ?_ ?_
    rotate_left
    · intro w'
      go_simp
      with_reducible rfl
    rotate_left
    · simp only [Act.put, List.setIfInBounds_toArray, List.set_cons_zero, List.set_cons_succ, i64_w, i32_w]
      rfl
    refine done_ (by kernel_rfl) ?_
    (try clear hHeld)
    obtain ⟨hcz4_0, hcz4_1, hcz4_2, hcz4_3, hcz4_4, hcz4_5, hcz4_6, hcz4_f0, hcz4_f1, hcz4_f2, hcz4_f3, hcz4_f4, hcz4_f5, hcz4_f6⟩ := lk_c7 BK196.out
    obtain ⟨hcz5_0, hcz5_1, hcz5_2, hcz5_3, hcz5_4, hcz5_5, hcz5_6, hcz5_f0, hcz5_f1, hcz5_f2, hcz5_f3, hcz5_f4, hcz5_f5, hcz5_f6⟩ := lk_c7 BK186.out
    have hnb6_ : gb196 ≠ gb186 := (by have g1_ := HG196.out; have g2_ := HG186.out; have z_ := HLA.out; omega)
    have hnb7_ : gb186 ≠ gb196 := (by have g1_ := HG186.out; have g2_ := HG196.out; have z_ := HLA.out; omega)
    go_wp2_with (first | ((with_reducible refine gate_store (t := 31) (p := 4) rfl ?_); refine store_event (t := 31) (p := 4) (v := ?vo_lg2) (w1 := (((((((wv9.setCell ⟨gb186, 0, none⟩ (.int .i64 t187)).setCell ⟨gb186, 1, none⟩ (.int .i64 t188)).setCell ⟨gb186, 2, none⟩ (.int .i64 t189)).setCell ⟨gb186, 3, none⟩ (.int .i64 t190)).setCell ⟨gb186, 4, none⟩ (.int .i64 t191)).setCell ⟨gb186, 5, none⟩ (.slice Aq2_ t192.length cq2_)).setCell ⟨gb186, 6, none⟩ (.int .i64 t195))) ?hg ?ho ?hn ?hr ?_; (case ho => rfl); (case hg => rfl); (case hn => rfl); (case hr => first | (go_simp; done) | (go_simp; rfl)); intro wv10 hw; have hk2 := (show Kept wv9 wv10 (fun k_ => k_ = gb186) from by rw [hw]; exact (show Kept wv9 (((((((wv9.setCell ⟨gb186, 0, none⟩ (.int .i64 t187)).setCell ⟨gb186, 1, none⟩ (.int .i64 t188)).setCell ⟨gb186, 2, none⟩ (.int .i64 t189)).setCell ⟨gb186, 3, none⟩ (.int .i64 t190)).setCell ⟨gb186, 4, none⟩ (.int .i64 t191)).setCell ⟨gb186, 5, none⟩ (.slice Aq2_ t192.length cq2_)).setCell ⟨gb186, 6, none⟩ (.int .i64 t195)) (fun k_ => k_ = gb186) from by repeat (first | (with_reducible first | exact Kept.refl _ _ | apply Kept.alloc | apply Kept.drewN | apply Kept.drew) | refine Kept.setCell ?_ (.inl (by first | exact rfl | exact .inl rfl | exact .inr rfl | exact .inr (.inl rfl) | exact .inr (.inr rfl))) _ | exact Kept.refl _ _))); replace HOq2_ := Aside0.mk (Kd.R_kept HOq2_.out hk2 (fun k_ hk_ hs_ => by have i_ := HIq2_.out k_ hk_; have hs2_ : k_ = gb186 := hs_; have g0_ := HG186.out; have z_ := HLA.out; omega)); replace BK184 := Aside0.mk (blk_kept BK184.out hk2 (fun hs_ => by have hs2_ : gb184 = gb186 := hs_; have g_ := HG184.out; have g0_ := HG186.out; have z_ := HLA.out; omega)); replace BK185 := Aside0.mk (blk_kept BK185.out hk2 (fun hs_ => by have hs2_ : gb185 = gb186 := hs_; have g_ := HG185.out; have g0_ := HG186.out; have z_ := HLA.out; omega)); replace BK186 := Aside0.mk ((show wv10.heap[gb186]? = some (Obj.cells #[.int .i64 t187, .int .i64 t188, .int .i64 t189, .int .i64 t190, .int .i64 t191, .slice Aq2_ t192.length cq2_, .int .i64 t195] 31 (0, 0)) from by rw [hw]; exact (show _ = some (Obj.cells #[.int .i64 t187, .int .i64 t188, .int .i64 t189, .int .i64 t190, .int .i64 t191, .slice Aq2_ t192.length cq2_, .int .i64 t195] 31 (0, 0)) from by (with_reducible repeat (first | refine blk_drewN ?_ _ | refine blk_drew ?_ | refine blk_alloc ?_ _)); refine blk_put (cs := #[.int .i64 t187, .int .i64 t188, .int .i64 t189, .int .i64 t190, .int .i64 t191, .slice Aq2_ t192.length cq2_, .int .i64 0]) ?_ 6 _ rfl; (with_reducible repeat (first | refine blk_drewN ?_ _ | refine blk_drew ?_ | refine blk_alloc ?_ _)); refine blk_put (cs := #[.int .i64 t187, .int .i64 t188, .int .i64 t189, .int .i64 t190, .int .i64 t191, .slice none 0 0, .int .i64 0]) ?_ 5 _ rfl; (with_reducible repeat (first | refine blk_drewN ?_ _ | refine blk_drew ?_ | refine blk_alloc ?_ _)); refine blk_put (cs := #[.int .i64 t187, .int .i64 t188, .int .i64 t189, .int .i64 t190, .int .i64 0, .slice none 0 0, .int .i64 0]) ?_ 4 _ rfl; (with_reducible repeat (first | refine blk_drewN ?_ _ | refine blk_drew ?_ | refine blk_alloc ?_ _)); refine blk_put (cs := #[.int .i64 t187, .int .i64 t188, .int .i64 t189, .int .i64 0, .int .i64 0, .slice none 0 0, .int .i64 0]) ?_ 3 _ rfl; (with_reducible repeat (first | refine blk_drewN ?_ _ | refine blk_drew ?_ | refine blk_alloc ?_ _)); refine blk_put (cs := #[.int .i64 t187, .int .i64 t188, .int .i64 0, .int .i64 0, .int .i64 0, .slice none 0 0, .int .i64 0]) ?_ 2 _ rfl; (with_reducible repeat (first | refine blk_drewN ?_ _ | refine blk_drew ?_ | refine blk_alloc ?_ _)); refine blk_put (cs := #[.int .i64 t187, .int .i64 0, .int .i64 0, .int .i64 0, .int .i64 0, .slice none 0 0, .int .i64 0]) ?_ 1 _ rfl; (with_reducible repeat (first | refine blk_drewN ?_ _ | refine blk_drew ?_ | refine blk_alloc ?_ _)); refine blk_put (cs := #[.int .i64 0, .int .i64 0, .int .i64 0, .int .i64 0, .int .i64 0, .slice none 0 0, .int .i64 0]) ?_ 0 _ rfl; (with_reducible repeat (first | refine blk_drewN ?_ _ | refine blk_drew ?_ | refine blk_alloc ?_ _)); exact BK186.out))); replace BK196 := Aside0.mk (blk_kept BK196.out hk2 (fun hs_ => by have hs2_ : gb196 = gb186 := hs_; have g_ := HG196.out; have g0_ := HG186.out; have z_ := HLA.out; omega)); replace HB := Aside0.mk ((show Below w.heap.size w wv10 from by rw [hw]; exact by repeat (first | (with_reducible first | exact HB.out | apply below_alloc | apply pw_below_drewN | apply below_drew1 | refine below_set ?_ GE186.out) | exact HB.out))); replace HLA := Aside0.mk (And.intro HLA.out (hk2.1 : wv9.heap.size ≤ wv10.heap.size)); clear hw hk2))
    refine bodyPost_ret (results_ct rfl _ _ gb186 31 #[.int .i64 t187, .int .i64 t188, .int .i64 t189, .int .i64 t190, .int .i64 t191, .slice Aq2_ t192.length cq2_, .int .i64 t195] (0, 0) _ rfl (BK186.out) Try.underlying31 rfl (by kernel_rfl)) rfl ?_
    exact ⟨_, by first | rfl | (simp [errW_none, errW_some] <;> rfl) | (simp [*] <;> rfl), Kd.R_mono HOq2_.out (fun _ _ => trivial), by repeat (first | (with_reducible first | exact HB.out | apply below_alloc | apply pw_below_drewN | apply below_drew1) | exact HB.out)⟩
  rw [if_neg c7] at H
  have c7b0 : decide (t198 < a0_6) = false := decide_eq_false c7
  clear c7
  by_cases c8 : a0_2 = 1000000
  · rw [if_pos c8] at H
    have c8b0 : (a0_2 == 1000000) = true := beq_iff_eq.mpr c8
    have c8b1 : (a0_2 != 1000000) = false := bne_eq_false_iff_eq.mpr c8
    clear c8
    simp only [Option.some.injEq, Prod.mk.injEq] at H
    obtain ⟨rfl, rfl, rfl, rfl, rfl, rfl, rfl, rfl⟩ := H
    go_enter Try.func33, Try.ntmps33
    go_wp2_with (first | ((with_reducible refine gate_dst (N := 2) rfl ?_); (try (refine gate_guard (by rfl) ?_; dsimp only)); refine box_event ?hg (N := 2) ?hd (cs := #[.int .i64 a0_0, .int .i64 a0_1, .int .i64 a0_2, .int .i64 a0_3, .int .i64 a0_4, .slice A0_5 l0_5.length c0_5, .int .i64 a0_6]) (t := 31) ?hr ?_; (case hd => rfl); (case hg => rfl); (case hr => first | (go_simp; done) | (go_simp; rfl)); intro gb184 hg wv1 hbox hb; have BK184 := Aside0.mk (hbox); have GE184 := Aside0.mk ((by rw [hg]; exact Nat.le_trans HB.out.size ((Kept.refl w (fun _ => False))).1 : w.heap.size ≤ gb184)); have HG184 := Aside0.mk ((⟨by rw [hg]; exact ((Kept.refl w (fun _ => False))).1, blk_lt hbox⟩ : w.heap.size ≤ gb184 ∧ gb184 < wv1.heap.size)); have HLA := Aside0.mk (((Kept.below (Kept.refl w (fun _ => False)) hb).1 : w.heap.size ≤ wv1.heap.size)); replace HB := Aside0.mk (below_step HB.out hb); clear hb hbox hg) | ((with_reducible refine gate_dst (N := 3) rfl ?_); (try (refine gate_guard (by rfl) ?_; dsimp only)); refine box_event ?hg (N := 3) ?hd (cs := #[.int .i64 a1_0, .int .i64 a1_1]) (t := 26) ?hr ?_; (case hd => rfl); (case hg => rfl); (case hr => first | (go_simp; done) | (go_simp; rfl)); intro gb185 hg wv2 hbox hb; have BK185 := Aside0.mk (hbox); have GE185 := Aside0.mk ((by rw [hg]; exact Nat.le_trans HB.out.size ((Kept.refl wv1 (fun _ => False))).1 : w.heap.size ≤ gb185)); have HG185 := Aside0.mk ((⟨by rw [hg]; exact ((Kept.refl wv1 (fun _ => False))).1, blk_lt hbox⟩ : wv1.heap.size ≤ gb185 ∧ gb185 < wv2.heap.size)); replace BK184 := Aside0.mk (blk_below BK184.out hb); replace HB := Aside0.mk (below_step HB.out hb); replace HLA := Aside0.mk (And.intro HLA.out ((Kept.below (Kept.refl wv1 (fun _ => False)) hb).1 : wv1.heap.size ≤ wv2.heap.size)); clear hb hbox hg) | ((with_reducible refine gate_dst (N := 4) rfl ?_); (try (refine gate_guard (by rfl) ?_; dsimp only)); refine box_event ?hg (N := 4) ?hd (cs := #[.int .i64 0, .int .i64 0, .int .i64 0, .int .i64 0, .int .i64 0, .slice none 0 0, .int .i64 0]) (t := 31) ?hr ?_; (case hd => rfl); (case hg => rfl); (case hr => first | (go_simp; done) | (go_simp; rfl)); intro gb186 hg wv3 hbox hb; have BK186 := Aside0.mk (hbox); have GE186 := Aside0.mk ((by rw [hg]; exact Nat.le_trans HB.out.size ((Kept.refl wv2 (fun _ => False))).1 : w.heap.size ≤ gb186)); have HG186 := Aside0.mk ((⟨by rw [hg]; exact ((Kept.refl wv2 (fun _ => False))).1, blk_lt hbox⟩ : wv2.heap.size ≤ gb186 ∧ gb186 < wv3.heap.size)); replace BK184 := Aside0.mk (blk_below BK184.out hb); replace BK185 := Aside0.mk (blk_below BK185.out hb); replace HB := Aside0.mk (below_step HB.out hb); replace HLA := Aside0.mk (And.intro HLA.out ((Kept.below (Kept.refl wv2 (fun _ => False)) hb).1 : wv2.heap.size ≤ wv3.heap.size)); clear hb hbox hg; obtain ⟨hcz1_0, hcz1_1, hcz1_2, hcz1_3, hcz1_4, hcz1_5, hcz1_6, hcz1_f0, hcz1_f1, hcz1_f2, hcz1_f3, hcz1_f4, hcz1_f5, hcz1_f6⟩ := lk_c7 BK184.out) | ((with_reducible refine gate_callee (f := 73) rfl ?_); refine goesL_ (some 8) rfl rfl Try.func73 (by kernel_rfl) rfl #[.agg #[.int .i64 a0_0, .int .i64 a0_1, .int .i64 a0_2, .int .i64 a0_3, .int .i64 a0_4, .slice A0_5 l0_5.length c0_5, .int .i64 a0_6]] rfl (by (try simp only [List.map_toArray, List.map_cons, List.map_nil]); first | done | rfl | (simp only [List.length_drop, List.length_take]; rfl)) ?_; (with_reducible refine (spec_l24Copy.calls a0_0 a0_1 a0_2 a0_3 a0_4 _ _ l0_5 a0_6 t187 t188 t189 t190 t191 t192 t195 _ ?side1 ?side2 A3.out).mono ?_); (case side1 => exact Kd.C_below HR0_5.out (by repeat (first | (with_reducible first | exact HB.out | apply below_alloc | apply pw_below_drewN | apply below_drew1) | exact HB.out))); (case side2 => exact HC0_5.out); rintro e wv4 ⟨vq2_, rfl, ho0, hb⟩; refine ⟨_, rfl, ?_⟩; have hkW := (Kept.refl wv3 (fun _ => False)); have hk2 := Kept.below hkW hb; obtain ⟨Aq2_, cq2_, rfl⟩ := Kd.R_slice ho0; obtain ⟨okq2_, hoo0, hi0⟩ := lk_R ho0 (a := wv3.heap.size) (b := w.heap.size) hkW.1 (Nat.le_trans HB.out.size hkW.1); have HOq2_ := Aside0.mk (hoo0); have HIq2_ := Aside0.mk (hi0); replace BK184 := Aside0.mk (blk_below BK184.out hb); replace BK185 := Aside0.mk (blk_below BK185.out hb); replace BK186 := Aside0.mk (blk_below BK186.out hb); replace HB := Aside0.mk (below_step (by repeat (first | (with_reducible first | exact HB.out | apply below_alloc | apply pw_below_drewN | apply below_drew1) | exact HB.out)) hb); replace HLA := Aside0.mk (And.intro HLA.out (hk2.1 : wv3.heap.size ≤ wv4.heap.size)); (try clear hb); (try clear hkW); (try clear hk2); (try clear hkp); (try clear hoo0); (try clear hi0); (try clear ho0)) | ((with_reducible refine gate_dst (N := 6) rfl ?_); (try (refine gate_guard (by rfl) ?_; dsimp only)); refine box_event ?hg (N := 6) ?hd (cs := #[.int .i64 0, .int .i64 0, .int .i64 0, .int .i64 0, .int .i64 0, .slice none 0 0, .int .i64 0]) (t := 31) ?hr ?_; (case hd => rfl); (case hg => rfl); (case hr => first | (go_simp; done) | (go_simp; rfl)); intro gb196 hg wv5 hbox hb; have BK196 := Aside0.mk (hbox); have GE196 := Aside0.mk ((by rw [hg]; exact Nat.le_trans HB.out.size ((Kept.refl wv4 (fun _ => False))).1 : w.heap.size ≤ gb196)); have HG196 := Aside0.mk ((⟨by rw [hg]; exact ((Kept.refl wv4 (fun _ => False))).1, blk_lt hbox⟩ : wv4.heap.size ≤ gb196 ∧ gb196 < wv5.heap.size)); replace HOq2_ := Aside0.mk (Kd.R_below HOq2_.out hb); replace BK184 := Aside0.mk (blk_below BK184.out hb); replace BK185 := Aside0.mk (blk_below BK185.out hb); replace BK186 := Aside0.mk (blk_below BK186.out hb); replace HB := Aside0.mk (below_step HB.out hb); replace HLA := Aside0.mk (And.intro HLA.out ((Kept.below (Kept.refl wv4 (fun _ => False)) hb).1 : wv4.heap.size ≤ wv5.heap.size)); clear hb hbox hg; obtain ⟨hcz3_0, hcz3_1, hcz3_2, hcz3_3, hcz3_4, hcz3_5, hcz3_6, hcz3_f0, hcz3_f1, hcz3_f2, hcz3_f3, hcz3_f4, hcz3_f5, hcz3_f6⟩ := lk_c7 BK196.out) | ((with_reducible refine gate_store (t := 31) (p := 6) rfl ?_); refine store_event (t := 31) (p := 6) (v := ?vo_lg3) (w1 := (((((((wv5.setCell ⟨gb196, 0, none⟩ (.int .i64 t187)).setCell ⟨gb196, 1, none⟩ (.int .i64 t188)).setCell ⟨gb196, 2, none⟩ (.int .i64 t189)).setCell ⟨gb196, 3, none⟩ (.int .i64 t190)).setCell ⟨gb196, 4, none⟩ (.int .i64 t191)).setCell ⟨gb196, 5, none⟩ (.slice Aq2_ t192.length cq2_)).setCell ⟨gb196, 6, none⟩ (.int .i64 t195))) ?hg ?ho ?hn ?hr ?_; (case ho => rfl); (case hg => rfl); (case hn => rfl); (case hr => first | (go_simp; done) | (go_simp; rfl)); intro wv6 hw; have hk2 := (show Kept wv5 wv6 (fun k_ => k_ = gb196) from by rw [hw]; exact (show Kept wv5 (((((((wv5.setCell ⟨gb196, 0, none⟩ (.int .i64 t187)).setCell ⟨gb196, 1, none⟩ (.int .i64 t188)).setCell ⟨gb196, 2, none⟩ (.int .i64 t189)).setCell ⟨gb196, 3, none⟩ (.int .i64 t190)).setCell ⟨gb196, 4, none⟩ (.int .i64 t191)).setCell ⟨gb196, 5, none⟩ (.slice Aq2_ t192.length cq2_)).setCell ⟨gb196, 6, none⟩ (.int .i64 t195)) (fun k_ => k_ = gb196) from by repeat (first | (with_reducible first | exact Kept.refl _ _ | apply Kept.alloc | apply Kept.drewN | apply Kept.drew) | refine Kept.setCell ?_ (.inl (by first | exact rfl | exact .inl rfl | exact .inr rfl | exact .inr (.inl rfl) | exact .inr (.inr rfl))) _ | exact Kept.refl _ _))); replace HOq2_ := Aside0.mk (Kd.R_kept HOq2_.out hk2 (fun k_ hk_ hs_ => by have i_ := HIq2_.out k_ hk_; have hs2_ : k_ = gb196 := hs_; have g0_ := HG196.out; have z_ := HLA.out; omega)); replace BK184 := Aside0.mk (blk_kept BK184.out hk2 (fun hs_ => by have hs2_ : gb184 = gb196 := hs_; have g_ := HG184.out; have g0_ := HG196.out; have z_ := HLA.out; omega)); replace BK185 := Aside0.mk (blk_kept BK185.out hk2 (fun hs_ => by have hs2_ : gb185 = gb196 := hs_; have g_ := HG185.out; have g0_ := HG196.out; have z_ := HLA.out; omega)); replace BK186 := Aside0.mk (blk_kept BK186.out hk2 (fun hs_ => by have hs2_ : gb186 = gb196 := hs_; have g_ := HG186.out; have g0_ := HG196.out; have z_ := HLA.out; omega)); replace BK196 := Aside0.mk ((show wv6.heap[gb196]? = some (Obj.cells #[.int .i64 t187, .int .i64 t188, .int .i64 t189, .int .i64 t190, .int .i64 t191, .slice Aq2_ t192.length cq2_, .int .i64 t195] 31 (0, 0)) from by rw [hw]; exact (show _ = some (Obj.cells #[.int .i64 t187, .int .i64 t188, .int .i64 t189, .int .i64 t190, .int .i64 t191, .slice Aq2_ t192.length cq2_, .int .i64 t195] 31 (0, 0)) from by (with_reducible repeat (first | refine blk_drewN ?_ _ | refine blk_drew ?_ | refine blk_alloc ?_ _)); refine blk_put (cs := #[.int .i64 t187, .int .i64 t188, .int .i64 t189, .int .i64 t190, .int .i64 t191, .slice Aq2_ t192.length cq2_, .int .i64 0]) ?_ 6 _ rfl; (with_reducible repeat (first | refine blk_drewN ?_ _ | refine blk_drew ?_ | refine blk_alloc ?_ _)); refine blk_put (cs := #[.int .i64 t187, .int .i64 t188, .int .i64 t189, .int .i64 t190, .int .i64 t191, .slice none 0 0, .int .i64 0]) ?_ 5 _ rfl; (with_reducible repeat (first | refine blk_drewN ?_ _ | refine blk_drew ?_ | refine blk_alloc ?_ _)); refine blk_put (cs := #[.int .i64 t187, .int .i64 t188, .int .i64 t189, .int .i64 t190, .int .i64 0, .slice none 0 0, .int .i64 0]) ?_ 4 _ rfl; (with_reducible repeat (first | refine blk_drewN ?_ _ | refine blk_drew ?_ | refine blk_alloc ?_ _)); refine blk_put (cs := #[.int .i64 t187, .int .i64 t188, .int .i64 t189, .int .i64 0, .int .i64 0, .slice none 0 0, .int .i64 0]) ?_ 3 _ rfl; (with_reducible repeat (first | refine blk_drewN ?_ _ | refine blk_drew ?_ | refine blk_alloc ?_ _)); refine blk_put (cs := #[.int .i64 t187, .int .i64 t188, .int .i64 0, .int .i64 0, .int .i64 0, .slice none 0 0, .int .i64 0]) ?_ 2 _ rfl; (with_reducible repeat (first | refine blk_drewN ?_ _ | refine blk_drew ?_ | refine blk_alloc ?_ _)); refine blk_put (cs := #[.int .i64 t187, .int .i64 0, .int .i64 0, .int .i64 0, .int .i64 0, .slice none 0 0, .int .i64 0]) ?_ 1 _ rfl; (with_reducible repeat (first | refine blk_drewN ?_ _ | refine blk_drew ?_ | refine blk_alloc ?_ _)); refine blk_put (cs := #[.int .i64 0, .int .i64 0, .int .i64 0, .int .i64 0, .int .i64 0, .slice none 0 0, .int .i64 0]) ?_ 0 _ rfl; (with_reducible repeat (first | refine blk_drewN ?_ _ | refine blk_drew ?_ | refine blk_alloc ?_ _)); exact BK196.out))); replace HB := Aside0.mk ((show Below w.heap.size w wv6 from by rw [hw]; exact by repeat (first | (with_reducible first | exact HB.out | apply below_alloc | apply pw_below_drewN | apply below_drew1 | refine below_set ?_ GE196.out) | exact HB.out))); replace HLA := Aside0.mk (And.intro HLA.out (hk2.1 : wv5.heap.size ≤ wv6.heap.size)); clear hw hk2))
    replace HOq2_ := Aside0.mk (Kd.R_kept HOq2_.out (show Kept wv6 wv6.drew (fun k_ => False) from by repeat (first | (with_reducible first | exact Kept.refl _ _ | apply Kept.alloc | apply Kept.drewN | apply Kept.drew) | exact Kept.refl _ _)) (fun _ _ hs_ => hs_.elim))
    replace BK184 := Aside0.mk ((blk_kept BK184.out (show Kept wv6 wv6.drew (fun k_ => False) from by repeat (first | (with_reducible first | exact Kept.refl _ _ | apply Kept.alloc | apply Kept.drewN | apply Kept.drew) | exact Kept.refl _ _)) (fun hs_ => hs_.elim)))
    replace BK185 := Aside0.mk ((blk_kept BK185.out (show Kept wv6 wv6.drew (fun k_ => False) from by repeat (first | (with_reducible first | exact Kept.refl _ _ | apply Kept.alloc | apply Kept.drewN | apply Kept.drew) | exact Kept.refl _ _)) (fun hs_ => hs_.elim)))
    replace BK186 := Aside0.mk ((blk_kept BK186.out (show Kept wv6 wv6.drew (fun k_ => False) from by repeat (first | (with_reducible first | exact Kept.refl _ _ | apply Kept.alloc | apply Kept.drewN | apply Kept.drew) | exact Kept.refl _ _)) (fun hs_ => hs_.elim)))
    replace BK196 := Aside0.mk ((blk_kept BK196.out (show Kept wv6 wv6.drew (fun k_ => False) from by repeat (first | (with_reducible first | exact Kept.refl _ _ | apply Kept.alloc | apply Kept.drewN | apply Kept.drew) | exact Kept.refl _ _)) (fun hs_ => hs_.elim)))
    replace HB := Aside0.mk ((show Below w.heap.size w (wv6.drew) from by repeat (first | (with_reducible first | exact HB.out | apply below_alloc | apply pw_below_drewN | apply below_drew1) | exact HB.out)))
    replace HLA := Aside0.mk (And.intro HLA.out ((show Kept wv6 wv6.drew (fun k_ => False) from by repeat (first | (with_reducible first | exact Kept.refl _ _ | apply Kept.alloc | apply Kept.drewN | apply Kept.drew) | exact Kept.refl _ _)).1 : wv6.heap.size ≤ (wv6.drew).heap.size))
    refine start_ (n := 33) (S := fun w' => w'.cell? ⟨gb184, 0, none⟩ = some (.int .i64 a0_0) ∧ w'.cell? ⟨gb184, 1, none⟩ = some (.int .i64 a0_1) ∧ w'.cell? ⟨gb184, 2, none⟩ = some (.int .i64 a0_2) ∧ w'.cell? ⟨gb184, 3, none⟩ = some (.int .i64 a0_3) ∧ w'.cell? ⟨gb184, 4, none⟩ = some (.int .i64 a0_4) ∧ w'.cell? ⟨gb184, 5, none⟩ = some (.slice A0_5 l0_5.length c0_5) ∧ w'.cell? ⟨gb184, 6, none⟩ = some (.int .i64 a0_6)) (ds := []) #[false, false, false, false, false, false, false, false, false, false, false, false, false, false, false, false, false, false, false, false, false, false, false, false, false, false, false, false, false, false, false, false, false] (by kernel_rfl) rfl rfl (lk_e7 BK184.out) (fun hHeld => ?_)
    generalize wv6.drew = wv7 at HOq2_ BK184 BK185 BK186 BK196 HB HLA hHeld ⊢
    refine pure_ (i := 0) (N := some 9) (v := ?_) (a' := ?_) #[true, false, false, false, false, false, false, false, false, false, false, false, false, false, false, false, false, false, false, false, false, false, false, false, false, false, false, false, false, false, false, false, false] rfl rfl (by kernel_rfl) (fun _ _ _ h => h) (Or.inl ⟨by rfl, ?_⟩) ?_ ?_
    rotate_left
    · intro w'
      go_simp
      with_reducible rfl
    rotate_left
    · simp only [Act.put, List.setIfInBounds_toArray, List.set_cons_zero, List.set_cons_succ, i64_w, i32_w]
      rfl
    refine take_ (i := 1) (N := some 10) (v := ?_) (a' := ?_) #[true, true, false, false, false, false, false, false, false, false, false, false, false, false, false, false, false, false, false, false, false, false, false, false, false, false, false, false, false, false, false, false, false] rfl rfl (by kernel_rfl) (fun _ _ _ h => h) (Or.inl ⟨by rfl, ?_⟩) hHeld ?_ ?_
    rotate_left
    · rintro w' ⟨s0, s1, s2, s3, s4, s5, s6⟩
      go_simp
      with_reducible rfl
    rotate_left
    · simp only [Act.put, List.setIfInBounds_toArray, List.set_cons_zero, List.set_cons_succ, i64_w, i32_w]
      rfl
    refine one_ (i := 2) (N := some 11) #[true, true, true, false, false, false, false, false, false, false, false, false, false, false, false, false, false, false, false, false, false, false, false, false, false, false, false, false, false, false, false, false, false] rfl rfl (by kernel_rfl) (by decide) (fun K hK => ?_)
    refine goes_ Try.func69 (by kernel_rfl) rfl #[.agg #[.int .i64 a0_0, .int .i64 a0_1, .int .i64 a0_2, .int .i64 a0_3, .int .i64 a0_4]] (by rfl) rfl rfl (by (try simp only [List.map_toArray, List.map_cons, List.map_nil]); first | done | rfl | (simp only [List.length_drop, List.length_take]; rfl)) ?_
    (with_reducible refine (spec_IsValidKeeper.calls k a0_0 a0_1 a0_2 a0_3 a0_4 true _  A4.out).mono ?_)
    rintro e wv8 ⟨rfl, hb⟩
    refine ⟨_, rfl, ?_⟩
    have hkW := (Kept.refl wv7 (fun _ => False))
    have hk2 := Kept.below hkW hb
    replace HOq2_ := Aside0.mk (Kd.R_below HOq2_.out hb)
    replace BK184 := Aside0.mk (blk_below BK184.out hb)
    replace BK185 := Aside0.mk (blk_below BK185.out hb)
    replace BK186 := Aside0.mk (blk_below BK186.out hb)
    replace BK196 := Aside0.mk (blk_below BK196.out hb)
    replace HB := Aside0.mk (below_step (by repeat (first | (with_reducible first | exact HB.out | apply below_alloc | apply pw_below_drewN | apply below_drew1) | exact HB.out)) hb)
    replace HLA := Aside0.mk (And.intro HLA.out (hk2.1 : wv7.heap.size ≤ wv8.heap.size))
    (try clear hb)
    (try clear hkW)
    (try clear hk2)
    (try clear hkp)
    refine hK.out _ _ (lk_e7 BK184.out) (fun hHeld => ?_)
    clear hK K
    refine norm_ (a' := ?_) ?_ ?_
    rotate_left
    · show Act.put _ (some 11) _ = _
      simp only [Act.put, List.setIfInBounds_toArray, List.set_cons_zero, List.set_cons_succ, i64_w, i32_w]
      rfl
    refine pure_ (i := 3) (N := some 12) (v := ?_) (a' := ?_) #[true, true, true, true, false, false, false, false, false, false, false, false, false, false, false, false, false, false, false, false, false, false, false, false, false, false, false, false, false, false, false, false, false] rfl rfl (by kernel_rfl) (fun _ _ _ h => h) (Or.inl ⟨by rfl, ?_⟩) ?_ ?_
    rotate_left
    · intro w'
      go_simp
      with_reducible rfl
    rotate_left
    · simp only [Act.put, List.setIfInBounds_toArray, List.set_cons_zero, List.set_cons_succ, i64_w, i32_w]
      rfl
    refine pure_ (i := 4) (N := some 13) (v := ?_) (a' := ?_) #[true, true, true, true, true, false, false, false, false, false, false, false, false, false, false, false, false, false, false, false, false, false, false, false, false, false, false, false, false, false, false, false, false] rfl rfl (by kernel_rfl) (fun _ _ _ h => h) (Or.inl ⟨by rfl, ?_⟩) ?_ ?_
    rotate_left
    · intro w'
      go_simp
      with_reducible rfl
    rotate_left
    · simp only [Act.put, List.setIfInBounds_toArray, List.set_cons_zero, List.set_cons_succ, i64_w, i32_w]
      rfl
    refine pure_ (i := 5) (N := some 14) (v := ?_) (a' := ?_) #[true, true, true, true, true, true, false, false, false, false, false, false, false, false, false, false, false, false, false, false, false, false, false, false, false, false, false, false, false, false, false, false, false] rfl rfl (by kernel_rfl) (fun _ _ _ h => h) (Or.inl ⟨by rfl, ?_⟩) ?_ ?_
    rotate_left
    · intro w'
      go_simp
      with_reducible rfl
    rotate_left
    · simp only [Act.put, List.setIfInBounds_toArray, List.set_cons_zero, List.set_cons_succ, i64_w, i32_w]
      rfl
    refine pure_ (i := 8) (N := some 17) (v := ?_) (a' := ?_) #[true, true, true, true, true, true, false, false, true, false, false, false, false, false, false, false, false, false, false, false, false, false, false, false, false, false, false, false, false, false, false, false, false] rfl rfl (by kernel_rfl) (fun _ _ _ h => h) (Or.inl ⟨by rfl, ?_⟩) ?_ ?_
    rotate_left
    · intro w'
      go_simp
      with_reducible rfl
    rotate_left
    · simp only [Act.put, List.setIfInBounds_toArray, List.set_cons_zero, List.set_cons_succ, i64_w, i32_w]
      rfl
    refine take_ (i := 6) (N := some 15) (v := ?_) (a' := ?_) #[true, true, true, true, true, true, true, false, true, false, false, false, false, false, false, false, false, false, false, false, false, false, false, false, false, false, false, false, false, false, false, false, false] rfl rfl (by kernel_rfl) (fun _ _ _ h => h) (Or.inl ⟨by rfl, ?_⟩) hHeld ?_ ?_
    rotate_left
    · rintro w' ⟨s0, s1, s2, s3, s4, s5, s6⟩
      go_simp
      with_reducible rfl
    rotate_left
    · simp only [Act.put, List.setIfInBounds_toArray, List.set_cons_zero, List.set_cons_succ, i64_w, i32_w]
      rfl
    refine take_ (i := 9) (N := some 18) (v := ?_) (a' := ?_) #[true, true, true, true, true, true, true, false, true, true, false, false, false, false, false, false, false, false, false, false, false, false, false, false, false, false, false, false, false, false, false, false, false] rfl rfl (by kernel_rfl) (fun _ _ _ h => h) (Or.inl ⟨by rfl, ?_⟩) hHeld ?_ ?_
    rotate_left
    · rintro w' ⟨s0, s1, s2, s3, s4, s5, s6⟩
      go_simp
      with_reducible rfl
    rotate_left
    · simp only [Act.put, List.setIfInBounds_toArray, List.set_cons_zero, List.set_cons_succ, i64_w, i32_w]
      rfl
    refine one_ (i := 7) (N := some 16) #[true, true, true, true, true, true, true, true, true, true, false, false, false, false, false, false, false, false, false, false, false, false, false, false, false, false, false, false, false, false, false, false, false] rfl rfl (by kernel_rfl) (by decide) (fun K hK => ?_)
    refine goes_ Try.func79 (by kernel_rfl) rfl #[.agg #[.int .i64 a0_0, .int .i64 a0_1, .int .i64 a0_2, .int .i64 a0_3, .int .i64 a0_4]] (by rfl) rfl rfl (by (try simp only [List.map_toArray, List.map_cons, List.map_nil]); first | done | rfl | (simp only [List.length_drop, List.length_take]; rfl)) ?_
    (with_reducible refine (spec_l24Mark.calls a0_0 a0_1 a0_2 a0_3 a0_4 t198 _  A6.out).mono ?_)
    rintro e wv9 ⟨rfl, hb⟩
    refine ⟨_, rfl, ?_⟩
    have hkW := (Kept.refl wv8 (fun _ => False))
    have hk2 := Kept.below hkW hb
    replace HOq2_ := Aside0.mk (Kd.R_below HOq2_.out hb)
    replace BK184 := Aside0.mk (blk_below BK184.out hb)
    replace BK185 := Aside0.mk (blk_below BK185.out hb)
    replace BK186 := Aside0.mk (blk_below BK186.out hb)
    replace BK196 := Aside0.mk (blk_below BK196.out hb)
    replace HB := Aside0.mk (below_step (by repeat (first | (with_reducible first | exact HB.out | apply below_alloc | apply pw_below_drewN | apply below_drew1) | exact HB.out)) hb)
    replace HLA := Aside0.mk (And.intro HLA.out (hk2.1 : wv8.heap.size ≤ wv9.heap.size))
    (try clear hb)
    (try clear hkW)
    (try clear hk2)
    (try clear hkp)
    refine hK.out _ _ (lk_e7 BK184.out) (fun hHeld => ?_)
    clear hK K
    refine norm_ (a' := ?_) ?_ ?_
    rotate_left
    · show Act.put _ (some 16) _ = _
      simp only [Act.put, List.setIfInBounds_toArray, List.set_cons_zero, List.set_cons_succ, i64_w, i32_w]
      rfl
    refine pure_ (i := 10) (N := some 19) (v := ?_) (a' := ?_) #[true, true, true, true, true, true, true, true, true, true, true, false, false, false, false, false, false, false, false, false, false, false, false, false, false, false, false, false, false, false, false, false, false] rfl rfl (by kernel_rfl) (fun _ _ _ h => h) (Or.inl ⟨by rfl, ?_⟩) ?_ ?_
    rotate_left
    · intro w'
      go_simp
      with_reducible rfl
    rotate_left
    · simp only [Act.put, List.setIfInBounds_toArray, List.set_cons_zero, List.set_cons_succ, i64_w, i32_w]
      rfl
    refine pure_ (i := 11) (N := some 20) (v := ?_) (a' := ?_) #[true, true, true, true, true, true, true, true, true, true, true, true, false, false, false, false, false, false, false, false, false, false, false, false, false, false, false, false, false, false, false, false, false] rfl rfl (by kernel_rfl) (fun _ _ _ h => h) (Or.inl ⟨by rfl, ?_⟩) ?_ ?_
    rotate_left
    · intro w'
      go_simp
      with_reducible rfl
    rotate_left
    · simp only [Act.put, List.setIfInBounds_toArray, List.set_cons_zero, List.set_cons_succ, i64_w, i32_w]
      rfl
    refine pure_ (i := 12) (N := some 21) (v := ?_) (a' := ?_) #[true, true, true, true, true, true, true, true, true, true, true, true, true, false, false, false, false, false, false, false, false, false, false, false, false, false, false, false, false, false, false, false, false] rfl rfl (by kernel_rfl) (fun _ _ _ h => h) (Or.inl ⟨by rfl, ?_⟩) ?_ ?_
    rotate_left
    · intro w'
      go_simp
      with_reducible rfl
    rotate_left
    · simp only [Act.put, List.setIfInBounds_toArray, List.set_cons_zero, List.set_cons_succ, i64_w, i32_w]
      rfl
    refine pure_ (i := 13) (N := some 22) (v := ?_) (a' := ?_) #[true, true, true, true, true, true, true, true, true, true, true, true, true, true, false, false, false, false, false, false, false, false, false, false, false, false, false, false, false, false, false, false, false] rfl rfl (by kernel_rfl) (fun _ _ _ h => h) (Or.inl ⟨by rfl, ?_⟩) ?_ ?_
    rotate_left
    · intro w'
      go_simp
      with_reducible rfl
    rotate_left
    · simp only [Act.put, List.setIfInBounds_toArray, List.set_cons_zero, List.set_cons_succ, i64_w, i32_w]
      rfl
    refine pure_ (i := 14) (N := some 23) (v := ?_) (a' := ?_) #[true, true, true, true, true, true, true, true, true, true, true, true, true, true, true, false, false, false, false, false, false, false, false, false, false, false, false, false, false, false, false, false, false] rfl rfl (by kernel_rfl) (fun _ _ _ h => h) (Or.inl ⟨by rfl, ?_⟩) ?_ ?_
    rotate_left
    · intro w'
      go_simp
      with_reducible rfl
    rotate_left
    · simp only [Act.put, List.setIfInBounds_toArray, List.set_cons_zero, List.set_cons_succ, i64_w, i32_w]
      rfl
    refine take_ (i := 15) (N := some 24) (v := ?_) (a' := ?_) #[true, true, true, true, true, true, true, true, true, true, true, true, true, true, true, true, false, false, false, false, false, false, false, false, false, false, false, false, false, false, false, false, false] rfl rfl (by kernel_rfl) (fun _ _ _ h => h) (Or.inl ⟨by rfl, ?_⟩) hHeld ?_ ?_
    rotate_left
    · rintro w' ⟨s0, s1, s2, s3, s4, s5, s6⟩
      go_simp
      with_reducible rfl
    rotate_left
    · simp only [Act.put, List.setIfInBounds_toArray, List.set_cons_zero, List.set_cons_succ, i64_w, i32_w]
      rfl
    refine pure_ (i := 16) (N := some 25) (v := ?_) (a' := ?_) #[true, true, true, true, true, true, true, true, true, true, true, true, true, true, true, true, true, false, false, false, false, false, false, false, false, false, false, false, false, false, false, false, false] rfl rfl (by kernel_rfl) (fun _ _ _ h => h) (Or.inl ⟨by rfl, ?_⟩) ?_ ?_
    rotate_left
    · intro w'
      go_simp
      with_reducible rfl
    rotate_left
    · simp only [Act.put, List.setIfInBounds_toArray, List.set_cons_zero, List.set_cons_succ, i64_w, i32_w]
      rfl
    refine pure_ (i := 17) (N := some 26) (v := ?_) (a' := ?_) #[true, true, true, true, true, true, true, true, true, true, true, true, true, true, true, true, true, true, false, false, false, false, false, false, false, false, false, false, false, false, false, false, false] rfl rfl (by kernel_rfl) (fun _ _ _ h => h) (Or.inl ⟨by rfl, ?_⟩) ?_ ?_
    rotate_left
    · intro w'
      go_simp
      with_reducible rfl
    rotate_left
    · simp only [Act.put, List.setIfInBounds_toArray, List.set_cons_zero, List.set_cons_succ, i64_w, i32_w]
      rfl
    refine pure_ (i := 18) (N := some 27) (v := ?_) (a' := ?_) #[true, true, true, true, true, true, true, true, true, true, true, true, true, true, true, true, true, true, true, false, false, false, false, false, false, false, false, false, false, false, false, false, false] rfl rfl (by kernel_rfl) (fun _ _ _ h => h) (Or.inl ⟨by rfl, ?_⟩) ?_ ?_
    rotate_left
    · intro w'
      go_simp
      with_reducible rfl
    rotate_left
    · simp only [Act.put, List.setIfInBounds_toArray, List.set_cons_zero, List.set_cons_succ, i64_w, i32_w]
      rfl
    refine pure_ (i := 19) (N := some 28) (v := undef) (a' := ?_) #[true, true, true, true, true, true, true, true, true, true, true, true, true, true, true, true, true, true, true, true, false, false, false, false, false, false, false, false, false, false, false, false, false] rfl rfl (by kernel_rfl) (fun _ _ _ h => h) (Or.inr ⟨by rfl, rfl⟩) ?_ ?_
    rotate_left
    · simp only [Act.put, List.setIfInBounds_toArray, List.set_cons_zero, List.set_cons_succ, i64_w, i32_w]
      rfl
    refine pure_ (i := 20) (N := some 29) (v := undef) (a' := ?_) #[true, true, true, true, true, true, true, true, true, true, true, true, true, true, true, true, true, true, true, true, true, false, false, false, false, false, false, false, false, false, false, false, false] rfl rfl (by kernel_rfl) (fun _ _ _ h => h) (Or.inr ⟨by rfl, rfl⟩) ?_ ?_
    rotate_left
    · simp only [Act.put, List.setIfInBounds_toArray, List.set_cons_zero, List.set_cons_succ, i64_w, i32_w]
      rfl
    refine pure_ (i := 21) (N := some 30) (v := undef) (a' := ?_) #[true, true, true, true, true, true, true, true, true, true, true, true, true, true, true, true, true, true, true, true, true, true, false, false, false, false, false, false, false, false, false, false, false] rfl rfl (by kernel_rfl) (fun _ _ _ h => h) (Or.inr ⟨by rfl, rfl⟩) ?_ ?_
    rotate_left
    · simp only [Act.put, List.setIfInBounds_toArray, List.set_cons_zero, List.set_cons_succ, i64_w, i32_w]
      rfl
    refine pure_ (i := 22) (N := some 31) (v := undef) (a' := ?_) #[true, true, true, true, true, true, true, true, true, true, true, true, true, true, true, true, true, true, true, true, true, true, true, false, false, false, false, false, false, false, false, false, false] rfl rfl (by kernel_rfl) (fun _ _ _ h => h) (Or.inr ⟨by rfl, rfl⟩) ?_ ?_
    rotate_left
    · simp only [Act.put, List.setIfInBounds_toArray, List.set_cons_zero, List.set_cons_succ, i64_w, i32_w]
      rfl
    refine pure_ (i := 23) (N := some 32) (v := undef) (a' := ?_) #[true, true, true, true, true, true, true, true, true, true, true, true, true, true, true, true, true, true, true, true, true, true, true, true, false, false, false, false, false, false, false, false, false] rfl rfl (by kernel_rfl) (fun _ _ _ h => h) (Or.inr ⟨by rfl, rfl⟩) ?_ ?_
    rotate_left
    · simp only [Act.put, List.setIfInBounds_toArray, List.set_cons_zero, List.set_cons_succ, i64_w, i32_w]
      rfl
    refine pure_ (i := 24) (N := some 33) (v := undef) (a' := ?_) #[true, true, true, true, true, true, true, true, true, true, true, true, true, true, true, true, true, true, true, true, true, true, true, true, true, false, false, false, false, false, false, false, false] rfl rfl (by kernel_rfl) (fun _ _ _ h => h) (Or.inr ⟨by rfl, rfl⟩) ?_ ?_
    rotate_left
    · simp only [Act.put, List.setIfInBounds_toArray, List.set_cons_zero, List.set_cons_succ, i64_w, i32_w]
      rfl
    refine pure_ (i := 25) (N := some 34) (v := undef) (a' := ?_) #[true, true, true, true, true, true, true, true, true, true, true, true, true, true, true, true, true, true, true, true, true, true, true, true, true, true, false, false, false, false, false, false, false] rfl rfl (by kernel_rfl) (fun _ _ _ h => h) (Or.inr ⟨by rfl, rfl⟩) ?_ ?_
    rotate_left
    · simp only [Act.put, List.setIfInBounds_toArray, List.set_cons_zero, List.set_cons_succ, i64_w, i32_w]
      rfl
    refine pure_ (i := 26) (N := some 35) (v := ?_) (a' := ?_) #[true, true, true, true, true, true, true, true, true, true, true, true, true, true, true, true, true, true, true, true, true, true, true, true, true, true, true, false, false, false, false, false, false] rfl rfl (by kernel_rfl) (fun _ _ _ h => h) (Or.inl ⟨by rfl, ?_⟩) ?_ ?_
    rotate_left
    · intro w'
      go_simp
      with_reducible rfl
    rotate_left
    · simp only [Act.put, List.setIfInBounds_toArray, List.set_cons_zero, List.set_cons_succ, i64_w, i32_w]
      rfl
    refine pure_ (i := 27) (N := some 36) (v := ?_) (a' := ?_) #[true, true, true, true, true, true, true, true, true, true, true, true, true, true, true, true, true, true, true, true, true, true, true, true, true, true, true, true, false, false, false, false, false] rfl rfl (by kernel_rfl) (fun _ _ _ h => h) (Or.inl ⟨by rfl, ?_⟩) ?_ ?_
    rotate_left
    · intro w'
      go_simp
      with_reducible rfl
    rotate_left
    · simp only [Act.put, List.setIfInBounds_toArray, List.set_cons_zero, List.set_cons_succ, i64_w, i32_w]
      rfl
    refine pure_ (i := 28) (N := some 37) (v := undef) (a' := ?_) #[true, true, true, true, true, true, true, true, true, true, true, true, true, true, true, true, true, true, true, true, true, true, true, true, true, true, true, true, true, false, false, false, false] rfl rfl (by kernel_rfl) (fun _ _ _ h => h) (Or.inr ⟨by rfl, rfl⟩) ?_ ?_
    rotate_left
    · simp only [Act.put, List.setIfInBounds_toArray, List.set_cons_zero, List.set_cons_succ, i64_w, i32_w]
      rfl
    refine pure_ (i := 29) (N := some 38) (v := undef) (a' := ?_) #[true, true, true, true, true, true, true, true, true, true, true, true, true, true, true, true, true, true, true, true, true, true, true, true, true, true, true, true, true, true, false, false, false] rfl rfl (by kernel_rfl) (fun _ _ _ h => h) (Or.inr ⟨by rfl, rfl⟩) ?_ ?_
    rotate_left
    · simp only [Act.put, List.setIfInBounds_toArray, List.set_cons_zero, List.set_cons_succ, i64_w, i32_w]
      rfl
    refine pure_ (i := 30) (N := some 39) (v := undef) (a' := ?_) #[true, true, true, true, true, true, true, true, true, true, true, true, true, true, true, true, true, true, true, true, true, true, true, true, true, true, true, true, true, true, true, false, false] rfl rfl (by kernel_rfl) (fun _ _ _ h => h) (Or.inr ⟨by rfl, rfl⟩) ?_ ?_
    rotate_left
    · simp only [Act.put, List.setIfInBounds_toArray, List.set_cons_zero, List.set_cons_succ, i64_w, i32_w]
      rfl
    refine pure_ (i := 31) (N := some 40) (v := undef) (a' := ?_) #[true, true, true, true, true, true, true, true, true, true, true, true, true, true, true, true, true, true, true, true, true, true, true, true, true, true, true, true, true, true, true, true, false] rfl rfl (by kernel_rfl) (fun _ _ _ h => h) (Or.inr ⟨by rfl, rfl⟩) ?_ ?_
    rotate_left
    · simp only [Act.put, List.setIfInBounds_toArray, List.set_cons_zero, List.set_cons_succ, i64_w, i32_w]
      rfl
    refine pure_ (i := 32) (N := some 41) (v := ?_) (a' := ?_) #[true, true, true, true, true, true, true, true, true, true, true, true, true, true, true, true, true, true, true, true, true, true, true, true, true, true, true, true, true, true, true, true, true] rfl rfl (by kernel_rfl) (fun _ _ _ h => h) (Or.inl ⟨by rfl, ?_⟩) ?_ ?_
    rotate_left
    · intro w'
      go_simp
      with_reducible rfl
    rotate_left
    · simp only [Act.put, List.setIfInBounds_toArray, List.set_cons_zero, List.set_cons_succ, i64_w, i32_w]
      rfl
    refine done_ (by kernel_rfl) ?_
    (try clear hHeld)
    obtain ⟨hcz4_0, hcz4_1, hcz4_2, hcz4_3, hcz4_4, hcz4_5, hcz4_6, hcz4_f0, hcz4_f1, hcz4_f2, hcz4_f3, hcz4_f4, hcz4_f5, hcz4_f6⟩ := lk_c7 BK196.out
    obtain ⟨hcz5_0, hcz5_1, hcz5_2, hcz5_3, hcz5_4, hcz5_5, hcz5_6, hcz5_f0, hcz5_f1, hcz5_f2, hcz5_f3, hcz5_f4, hcz5_f5, hcz5_f6⟩ := lk_c7 BK186.out
    have hnb6_ : gb196 ≠ gb186 := (by have g1_ := HG196.out; have g2_ := HG186.out; have z_ := HLA.out; omega)
    have hnb7_ : gb186 ≠ gb196 := (by have g1_ := HG186.out; have g2_ := HG196.out; have z_ := HLA.out; omega)
    go_wp2_with (first | ((with_reducible refine gate_store (t := 31) (p := 4) rfl ?_); refine store_event (t := 31) (p := 4) (v := ?vo_lg4) (w1 := (((((((wv9.setCell ⟨gb186, 0, none⟩ (.int .i64 t187)).setCell ⟨gb186, 1, none⟩ (.int .i64 t188)).setCell ⟨gb186, 2, none⟩ (.int .i64 t189)).setCell ⟨gb186, 3, none⟩ (.int .i64 t190)).setCell ⟨gb186, 4, none⟩ (.int .i64 t191)).setCell ⟨gb186, 5, none⟩ (.slice Aq2_ t192.length cq2_)).setCell ⟨gb186, 6, none⟩ (.int .i64 t195))) ?hg ?ho ?hn ?hr ?_; (case ho => rfl); (case hg => rfl); (case hn => rfl); (case hr => first | (go_simp; done) | (go_simp; rfl)); intro wv10 hw; have hk2 := (show Kept wv9 wv10 (fun k_ => k_ = gb186) from by rw [hw]; exact (show Kept wv9 (((((((wv9.setCell ⟨gb186, 0, none⟩ (.int .i64 t187)).setCell ⟨gb186, 1, none⟩ (.int .i64 t188)).setCell ⟨gb186, 2, none⟩ (.int .i64 t189)).setCell ⟨gb186, 3, none⟩ (.int .i64 t190)).setCell ⟨gb186, 4, none⟩ (.int .i64 t191)).setCell ⟨gb186, 5, none⟩ (.slice Aq2_ t192.length cq2_)).setCell ⟨gb186, 6, none⟩ (.int .i64 t195)) (fun k_ => k_ = gb186) from by repeat (first | (with_reducible first | exact Kept.refl _ _ | apply Kept.alloc | apply Kept.drewN | apply Kept.drew) | refine Kept.setCell ?_ (.inl (by first | exact rfl | exact .inl rfl | exact .inr rfl | exact .inr (.inl rfl) | exact .inr (.inr rfl))) _ | exact Kept.refl _ _))); replace HOq2_ := Aside0.mk (Kd.R_kept HOq2_.out hk2 (fun k_ hk_ hs_ => by have i_ := HIq2_.out k_ hk_; have hs2_ : k_ = gb186 := hs_; have g0_ := HG186.out; have z_ := HLA.out; omega)); replace BK184 := Aside0.mk (blk_kept BK184.out hk2 (fun hs_ => by have hs2_ : gb184 = gb186 := hs_; have g_ := HG184.out; have g0_ := HG186.out; have z_ := HLA.out; omega)); replace BK185 := Aside0.mk (blk_kept BK185.out hk2 (fun hs_ => by have hs2_ : gb185 = gb186 := hs_; have g_ := HG185.out; have g0_ := HG186.out; have z_ := HLA.out; omega)); replace BK186 := Aside0.mk ((show wv10.heap[gb186]? = some (Obj.cells #[.int .i64 t187, .int .i64 t188, .int .i64 t189, .int .i64 t190, .int .i64 t191, .slice Aq2_ t192.length cq2_, .int .i64 t195] 31 (0, 0)) from by rw [hw]; exact (show _ = some (Obj.cells #[.int .i64 t187, .int .i64 t188, .int .i64 t189, .int .i64 t190, .int .i64 t191, .slice Aq2_ t192.length cq2_, .int .i64 t195] 31 (0, 0)) from by (with_reducible repeat (first | refine blk_drewN ?_ _ | refine blk_drew ?_ | refine blk_alloc ?_ _)); refine blk_put (cs := #[.int .i64 t187, .int .i64 t188, .int .i64 t189, .int .i64 t190, .int .i64 t191, .slice Aq2_ t192.length cq2_, .int .i64 0]) ?_ 6 _ rfl; (with_reducible repeat (first | refine blk_drewN ?_ _ | refine blk_drew ?_ | refine blk_alloc ?_ _)); refine blk_put (cs := #[.int .i64 t187, .int .i64 t188, .int .i64 t189, .int .i64 t190, .int .i64 t191, .slice none 0 0, .int .i64 0]) ?_ 5 _ rfl; (with_reducible repeat (first | refine blk_drewN ?_ _ | refine blk_drew ?_ | refine blk_alloc ?_ _)); refine blk_put (cs := #[.int .i64 t187, .int .i64 t188, .int .i64 t189, .int .i64 t190, .int .i64 0, .slice none 0 0, .int .i64 0]) ?_ 4 _ rfl; (with_reducible repeat (first | refine blk_drewN ?_ _ | refine blk_drew ?_ | refine blk_alloc ?_ _)); refine blk_put (cs := #[.int .i64 t187, .int .i64 t188, .int .i64 t189, .int .i64 0, .int .i64 0, .slice none 0 0, .int .i64 0]) ?_ 3 _ rfl; (with_reducible repeat (first | refine blk_drewN ?_ _ | refine blk_drew ?_ | refine blk_alloc ?_ _)); refine blk_put (cs := #[.int .i64 t187, .int .i64 t188, .int .i64 0, .int .i64 0, .int .i64 0, .slice none 0 0, .int .i64 0]) ?_ 2 _ rfl; (with_reducible repeat (first | refine blk_drewN ?_ _ | refine blk_drew ?_ | refine blk_alloc ?_ _)); refine blk_put (cs := #[.int .i64 t187, .int .i64 0, .int .i64 0, .int .i64 0, .int .i64 0, .slice none 0 0, .int .i64 0]) ?_ 1 _ rfl; (with_reducible repeat (first | refine blk_drewN ?_ _ | refine blk_drew ?_ | refine blk_alloc ?_ _)); refine blk_put (cs := #[.int .i64 0, .int .i64 0, .int .i64 0, .int .i64 0, .int .i64 0, .slice none 0 0, .int .i64 0]) ?_ 0 _ rfl; (with_reducible repeat (first | refine blk_drewN ?_ _ | refine blk_drew ?_ | refine blk_alloc ?_ _)); exact BK186.out))); replace BK196 := Aside0.mk (blk_kept BK196.out hk2 (fun hs_ => by have hs2_ : gb196 = gb186 := hs_; have g_ := HG196.out; have g0_ := HG186.out; have z_ := HLA.out; omega)); replace HB := Aside0.mk ((show Below w.heap.size w wv10 from by rw [hw]; exact by repeat (first | (with_reducible first | exact HB.out | apply below_alloc | apply pw_below_drewN | apply below_drew1 | refine below_set ?_ GE186.out) | exact HB.out))); replace HLA := Aside0.mk (And.intro HLA.out (hk2.1 : wv9.heap.size ≤ wv10.heap.size)); clear hw hk2))
    refine bodyPost_ret (results_ct rfl _ _ gb186 31 #[.int .i64 t187, .int .i64 t188, .int .i64 t189, .int .i64 t190, .int .i64 t191, .slice Aq2_ t192.length cq2_, .int .i64 t195] (0, 0) _ rfl (BK186.out) Try.underlying31 rfl (by kernel_rfl)) rfl ?_
    exact ⟨_, by first | rfl | (simp [errW_none, errW_some] <;> rfl) | (simp [*] <;> rfl), Kd.R_mono HOq2_.out (fun _ _ => trivial), by repeat (first | (with_reducible first | exact HB.out | apply below_alloc | apply pw_below_drewN | apply below_drew1) | exact HB.out)⟩
  rw [if_neg c8] at H
  have c8b0 : (a0_2 == 1000000) = false := beq_eq_false_iff_ne.mpr c8
  have c8b1 : (a0_2 != 1000000) = true := bne_iff_ne.mpr c8
  by_cases c9 : a1_0 = a0_0
  rotate_left
  · rw [if_neg c9] at H
    have c9b0 : (a1_0 == a0_0) = false := beq_eq_false_iff_ne.mpr c9
    have c9b1 : (a1_0 != a0_0) = true := bne_iff_ne.mpr c9
    simp only [Option.some.injEq, Prod.mk.injEq] at H
    obtain ⟨rfl, rfl, rfl, rfl, rfl, rfl, rfl, rfl⟩ := H
    go_enter Try.func33, Try.ntmps33
    go_wp2_with (first | ((with_reducible refine gate_dst (N := 2) rfl ?_); (try (refine gate_guard (by rfl) ?_; dsimp only)); refine box_event ?hg (N := 2) ?hd (cs := #[.int .i64 a0_0, .int .i64 a0_1, .int .i64 a0_2, .int .i64 a0_3, .int .i64 a0_4, .slice A0_5 l0_5.length c0_5, .int .i64 a0_6]) (t := 31) ?hr ?_; (case hd => rfl); (case hg => rfl); (case hr => first | (go_simp; done) | (go_simp; rfl)); intro gb184 hg wv1 hbox hb; have BK184 := Aside0.mk (hbox); have GE184 := Aside0.mk ((by rw [hg]; exact Nat.le_trans HB.out.size ((Kept.refl w (fun _ => False))).1 : w.heap.size ≤ gb184)); have HG184 := Aside0.mk ((⟨by rw [hg]; exact ((Kept.refl w (fun _ => False))).1, blk_lt hbox⟩ : w.heap.size ≤ gb184 ∧ gb184 < wv1.heap.size)); have HLA := Aside0.mk (((Kept.below (Kept.refl w (fun _ => False)) hb).1 : w.heap.size ≤ wv1.heap.size)); replace HB := Aside0.mk (below_step HB.out hb); clear hb hbox hg) | ((with_reducible refine gate_dst (N := 3) rfl ?_); (try (refine gate_guard (by rfl) ?_; dsimp only)); refine box_event ?hg (N := 3) ?hd (cs := #[.int .i64 a1_0, .int .i64 a1_1]) (t := 26) ?hr ?_; (case hd => rfl); (case hg => rfl); (case hr => first | (go_simp; done) | (go_simp; rfl)); intro gb185 hg wv2 hbox hb; have BK185 := Aside0.mk (hbox); have GE185 := Aside0.mk ((by rw [hg]; exact Nat.le_trans HB.out.size ((Kept.refl wv1 (fun _ => False))).1 : w.heap.size ≤ gb185)); have HG185 := Aside0.mk ((⟨by rw [hg]; exact ((Kept.refl wv1 (fun _ => False))).1, blk_lt hbox⟩ : wv1.heap.size ≤ gb185 ∧ gb185 < wv2.heap.size)); replace BK184 := Aside0.mk (blk_below BK184.out hb); replace HB := Aside0.mk (below_step HB.out hb); replace HLA := Aside0.mk (And.intro HLA.out ((Kept.below (Kept.refl wv1 (fun _ => False)) hb).1 : wv1.heap.size ≤ wv2.heap.size)); clear hb hbox hg) | ((with_reducible refine gate_dst (N := 4) rfl ?_); (try (refine gate_guard (by rfl) ?_; dsimp only)); refine box_event ?hg (N := 4) ?hd (cs := #[.int .i64 0, .int .i64 0, .int .i64 0, .int .i64 0, .int .i64 0, .slice none 0 0, .int .i64 0]) (t := 31) ?hr ?_; (case hd => rfl); (case hg => rfl); (case hr => first | (go_simp; done) | (go_simp; rfl)); intro gb186 hg wv3 hbox hb; have BK186 := Aside0.mk (hbox); have GE186 := Aside0.mk ((by rw [hg]; exact Nat.le_trans HB.out.size ((Kept.refl wv2 (fun _ => False))).1 : w.heap.size ≤ gb186)); have HG186 := Aside0.mk ((⟨by rw [hg]; exact ((Kept.refl wv2 (fun _ => False))).1, blk_lt hbox⟩ : wv2.heap.size ≤ gb186 ∧ gb186 < wv3.heap.size)); replace BK184 := Aside0.mk (blk_below BK184.out hb); replace BK185 := Aside0.mk (blk_below BK185.out hb); replace HB := Aside0.mk (below_step HB.out hb); replace HLA := Aside0.mk (And.intro HLA.out ((Kept.below (Kept.refl wv2 (fun _ => False)) hb).1 : wv2.heap.size ≤ wv3.heap.size)); clear hb hbox hg; obtain ⟨hcz1_0, hcz1_1, hcz1_2, hcz1_3, hcz1_4, hcz1_5, hcz1_6, hcz1_f0, hcz1_f1, hcz1_f2, hcz1_f3, hcz1_f4, hcz1_f5, hcz1_f6⟩ := lk_c7 BK184.out) | ((with_reducible refine gate_callee (f := 73) rfl ?_); refine goesL_ (some 8) rfl rfl Try.func73 (by kernel_rfl) rfl #[.agg #[.int .i64 a0_0, .int .i64 a0_1, .int .i64 a0_2, .int .i64 a0_3, .int .i64 a0_4, .slice A0_5 l0_5.length c0_5, .int .i64 a0_6]] rfl (by (try simp only [List.map_toArray, List.map_cons, List.map_nil]); first | done | rfl | (simp only [List.length_drop, List.length_take]; rfl)) ?_; (with_reducible refine (spec_l24Copy.calls a0_0 a0_1 a0_2 a0_3 a0_4 _ _ l0_5 a0_6 t187 t188 t189 t190 t191 t192 t195 _ ?side1 ?side2 A3.out).mono ?_); (case side1 => exact Kd.C_below HR0_5.out (by repeat (first | (with_reducible first | exact HB.out | apply below_alloc | apply pw_below_drewN | apply below_drew1) | exact HB.out))); (case side2 => exact HC0_5.out); rintro e wv4 ⟨vq2_, rfl, ho0, hb⟩; refine ⟨_, rfl, ?_⟩; have hkW := (Kept.refl wv3 (fun _ => False)); have hk2 := Kept.below hkW hb; obtain ⟨Aq2_, cq2_, rfl⟩ := Kd.R_slice ho0; obtain ⟨okq2_, hoo0, hi0⟩ := lk_R ho0 (a := wv3.heap.size) (b := w.heap.size) hkW.1 (Nat.le_trans HB.out.size hkW.1); have HOq2_ := Aside0.mk (hoo0); have HIq2_ := Aside0.mk (hi0); replace BK184 := Aside0.mk (blk_below BK184.out hb); replace BK185 := Aside0.mk (blk_below BK185.out hb); replace BK186 := Aside0.mk (blk_below BK186.out hb); replace HB := Aside0.mk (below_step (by repeat (first | (with_reducible first | exact HB.out | apply below_alloc | apply pw_below_drewN | apply below_drew1) | exact HB.out)) hb); replace HLA := Aside0.mk (And.intro HLA.out (hk2.1 : wv3.heap.size ≤ wv4.heap.size)); (try clear hb); (try clear hkW); (try clear hk2); (try clear hkp); (try clear hoo0); (try clear hi0); (try clear ho0)) | ((with_reducible refine gate_dst (N := 6) rfl ?_); (try (refine gate_guard (by rfl) ?_; dsimp only)); refine box_event ?hg (N := 6) ?hd (cs := #[.int .i64 0, .int .i64 0, .int .i64 0, .int .i64 0, .int .i64 0, .slice none 0 0, .int .i64 0]) (t := 31) ?hr ?_; (case hd => rfl); (case hg => rfl); (case hr => first | (go_simp; done) | (go_simp; rfl)); intro gb196 hg wv5 hbox hb; have BK196 := Aside0.mk (hbox); have GE196 := Aside0.mk ((by rw [hg]; exact Nat.le_trans HB.out.size ((Kept.refl wv4 (fun _ => False))).1 : w.heap.size ≤ gb196)); have HG196 := Aside0.mk ((⟨by rw [hg]; exact ((Kept.refl wv4 (fun _ => False))).1, blk_lt hbox⟩ : wv4.heap.size ≤ gb196 ∧ gb196 < wv5.heap.size)); replace HOq2_ := Aside0.mk (Kd.R_below HOq2_.out hb); replace BK184 := Aside0.mk (blk_below BK184.out hb); replace BK185 := Aside0.mk (blk_below BK185.out hb); replace BK186 := Aside0.mk (blk_below BK186.out hb); replace HB := Aside0.mk (below_step HB.out hb); replace HLA := Aside0.mk (And.intro HLA.out ((Kept.below (Kept.refl wv4 (fun _ => False)) hb).1 : wv4.heap.size ≤ wv5.heap.size)); clear hb hbox hg; obtain ⟨hcz3_0, hcz3_1, hcz3_2, hcz3_3, hcz3_4, hcz3_5, hcz3_6, hcz3_f0, hcz3_f1, hcz3_f2, hcz3_f3, hcz3_f4, hcz3_f5, hcz3_f6⟩ := lk_c7 BK196.out) | ((with_reducible refine gate_store (t := 31) (p := 6) rfl ?_); refine store_event (t := 31) (p := 6) (v := ?vo_lg10) (w1 := (((((((wv5.setCell ⟨gb196, 0, none⟩ (.int .i64 t187)).setCell ⟨gb196, 1, none⟩ (.int .i64 t188)).setCell ⟨gb196, 2, none⟩ (.int .i64 t189)).setCell ⟨gb196, 3, none⟩ (.int .i64 t190)).setCell ⟨gb196, 4, none⟩ (.int .i64 t191)).setCell ⟨gb196, 5, none⟩ (.slice Aq2_ t192.length cq2_)).setCell ⟨gb196, 6, none⟩ (.int .i64 t195))) ?hg ?ho ?hn ?hr ?_; (case ho => rfl); (case hg => rfl); (case hn => rfl); (case hr => first | (go_simp; done) | (go_simp; rfl)); intro wv6 hw; have hk2 := (show Kept wv5 wv6 (fun k_ => k_ = gb196) from by rw [hw]; exact (show Kept wv5 (((((((wv5.setCell ⟨gb196, 0, none⟩ (.int .i64 t187)).setCell ⟨gb196, 1, none⟩ (.int .i64 t188)).setCell ⟨gb196, 2, none⟩ (.int .i64 t189)).setCell ⟨gb196, 3, none⟩ (.int .i64 t190)).setCell ⟨gb196, 4, none⟩ (.int .i64 t191)).setCell ⟨gb196, 5, none⟩ (.slice Aq2_ t192.length cq2_)).setCell ⟨gb196, 6, none⟩ (.int .i64 t195)) (fun k_ => k_ = gb196) from by repeat (first | (with_reducible first | exact Kept.refl _ _ | apply Kept.alloc | apply Kept.drewN | apply Kept.drew) | refine Kept.setCell ?_ (.inl (by first | exact rfl | exact .inl rfl | exact .inr rfl | exact .inr (.inl rfl) | exact .inr (.inr rfl))) _ | exact Kept.refl _ _))); replace HOq2_ := Aside0.mk (Kd.R_kept HOq2_.out hk2 (fun k_ hk_ hs_ => by have i_ := HIq2_.out k_ hk_; have hs2_ : k_ = gb196 := hs_; have g0_ := HG196.out; have z_ := HLA.out; omega)); replace BK184 := Aside0.mk (blk_kept BK184.out hk2 (fun hs_ => by have hs2_ : gb184 = gb196 := hs_; have g_ := HG184.out; have g0_ := HG196.out; have z_ := HLA.out; omega)); replace BK185 := Aside0.mk (blk_kept BK185.out hk2 (fun hs_ => by have hs2_ : gb185 = gb196 := hs_; have g_ := HG185.out; have g0_ := HG196.out; have z_ := HLA.out; omega)); replace BK186 := Aside0.mk (blk_kept BK186.out hk2 (fun hs_ => by have hs2_ : gb186 = gb196 := hs_; have g_ := HG186.out; have g0_ := HG196.out; have z_ := HLA.out; omega)); replace BK196 := Aside0.mk ((show wv6.heap[gb196]? = some (Obj.cells #[.int .i64 t187, .int .i64 t188, .int .i64 t189, .int .i64 t190, .int .i64 t191, .slice Aq2_ t192.length cq2_, .int .i64 t195] 31 (0, 0)) from by rw [hw]; exact (show _ = some (Obj.cells #[.int .i64 t187, .int .i64 t188, .int .i64 t189, .int .i64 t190, .int .i64 t191, .slice Aq2_ t192.length cq2_, .int .i64 t195] 31 (0, 0)) from by (with_reducible repeat (first | refine blk_drewN ?_ _ | refine blk_drew ?_ | refine blk_alloc ?_ _)); refine blk_put (cs := #[.int .i64 t187, .int .i64 t188, .int .i64 t189, .int .i64 t190, .int .i64 t191, .slice Aq2_ t192.length cq2_, .int .i64 0]) ?_ 6 _ rfl; (with_reducible repeat (first | refine blk_drewN ?_ _ | refine blk_drew ?_ | refine blk_alloc ?_ _)); refine blk_put (cs := #[.int .i64 t187, .int .i64 t188, .int .i64 t189, .int .i64 t190, .int .i64 t191, .slice none 0 0, .int .i64 0]) ?_ 5 _ rfl; (with_reducible repeat (first | refine blk_drewN ?_ _ | refine blk_drew ?_ | refine blk_alloc ?_ _)); refine blk_put (cs := #[.int .i64 t187, .int .i64 t188, .int .i64 t189, .int .i64 t190, .int .i64 0, .slice none 0 0, .int .i64 0]) ?_ 4 _ rfl; (with_reducible repeat (first | refine blk_drewN ?_ _ | refine blk_drew ?_ | refine blk_alloc ?_ _)); refine blk_put (cs := #[.int .i64 t187, .int .i64 t188, .int .i64 t189, .int .i64 0, .int .i64 0, .slice none 0 0, .int .i64 0]) ?_ 3 _ rfl; (with_reducible repeat (first | refine blk_drewN ?_ _ | refine blk_drew ?_ | refine blk_alloc ?_ _)); refine blk_put (cs := #[.int .i64 t187, .int .i64 t188, .int .i64 0, .int .i64 0, .int .i64 0, .slice none 0 0, .int .i64 0]) ?_ 2 _ rfl; (with_reducible repeat (first | refine blk_drewN ?_ _ | refine blk_drew ?_ | refine blk_alloc ?_ _)); refine blk_put (cs := #[.int .i64 t187, .int .i64 0, .int .i64 0, .int .i64 0, .int .i64 0, .slice none 0 0, .int .i64 0]) ?_ 1 _ rfl; (with_reducible repeat (first | refine blk_drewN ?_ _ | refine blk_drew ?_ | refine blk_alloc ?_ _)); refine blk_put (cs := #[.int .i64 0, .int .i64 0, .int .i64 0, .int .i64 0, .int .i64 0, .slice none 0 0, .int .i64 0]) ?_ 0 _ rfl; (with_reducible repeat (first | refine blk_drewN ?_ _ | refine blk_drew ?_ | refine blk_alloc ?_ _)); exact BK196.out))); replace HB := Aside0.mk ((show Below w.heap.size w wv6 from by rw [hw]; exact by repeat (first | (with_reducible first | exact HB.out | apply below_alloc | apply pw_below_drewN | apply below_drew1 | refine below_set ?_ GE196.out) | exact HB.out))); replace HLA := Aside0.mk (And.intro HLA.out (hk2.1 : wv5.heap.size ≤ wv6.heap.size)); clear hw hk2))
    replace HOq2_ := Aside0.mk (Kd.R_kept HOq2_.out (show Kept wv6 wv6.drew (fun k_ => False) from by repeat (first | (with_reducible first | exact Kept.refl _ _ | apply Kept.alloc | apply Kept.drewN | apply Kept.drew) | exact Kept.refl _ _)) (fun _ _ hs_ => hs_.elim))
    replace BK184 := Aside0.mk ((blk_kept BK184.out (show Kept wv6 wv6.drew (fun k_ => False) from by repeat (first | (with_reducible first | exact Kept.refl _ _ | apply Kept.alloc | apply Kept.drewN | apply Kept.drew) | exact Kept.refl _ _)) (fun hs_ => hs_.elim)))
    replace BK185 := Aside0.mk ((blk_kept BK185.out (show Kept wv6 wv6.drew (fun k_ => False) from by repeat (first | (with_reducible first | exact Kept.refl _ _ | apply Kept.alloc | apply Kept.drewN | apply Kept.drew) | exact Kept.refl _ _)) (fun hs_ => hs_.elim)))
    replace BK186 := Aside0.mk ((blk_kept BK186.out (show Kept wv6 wv6.drew (fun k_ => False) from by repeat (first | (with_reducible first | exact Kept.refl _ _ | apply Kept.alloc | apply Kept.drewN | apply Kept.drew) | exact Kept.refl _ _)) (fun hs_ => hs_.elim)))
    replace BK196 := Aside0.mk ((blk_kept BK196.out (show Kept wv6 wv6.drew (fun k_ => False) from by repeat (first | (with_reducible first | exact Kept.refl _ _ | apply Kept.alloc | apply Kept.drewN | apply Kept.drew) | exact Kept.refl _ _)) (fun hs_ => hs_.elim)))
    replace HB := Aside0.mk ((show Below w.heap.size w (wv6.drew) from by repeat (first | (with_reducible first | exact HB.out | apply below_alloc | apply pw_below_drewN | apply below_drew1) | exact HB.out)))
    replace HLA := Aside0.mk (And.intro HLA.out ((show Kept wv6 wv6.drew (fun k_ => False) from by repeat (first | (with_reducible first | exact Kept.refl _ _ | apply Kept.alloc | apply Kept.drewN | apply Kept.drew) | exact Kept.refl _ _)).1 : wv6.heap.size ≤ (wv6.drew).heap.size))
    refine start_ (n := 33) (S := fun w' => w'.cell? ⟨gb184, 0, none⟩ = some (.int .i64 a0_0) ∧ w'.cell? ⟨gb184, 1, none⟩ = some (.int .i64 a0_1) ∧ w'.cell? ⟨gb184, 2, none⟩ = some (.int .i64 a0_2) ∧ w'.cell? ⟨gb184, 3, none⟩ = some (.int .i64 a0_3) ∧ w'.cell? ⟨gb184, 4, none⟩ = some (.int .i64 a0_4) ∧ w'.cell? ⟨gb184, 5, none⟩ = some (.slice A0_5 l0_5.length c0_5) ∧ w'.cell? ⟨gb184, 6, none⟩ = some (.int .i64 a0_6) ∧ w'.cell? ⟨gb185, 0, none⟩ = some (.int .i64 a1_0) ∧ w'.cell? ⟨gb185, 1, none⟩ = some (.int .i64 a1_1)) (ds := []) #[false, false, false, false, false, false, false, false, false, false, false, false, false, false, false, false, false, false, false, false, false, false, false, false, false, false, false, false, false, false, false, false, false] (by kernel_rfl) rfl rfl (lk_t7 BK184.out (lk_e2 BK185.out)) (fun hHeld => ?_)
    generalize wv6.drew = wv7 at HOq2_ BK184 BK185 BK186 BK196 HB HLA hHeld ⊢
    refine pure_ (i := 0) (N := some 9) (v := ?_) (a' := ?_) #[true, false, false, false, false, false, false, false, false, false, false, false, false, false, false, false, false, false, false, false, false, false, false, false, false, false, false, false, false, false, false, false, false] rfl rfl (by kernel_rfl) (fun _ _ _ h => h) (Or.inl ⟨by rfl, ?_⟩) ?_ ?_
    rotate_left
    · intro w'
      go_simp
      with_reducible rfl
    rotate_left
    · simp only [Act.put, List.setIfInBounds_toArray, List.set_cons_zero, List.set_cons_succ, i64_w, i32_w]
      rfl
    refine take_ (i := 1) (N := some 10) (v := ?_) (a' := ?_) #[true, true, false, false, false, false, false, false, false, false, false, false, false, false, false, false, false, false, false, false, false, false, false, false, false, false, false, false, false, false, false, false, false] rfl rfl (by kernel_rfl) (fun _ _ _ h => h) (Or.inl ⟨by rfl, ?_⟩) hHeld ?_ ?_
    rotate_left
    · rintro w' ⟨s0, s1, s2, s3, s4, s5, s6, s7, s8⟩
      go_simp
      with_reducible rfl
    rotate_left
    · simp only [Act.put, List.setIfInBounds_toArray, List.set_cons_zero, List.set_cons_succ, i64_w, i32_w]
      rfl
    refine one_ (i := 2) (N := some 11) #[true, true, true, false, false, false, false, false, false, false, false, false, false, false, false, false, false, false, false, false, false, false, false, false, false, false, false, false, false, false, false, false, false] rfl rfl (by kernel_rfl) (by decide) (fun K hK => ?_)
    refine goes_ Try.func69 (by kernel_rfl) rfl #[.agg #[.int .i64 a0_0, .int .i64 a0_1, .int .i64 a0_2, .int .i64 a0_3, .int .i64 a0_4]] (by rfl) rfl rfl (by (try simp only [List.map_toArray, List.map_cons, List.map_nil]); first | done | rfl | (simp only [List.length_drop, List.length_take]; rfl)) ?_
    (with_reducible refine (spec_IsValidKeeper.calls k a0_0 a0_1 a0_2 a0_3 a0_4 true _  A4.out).mono ?_)
    rintro e wv8 ⟨rfl, hb⟩
    refine ⟨_, rfl, ?_⟩
    have hkW := (Kept.refl wv7 (fun _ => False))
    have hk2 := Kept.below hkW hb
    replace HOq2_ := Aside0.mk (Kd.R_below HOq2_.out hb)
    replace BK184 := Aside0.mk (blk_below BK184.out hb)
    replace BK185 := Aside0.mk (blk_below BK185.out hb)
    replace BK186 := Aside0.mk (blk_below BK186.out hb)
    replace BK196 := Aside0.mk (blk_below BK196.out hb)
    replace HB := Aside0.mk (below_step (by repeat (first | (with_reducible first | exact HB.out | apply below_alloc | apply pw_below_drewN | apply below_drew1) | exact HB.out)) hb)
    replace HLA := Aside0.mk (And.intro HLA.out (hk2.1 : wv7.heap.size ≤ wv8.heap.size))
    (try clear hb)
    (try clear hkW)
    (try clear hk2)
    (try clear hkp)
    refine hK.out _ _ (lk_t7 BK184.out (lk_e2 BK185.out)) (fun hHeld => ?_)
    clear hK K
    refine norm_ (a' := ?_) ?_ ?_
    rotate_left
    · show Act.put _ (some 11) _ = _
      simp only [Act.put, List.setIfInBounds_toArray, List.set_cons_zero, List.set_cons_succ, i64_w, i32_w]
      rfl
    refine pure_ (i := 3) (N := some 12) (v := ?_) (a' := ?_) #[true, true, true, true, false, false, false, false, false, false, false, false, false, false, false, false, false, false, false, false, false, false, false, false, false, false, false, false, false, false, false, false, false] rfl rfl (by kernel_rfl) (fun _ _ _ h => h) (Or.inl ⟨by rfl, ?_⟩) ?_ ?_
    rotate_left
    · intro w'
      go_simp
      with_reducible rfl
    rotate_left
    · simp only [Act.put, List.setIfInBounds_toArray, List.set_cons_zero, List.set_cons_succ, i64_w, i32_w]
      rfl
    refine pure_ (i := 4) (N := some 13) (v := ?_) (a' := ?_) #[true, true, true, true, true, false, false, false, false, false, false, false, false, false, false, false, false, false, false, false, false, false, false, false, false, false, false, false, false, false, false, false, false] rfl rfl (by kernel_rfl) (fun _ _ _ h => h) (Or.inl ⟨by rfl, ?_⟩) ?_ ?_
    rotate_left
    · intro w'
      go_simp
      with_reducible rfl
    rotate_left
    · simp only [Act.put, List.setIfInBounds_toArray, List.set_cons_zero, List.set_cons_succ, i64_w, i32_w]
      rfl
    refine pure_ (i := 5) (N := some 14) (v := ?_) (a' := ?_) #[true, true, true, true, true, true, false, false, false, false, false, false, false, false, false, false, false, false, false, false, false, false, false, false, false, false, false, false, false, false, false, false, false] rfl rfl (by kernel_rfl) (fun _ _ _ h => h) (Or.inl ⟨by rfl, ?_⟩) ?_ ?_
    rotate_left
    · intro w'
      go_simp
      with_reducible rfl
    rotate_left
    · simp only [Act.put, List.setIfInBounds_toArray, List.set_cons_zero, List.set_cons_succ, i64_w, i32_w]
      rfl
    refine pure_ (i := 8) (N := some 17) (v := ?_) (a' := ?_) #[true, true, true, true, true, true, false, false, true, false, false, false, false, false, false, false, false, false, false, false, false, false, false, false, false, false, false, false, false, false, false, false, false] rfl rfl (by kernel_rfl) (fun _ _ _ h => h) (Or.inl ⟨by rfl, ?_⟩) ?_ ?_
    rotate_left
    · intro w'
      go_simp
      with_reducible rfl
    rotate_left
    · simp only [Act.put, List.setIfInBounds_toArray, List.set_cons_zero, List.set_cons_succ, i64_w, i32_w]
      rfl
    refine take_ (i := 6) (N := some 15) (v := ?_) (a' := ?_) #[true, true, true, true, true, true, true, false, true, false, false, false, false, false, false, false, false, false, false, false, false, false, false, false, false, false, false, false, false, false, false, false, false] rfl rfl (by kernel_rfl) (fun _ _ _ h => h) (Or.inl ⟨by rfl, ?_⟩) hHeld ?_ ?_
    rotate_left
    · rintro w' ⟨s0, s1, s2, s3, s4, s5, s6, s7, s8⟩
      go_simp
      with_reducible rfl
    rotate_left
    · simp only [Act.put, List.setIfInBounds_toArray, List.set_cons_zero, List.set_cons_succ, i64_w, i32_w]
      rfl
    refine take_ (i := 9) (N := some 18) (v := ?_) (a' := ?_) #[true, true, true, true, true, true, true, false, true, true, false, false, false, false, false, false, false, false, false, false, false, false, false, false, false, false, false, false, false, false, false, false, false] rfl rfl (by kernel_rfl) (fun _ _ _ h => h) (Or.inl ⟨by rfl, ?_⟩) hHeld ?_ ?_
    rotate_left
    · rintro w' ⟨s0, s1, s2, s3, s4, s5, s6, s7, s8⟩
      go_simp
      with_reducible rfl
    rotate_left
    · simp only [Act.put, List.setIfInBounds_toArray, List.set_cons_zero, List.set_cons_succ, i64_w, i32_w]
      rfl
    refine one_ (i := 7) (N := some 16) #[true, true, true, true, true, true, true, true, true, true, false, false, false, false, false, false, false, false, false, false, false, false, false, false, false, false, false, false, false, false, false, false, false] rfl rfl (by kernel_rfl) (by decide) (fun K hK => ?_)
    refine goes_ Try.func79 (by kernel_rfl) rfl #[.agg #[.int .i64 a0_0, .int .i64 a0_1, .int .i64 a0_2, .int .i64 a0_3, .int .i64 a0_4]] (by rfl) rfl rfl (by (try simp only [List.map_toArray, List.map_cons, List.map_nil]); first | done | rfl | (simp only [List.length_drop, List.length_take]; rfl)) ?_
    (with_reducible refine (spec_l24Mark.calls a0_0 a0_1 a0_2 a0_3 a0_4 t198 _  A6.out).mono ?_)
    rintro e wv9 ⟨rfl, hb⟩
    refine ⟨_, rfl, ?_⟩
    have hkW := (Kept.refl wv8 (fun _ => False))
    have hk2 := Kept.below hkW hb
    replace HOq2_ := Aside0.mk (Kd.R_below HOq2_.out hb)
    replace BK184 := Aside0.mk (blk_below BK184.out hb)
    replace BK185 := Aside0.mk (blk_below BK185.out hb)
    replace BK186 := Aside0.mk (blk_below BK186.out hb)
    replace BK196 := Aside0.mk (blk_below BK196.out hb)
    replace HB := Aside0.mk (below_step (by repeat (first | (with_reducible first | exact HB.out | apply below_alloc | apply pw_below_drewN | apply below_drew1) | exact HB.out)) hb)
    replace HLA := Aside0.mk (And.intro HLA.out (hk2.1 : wv8.heap.size ≤ wv9.heap.size))
    (try clear hb)
    (try clear hkW)
    (try clear hk2)
    (try clear hkp)
    refine hK.out _ _ (lk_t7 BK184.out (lk_e2 BK185.out)) (fun hHeld => ?_)
    clear hK K
    refine norm_ (a' := ?_) ?_ ?_
    rotate_left
    · show Act.put _ (some 16) _ = _
      simp only [Act.put, List.setIfInBounds_toArray, List.set_cons_zero, List.set_cons_succ, i64_w, i32_w]
      rfl
    refine pure_ (i := 10) (N := some 19) (v := ?_) (a' := ?_) #[true, true, true, true, true, true, true, true, true, true, true, false, false, false, false, false, false, false, false, false, false, false, false, false, false, false, false, false, false, false, false, false, false] rfl rfl (by kernel_rfl) (fun _ _ _ h => h) (Or.inl ⟨by rfl, ?_⟩) ?_ ?_
    rotate_left
    · intro w'
      go_simp
      with_reducible rfl
    rotate_left
    · simp only [Act.put, List.setIfInBounds_toArray, List.set_cons_zero, List.set_cons_succ, i64_w, i32_w]
      rfl
    refine pure_ (i := 11) (N := some 20) (v := ?_) (a' := ?_) #[true, true, true, true, true, true, true, true, true, true, true, true, false, false, false, false, false, false, false, false, false, false, false, false, false, false, false, false, false, false, false, false, false] rfl rfl (by kernel_rfl) (fun _ _ _ h => h) (Or.inl ⟨by rfl, ?_⟩) ?_ ?_
    rotate_left
    · intro w'
      go_simp
      with_reducible rfl
    rotate_left
    · simp only [Act.put, List.setIfInBounds_toArray, List.set_cons_zero, List.set_cons_succ, i64_w, i32_w]
      rfl
    refine pure_ (i := 12) (N := some 21) (v := ?_) (a' := ?_) #[true, true, true, true, true, true, true, true, true, true, true, true, true, false, false, false, false, false, false, false, false, false, false, false, false, false, false, false, false, false, false, false, false] rfl rfl (by kernel_rfl) (fun _ _ _ h => h) (Or.inl ⟨by rfl, ?_⟩) ?_ ?_
    rotate_left
    · intro w'
      go_simp
      with_reducible rfl
    rotate_left
    · simp only [Act.put, List.setIfInBounds_toArray, List.set_cons_zero, List.set_cons_succ, i64_w, i32_w]
      rfl
    refine pure_ (i := 13) (N := some 22) (v := ?_) (a' := ?_) #[true, true, true, true, true, true, true, true, true, true, true, true, true, true, false, false, false, false, false, false, false, false, false, false, false, false, false, false, false, false, false, false, false] rfl rfl (by kernel_rfl) (fun _ _ _ h => h) (Or.inl ⟨by rfl, ?_⟩) ?_ ?_
    rotate_left
    · intro w'
      go_simp
      with_reducible rfl
    rotate_left
    · simp only [Act.put, List.setIfInBounds_toArray, List.set_cons_zero, List.set_cons_succ, i64_w, i32_w]
      rfl
    refine pure_ (i := 14) (N := some 23) (v := ?_) (a' := ?_) #[true, true, true, true, true, true, true, true, true, true, true, true, true, true, true, false, false, false, false, false, false, false, false, false, false, false, false, false, false, false, false, false, false] rfl rfl (by kernel_rfl) (fun _ _ _ h => h) (Or.inl ⟨by rfl, ?_⟩) ?_ ?_
    rotate_left
    · intro w'
      go_simp
      with_reducible rfl
    rotate_left
    · simp only [Act.put, List.setIfInBounds_toArray, List.set_cons_zero, List.set_cons_succ, i64_w, i32_w]
      rfl
    refine take_ (i := 15) (N := some 24) (v := ?_) (a' := ?_) #[true, true, true, true, true, true, true, true, true, true, true, true, true, true, true, true, false, false, false, false, false, false, false, false, false, false, false, false, false, false, false, false, false] rfl rfl (by kernel_rfl) (fun _ _ _ h => h) (Or.inl ⟨by rfl, ?_⟩) hHeld ?_ ?_
    rotate_left
    · rintro w' ⟨s0, s1, s2, s3, s4, s5, s6, s7, s8⟩
      go_simp
      with_reducible rfl
    rotate_left
    · simp only [Act.put, List.setIfInBounds_toArray, List.set_cons_zero, List.set_cons_succ, i64_w, i32_w]
      rfl
    refine pure_ (i := 16) (N := some 25) (v := ?_) (a' := ?_) #[true, true, true, true, true, true, true, true, true, true, true, true, true, true, true, true, true, false, false, false, false, false, false, false, false, false, false, false, false, false, false, false, false] rfl rfl (by kernel_rfl) (fun _ _ _ h => h) (Or.inl ⟨by rfl, ?_⟩) ?_ ?_
    rotate_left
    · intro w'
      go_simp
      with_reducible rfl
    rotate_left
    · simp only [Act.put, List.setIfInBounds_toArray, List.set_cons_zero, List.set_cons_succ, i64_w, i32_w]
      rfl
    refine pure_ (i := 17) (N := some 26) (v := ?_) (a' := ?_) #[true, true, true, true, true, true, true, true, true, true, true, true, true, true, true, true, true, true, false, false, false, false, false, false, false, false, false, false, false, false, false, false, false] rfl rfl (by kernel_rfl) (fun _ _ _ h => h) (Or.inl ⟨by rfl, ?_⟩) ?_ ?_
    rotate_left
    · intro w'
      go_simp
      with_reducible rfl
    rotate_left
    · simp only [Act.put, List.setIfInBounds_toArray, List.set_cons_zero, List.set_cons_succ, i64_w, i32_w]
      rfl
    refine pure_ (i := 18) (N := some 27) (v := ?_) (a' := ?_) #[true, true, true, true, true, true, true, true, true, true, true, true, true, true, true, true, true, true, true, false, false, false, false, false, false, false, false, false, false, false, false, false, false] rfl rfl (by kernel_rfl) (fun _ _ _ h => h) (Or.inl ⟨by rfl, ?_⟩) ?_ ?_
    rotate_left
    · intro w'
      go_simp
      with_reducible rfl
    rotate_left
    · simp only [Act.put, List.setIfInBounds_toArray, List.set_cons_zero, List.set_cons_succ, i64_w, i32_w]
      rfl
    refine pure_ (i := 19) (N := some 28) (v := ?_) (a' := ?_) #[true, true, true, true, true, true, true, true, true, true, true, true, true, true, true, true, true, true, true, true, false, false, false, false, false, false, false, false, false, false, false, false, false] rfl rfl (by kernel_rfl) (fun _ _ _ h => h) (Or.inl ⟨by rfl, ?_⟩) ?_ ?_
    rotate_left
    · intro w'
      go_simp
      with_reducible rfl
    rotate_left
    · simp only [Act.put, List.setIfInBounds_toArray, List.set_cons_zero, List.set_cons_succ, i64_w, i32_w]
      rfl
    refine pure_ (i := 21) (N := some 30) (v := ?_) (a' := ?_) #[true, true, true, true, true, true, true, true, true, true, true, true, true, true, true, true, true, true, true, true, false, true, false, false, false, false, false, false, false, false, false, false, false] rfl rfl (by kernel_rfl) (fun _ _ _ h => h) (Or.inl ⟨by rfl, ?_⟩) ?_ ?_
    rotate_left
    · intro w'
      go_simp
      with_reducible rfl
    rotate_left
    · simp only [Act.put, List.setIfInBounds_toArray, List.set_cons_zero, List.set_cons_succ, i64_w, i32_w]
      rfl
    refine pure_ (i := 22) (N := some 31) (v := ?_) (a' := ?_) #[true, true, true, true, true, true, true, true, true, true, true, true, true, true, true, true, true, true, true, true, false, true, true, false, false, false, false, false, false, false, false, false, false] rfl rfl (by kernel_rfl) (fun _ _ _ h => h) (Or.inl ⟨by rfl, ?_⟩) ?_ ?_
    rotate_left
    · intro w'
      go_simp
      with_reducible rfl
    rotate_left
    · simp only [Act.put, List.setIfInBounds_toArray, List.set_cons_zero, List.set_cons_succ, i64_w, i32_w]
      rfl
    refine pure_ (i := 23) (N := some 32) (v := ?_) (a' := ?_) #[true, true, true, true, true, true, true, true, true, true, true, true, true, true, true, true, true, true, true, true, false, true, true, true, false, false, false, false, false, false, false, false, false] rfl rfl (by kernel_rfl) (fun _ _ _ h => h) (Or.inl ⟨by rfl, ?_⟩) ?_ ?_
    rotate_left
    · intro w'
      go_simp
      with_reducible rfl
    rotate_left
    · simp only [Act.put, List.setIfInBounds_toArray, List.set_cons_zero, List.set_cons_succ, i64_w, i32_w]
      rfl
    refine take_ (i := 20) (N := some 29) (v := ?_) (a' := ?_) #[true, true, true, true, true, true, true, true, true, true, true, true, true, true, true, true, true, true, true, true, true, true, true, true, false, false, false, false, false, false, false, false, false] rfl rfl (by kernel_rfl) (fun _ _ _ h => h) (Or.inl ⟨by rfl, ?_⟩) hHeld ?_ ?_
    rotate_left
    · rintro w' ⟨s0, s1, s2, s3, s4, s5, s6, s7, s8⟩
      go_simp
      with_reducible rfl
    rotate_left
    · simp only [Act.put, List.setIfInBounds_toArray, List.set_cons_zero, List.set_cons_succ, i64_w, i32_w]
      rfl
    refine take_ (i := 24) (N := some 33) (v := ?_) (a' := ?_) #[true, true, true, true, true, true, true, true, true, true, true, true, true, true, true, true, true, true, true, true, true, true, true, true, true, false, false, false, false, false, false, false, false] rfl rfl (by kernel_rfl) (fun _ _ _ h => h) (Or.inl ⟨by rfl, ?_⟩) hHeld ?_ ?_
    rotate_left
    · rintro w' ⟨s0, s1, s2, s3, s4, s5, s6, s7, s8⟩
      go_simp
      with_reducible rfl
    rotate_left
    · simp only [Act.put, List.setIfInBounds_toArray, List.set_cons_zero, List.set_cons_succ, i64_w, i32_w]
      rfl
    refine pure_ (i := 25) (N := some 34) (v := ?_) (a' := ?_) #[true, true, true, true, true, true, true, true, true, true, true, true, true, true, true, true, true, true, true, true, true, true, true, true, true, true, false, false, false, false, false, false, false] rfl rfl (by kernel_rfl) (fun _ _ _ h => h) (Or.inl ⟨by rfl, ?_⟩) ?_ ?_
    rotate_left
    · intro w'
      go_simp
      with_reducible rfl
    rotate_left
    · simp only [Act.put, List.setIfInBounds_toArray, List.set_cons_zero, List.set_cons_succ, i64_w, i32_w]
      rfl
    refine pure_ (i := 26) (N := some 35) (v := ?_) (a' := ?_) #[true, true, true, true, true, true, true, true, true, true, true, true, true, true, true, true, true, true, true, true, true, true, true, true, true, true, true, false, false, false, false, false, false] rfl rfl (by kernel_rfl) (fun _ _ _ h => h) (Or.inl ⟨by rfl, ?_⟩) ?_ ?_
    rotate_left
    · intro w'
      go_simp
      with_reducible rfl
    rotate_left
    · simp only [Act.put, List.setIfInBounds_toArray, List.set_cons_zero, List.set_cons_succ, i64_w, i32_w]
      rfl
    refine pure_ (i := 27) (N := some 36) (v := ?_) (a' := ?_) #[true, true, true, true, true, true, true, true, true, true, true, true, true, true, true, true, true, true, true, true, true, true, true, true, true, true, true, true, false, false, false, false, false] rfl rfl (by kernel_rfl) (fun _ _ _ h => h) (Or.inl ⟨by rfl, ?_⟩) ?_ ?_
    rotate_left
    · intro w'
      go_simp
      with_reducible rfl
    rotate_left
    · simp only [Act.put, List.setIfInBounds_toArray, List.set_cons_zero, List.set_cons_succ, i64_w, i32_w]
      rfl
    refine pure_ (i := 28) (N := some 37) (v := undef) (a' := ?_) #[true, true, true, true, true, true, true, true, true, true, true, true, true, true, true, true, true, true, true, true, true, true, true, true, true, true, true, true, true, false, false, false, false] rfl rfl (by kernel_rfl) (fun _ _ _ h => h) (Or.inr ⟨by rfl, rfl⟩) ?_ ?_
    rotate_left
    · simp only [Act.put, List.setIfInBounds_toArray, List.set_cons_zero, List.set_cons_succ, i64_w, i32_w]
      rfl
    refine pure_ (i := 29) (N := some 38) (v := undef) (a' := ?_) #[true, true, true, true, true, true, true, true, true, true, true, true, true, true, true, true, true, true, true, true, true, true, true, true, true, true, true, true, true, true, false, false, false] rfl rfl (by kernel_rfl) (fun _ _ _ h => h) (Or.inr ⟨by rfl, rfl⟩) ?_ ?_
    rotate_left
    · simp only [Act.put, List.setIfInBounds_toArray, List.set_cons_zero, List.set_cons_succ, i64_w, i32_w]
      rfl
    refine pure_ (i := 30) (N := some 39) (v := undef) (a' := ?_) #[true, true, true, true, true, true, true, true, true, true, true, true, true, true, true, true, true, true, true, true, true, true, true, true, true, true, true, true, true, true, true, false, false] rfl rfl (by kernel_rfl) (fun _ _ _ h => h) (Or.inr ⟨by rfl, rfl⟩) ?_ ?_
    rotate_left
    · simp only [Act.put, List.setIfInBounds_toArray, List.set_cons_zero, List.set_cons_succ, i64_w, i32_w]
      rfl
    refine pure_ (i := 31) (N := some 40) (v := undef) (a' := ?_) #[true, true, true, true, true, true, true, true, true, true, true, true, true, true, true, true, true, true, true, true, true, true, true, true, true, true, true, true, true, true, true, true, false] rfl rfl (by kernel_rfl) (fun _ _ _ h => h) (Or.inr ⟨by rfl, rfl⟩) ?_ ?_
    rotate_left
    · simp only [Act.put, List.setIfInBounds_toArray, List.set_cons_zero, List.set_cons_succ, i64_w, i32_w]
      rfl
    refine pure_ (i := 32) (N := some 41) (v := ?_) (a' := ?_) #[true, true, true, true, true, true, true, true, true, true, true, true, true, true, true, true, true, true, true, true, true, true, true, true, true, true, true, true, true, true, true, true, true] rfl rfl (by kernel_rfl) (fun _ _ _ h => h) (Or.inl ⟨by rfl, ?_⟩) ?_ ?_
    rotate_left
    · intro w'
      go_simp
      with_reducible rfl
    rotate_left
    · simp only [Act.put, List.setIfInBounds_toArray, List.set_cons_zero, List.set_cons_succ, i64_w, i32_w]
      rfl
    refine done_ (by kernel_rfl) ?_
    (try clear hHeld)
    obtain ⟨hcz4_0, hcz4_1, hcz4_2, hcz4_3, hcz4_4, hcz4_5, hcz4_6, hcz4_f0, hcz4_f1, hcz4_f2, hcz4_f3, hcz4_f4, hcz4_f5, hcz4_f6⟩ := lk_c7 BK196.out
    obtain ⟨hcz5_0, hcz5_1, hcz5_2, hcz5_3, hcz5_4, hcz5_5, hcz5_6, hcz5_f0, hcz5_f1, hcz5_f2, hcz5_f3, hcz5_f4, hcz5_f5, hcz5_f6⟩ := lk_c7 BK186.out
    have hnb6_ : gb196 ≠ gb186 := (by have g1_ := HG196.out; have g2_ := HG186.out; have z_ := HLA.out; omega)
    have hnb7_ : gb186 ≠ gb196 := (by have g1_ := HG186.out; have g2_ := HG196.out; have z_ := HLA.out; omega)
    go_wp2_with (first | ((with_reducible refine gate_store (t := 31) (p := 4) rfl ?_); refine store_event (t := 31) (p := 4) (v := ?vo_lg11) (w1 := (((((((wv9.setCell ⟨gb186, 0, none⟩ (.int .i64 t187)).setCell ⟨gb186, 1, none⟩ (.int .i64 t188)).setCell ⟨gb186, 2, none⟩ (.int .i64 t189)).setCell ⟨gb186, 3, none⟩ (.int .i64 t190)).setCell ⟨gb186, 4, none⟩ (.int .i64 t191)).setCell ⟨gb186, 5, none⟩ (.slice Aq2_ t192.length cq2_)).setCell ⟨gb186, 6, none⟩ (.int .i64 t195))) ?hg ?ho ?hn ?hr ?_; (case ho => rfl); (case hg => rfl); (case hn => rfl); (case hr => first | (go_simp; done) | (go_simp; rfl)); intro wv10 hw; have hk2 := (show Kept wv9 wv10 (fun k_ => k_ = gb186) from by rw [hw]; exact (show Kept wv9 (((((((wv9.setCell ⟨gb186, 0, none⟩ (.int .i64 t187)).setCell ⟨gb186, 1, none⟩ (.int .i64 t188)).setCell ⟨gb186, 2, none⟩ (.int .i64 t189)).setCell ⟨gb186, 3, none⟩ (.int .i64 t190)).setCell ⟨gb186, 4, none⟩ (.int .i64 t191)).setCell ⟨gb186, 5, none⟩ (.slice Aq2_ t192.length cq2_)).setCell ⟨gb186, 6, none⟩ (.int .i64 t195)) (fun k_ => k_ = gb186) from by repeat (first | (with_reducible first | exact Kept.refl _ _ | apply Kept.alloc | apply Kept.drewN | apply Kept.drew) | refine Kept.setCell ?_ (.inl (by first | exact rfl | exact .inl rfl | exact .inr rfl | exact .inr (.inl rfl) | exact .inr (.inr rfl))) _ | exact Kept.refl _ _))); replace HOq2_ := Aside0.mk (Kd.R_kept HOq2_.out hk2 (fun k_ hk_ hs_ => by have i_ := HIq2_.out k_ hk_; have hs2_ : k_ = gb186 := hs_; have g0_ := HG186.out; have z_ := HLA.out; omega)); replace BK184 := Aside0.mk (blk_kept BK184.out hk2 (fun hs_ => by have hs2_ : gb184 = gb186 := hs_; have g_ := HG184.out; have g0_ := HG186.out; have z_ := HLA.out; omega)); replace BK185 := Aside0.mk (blk_kept BK185.out hk2 (fun hs_ => by have hs2_ : gb185 = gb186 := hs_; have g_ := HG185.out; have g0_ := HG186.out; have z_ := HLA.out; omega)); replace BK186 := Aside0.mk ((show wv10.heap[gb186]? = some (Obj.cells #[.int .i64 t187, .int .i64 t188, .int .i64 t189, .int .i64 t190, .int .i64 t191, .slice Aq2_ t192.length cq2_, .int .i64 t195] 31 (0, 0)) from by rw [hw]; exact (show _ = some (Obj.cells #[.int .i64 t187, .int .i64 t188, .int .i64 t189, .int .i64 t190, .int .i64 t191, .slice Aq2_ t192.length cq2_, .int .i64 t195] 31 (0, 0)) from by (with_reducible repeat (first | refine blk_drewN ?_ _ | refine blk_drew ?_ | refine blk_alloc ?_ _)); refine blk_put (cs := #[.int .i64 t187, .int .i64 t188, .int .i64 t189, .int .i64 t190, .int .i64 t191, .slice Aq2_ t192.length cq2_, .int .i64 0]) ?_ 6 _ rfl; (with_reducible repeat (first | refine blk_drewN ?_ _ | refine blk_drew ?_ | refine blk_alloc ?_ _)); refine blk_put (cs := #[.int .i64 t187, .int .i64 t188, .int .i64 t189, .int .i64 t190, .int .i64 t191, .slice none 0 0, .int .i64 0]) ?_ 5 _ rfl; (with_reducible repeat (first | refine blk_drewN ?_ _ | refine blk_drew ?_ | refine blk_alloc ?_ _)); refine blk_put (cs := #[.int .i64 t187, .int .i64 t188, .int .i64 t189, .int .i64 t190, .int .i64 0, .slice none 0 0, .int .i64 0]) ?_ 4 _ rfl; (with_reducible repeat (first | refine blk_drewN ?_ _ | refine blk_drew ?_ | refine blk_alloc ?_ _)); refine blk_put (cs := #[.int .i64 t187, .int .i64 t188, .int .i64 t189, .int .i64 0, .int .i64 0, .slice none 0 0, .int .i64 0]) ?_ 3 _ rfl; (with_reducible repeat (first | refine blk_drewN ?_ _ | refine blk_drew ?_ | refine blk_alloc ?_ _)); refine blk_put (cs := #[.int .i64 t187, .int .i64 t188, .int .i64 0, .int .i64 0, .int .i64 0, .slice none 0 0, .int .i64 0]) ?_ 2 _ rfl; (with_reducible repeat (first | refine blk_drewN ?_ _ | refine blk_drew ?_ | refine blk_alloc ?_ _)); refine blk_put (cs := #[.int .i64 t187, .int .i64 0, .int .i64 0, .int .i64 0, .int .i64 0, .slice none 0 0, .int .i64 0]) ?_ 1 _ rfl; (with_reducible repeat (first | refine blk_drewN ?_ _ | refine blk_drew ?_ | refine blk_alloc ?_ _)); refine blk_put (cs := #[.int .i64 0, .int .i64 0, .int .i64 0, .int .i64 0, .int .i64 0, .slice none 0 0, .int .i64 0]) ?_ 0 _ rfl; (with_reducible repeat (first | refine blk_drewN ?_ _ | refine blk_drew ?_ | refine blk_alloc ?_ _)); exact BK186.out))); replace BK196 := Aside0.mk (blk_kept BK196.out hk2 (fun hs_ => by have hs2_ : gb196 = gb186 := hs_; have g_ := HG196.out; have g0_ := HG186.out; have z_ := HLA.out; omega)); replace HB := Aside0.mk ((show Below w.heap.size w wv10 from by rw [hw]; exact by repeat (first | (with_reducible first | exact HB.out | apply below_alloc | apply pw_below_drewN | apply below_drew1 | refine below_set ?_ GE186.out) | exact HB.out))); replace HLA := Aside0.mk (And.intro HLA.out (hk2.1 : wv9.heap.size ≤ wv10.heap.size)); clear hw hk2))
    refine bodyPost_ret (results_ct rfl _ _ gb186 31 #[.int .i64 t187, .int .i64 t188, .int .i64 t189, .int .i64 t190, .int .i64 t191, .slice Aq2_ t192.length cq2_, .int .i64 t195] (0, 0) _ rfl (BK186.out) Try.underlying31 rfl (by kernel_rfl)) rfl ?_
    exact ⟨_, by first | rfl | (simp [errW_none, errW_some] <;> rfl) | (simp [*] <;> rfl), Kd.R_mono HOq2_.out (fun _ _ => trivial), by repeat (first | (with_reducible first | exact HB.out | apply below_alloc | apply pw_below_drewN | apply below_drew1) | exact HB.out)⟩
  rw [if_pos c9] at H
  have c9b0 : (a1_0 == a0_0) = true := beq_iff_eq.mpr c9
  have c9b1 : (a1_0 != a0_0) = false := bne_eq_false_iff_eq.mpr c9
  clear c9
  obtain ⟨y199, hy199⟩ : ∃ y_ : List (S26), y_ = (([(⟨a1_0, a1_1⟩ : S26)] : List (S26))) := ⟨_, rfl⟩
  replace H : ((spec_AreShares.f k y199).bind fun t202 => (if t202 = true then ((spec_l24Mark.f a1_0 a1_1 (wrap64 (a0_2 + 1)) 0 a0_4).bind fun t203 => (some (a1_0, a1_1, wrap64 (a0_2 + 1), 0, a0_4, t192, t203, true))) else (some (t187, t188, t189, t190, t191, t192, t195, false)))) = some (r1, r2, r3, r4, r5, r6, r7, r8) := by first | (rw [hy199]; with_reducible exact H) | (have H2_ := (Option.bind_some _ _).symm.trans H; rw [hy199]; with_reducible exact H2_) | (have H2_ := (Option.bind_some _ _).symm.trans H; with_reducible exact H2_) | with_reducible exact H | (rw [hy199]; exact H) | exact H
  have Ny199 := Aside0.mk hy199
  clear hy199
  replace H := Option.bind_eq_some_iff.mp H
  obtain ⟨t202, A100, H⟩ := H
  replace H : (if t202 = true then ((spec_l24Mark.f a1_0 a1_1 (wrap64 (a0_2 + 1)) 0 a0_4).bind fun t203 => (some (a1_0, a1_1, wrap64 (a0_2 + 1), 0, a0_4, t192, t203, true))) else (some (t187, t188, t189, t190, t191, t192, t195, false))) = some (r1, r2, r3, r4, r5, r6, r7, r8) := H
  have A10 := Aside0.mk A100
  clear A100
  have HC11 := Aside0.mk H
  clear H
  go_enter Try.func33, Try.ntmps33
  go_wp2_with (first | ((with_reducible refine gate_dst (N := 2) rfl ?_); (try (refine gate_guard (by rfl) ?_; dsimp only)); refine box_event ?hg (N := 2) ?hd (cs := #[.int .i64 a0_0, .int .i64 a0_1, .int .i64 a0_2, .int .i64 a0_3, .int .i64 a0_4, .slice A0_5 l0_5.length c0_5, .int .i64 a0_6]) (t := 31) ?hr ?_; (case hd => rfl); (case hg => rfl); (case hr => first | (go_simp; done) | (go_simp; rfl)); intro gb184 hg wv1 hbox hb; have BK184 := Aside0.mk (hbox); have GE184 := Aside0.mk ((by rw [hg]; exact Nat.le_trans HB.out.size ((Kept.refl w (fun _ => False))).1 : w.heap.size ≤ gb184)); have HG184 := Aside0.mk ((⟨by rw [hg]; exact ((Kept.refl w (fun _ => False))).1, blk_lt hbox⟩ : w.heap.size ≤ gb184 ∧ gb184 < wv1.heap.size)); have HLA := Aside0.mk (((Kept.below (Kept.refl w (fun _ => False)) hb).1 : w.heap.size ≤ wv1.heap.size)); replace HB := Aside0.mk (below_step HB.out hb); clear hb hbox hg) | ((with_reducible refine gate_dst (N := 3) rfl ?_); (try (refine gate_guard (by rfl) ?_; dsimp only)); refine box_event ?hg (N := 3) ?hd (cs := #[.int .i64 a1_0, .int .i64 a1_1]) (t := 26) ?hr ?_; (case hd => rfl); (case hg => rfl); (case hr => first | (go_simp; done) | (go_simp; rfl)); intro gb185 hg wv2 hbox hb; have BK185 := Aside0.mk (hbox); have GE185 := Aside0.mk ((by rw [hg]; exact Nat.le_trans HB.out.size ((Kept.refl wv1 (fun _ => False))).1 : w.heap.size ≤ gb185)); have HG185 := Aside0.mk ((⟨by rw [hg]; exact ((Kept.refl wv1 (fun _ => False))).1, blk_lt hbox⟩ : wv1.heap.size ≤ gb185 ∧ gb185 < wv2.heap.size)); replace BK184 := Aside0.mk (blk_below BK184.out hb); replace HB := Aside0.mk (below_step HB.out hb); replace HLA := Aside0.mk (And.intro HLA.out ((Kept.below (Kept.refl wv1 (fun _ => False)) hb).1 : wv1.heap.size ≤ wv2.heap.size)); clear hb hbox hg) | ((with_reducible refine gate_dst (N := 4) rfl ?_); (try (refine gate_guard (by rfl) ?_; dsimp only)); refine box_event ?hg (N := 4) ?hd (cs := #[.int .i64 0, .int .i64 0, .int .i64 0, .int .i64 0, .int .i64 0, .slice none 0 0, .int .i64 0]) (t := 31) ?hr ?_; (case hd => rfl); (case hg => rfl); (case hr => first | (go_simp; done) | (go_simp; rfl)); intro gb186 hg wv3 hbox hb; have BK186 := Aside0.mk (hbox); have GE186 := Aside0.mk ((by rw [hg]; exact Nat.le_trans HB.out.size ((Kept.refl wv2 (fun _ => False))).1 : w.heap.size ≤ gb186)); have HG186 := Aside0.mk ((⟨by rw [hg]; exact ((Kept.refl wv2 (fun _ => False))).1, blk_lt hbox⟩ : wv2.heap.size ≤ gb186 ∧ gb186 < wv3.heap.size)); replace BK184 := Aside0.mk (blk_below BK184.out hb); replace BK185 := Aside0.mk (blk_below BK185.out hb); replace HB := Aside0.mk (below_step HB.out hb); replace HLA := Aside0.mk (And.intro HLA.out ((Kept.below (Kept.refl wv2 (fun _ => False)) hb).1 : wv2.heap.size ≤ wv3.heap.size)); clear hb hbox hg; obtain ⟨hcz1_0, hcz1_1, hcz1_2, hcz1_3, hcz1_4, hcz1_5, hcz1_6, hcz1_f0, hcz1_f1, hcz1_f2, hcz1_f3, hcz1_f4, hcz1_f5, hcz1_f6⟩ := lk_c7 BK184.out) | ((with_reducible refine gate_callee (f := 73) rfl ?_); refine goesL_ (some 8) rfl rfl Try.func73 (by kernel_rfl) rfl #[.agg #[.int .i64 a0_0, .int .i64 a0_1, .int .i64 a0_2, .int .i64 a0_3, .int .i64 a0_4, .slice A0_5 l0_5.length c0_5, .int .i64 a0_6]] rfl (by (try simp only [List.map_toArray, List.map_cons, List.map_nil]); first | done | rfl | (simp only [List.length_drop, List.length_take]; rfl)) ?_; (with_reducible refine (spec_l24Copy.calls a0_0 a0_1 a0_2 a0_3 a0_4 _ _ l0_5 a0_6 t187 t188 t189 t190 t191 t192 t195 _ ?side1 ?side2 A3.out).mono ?_); (case side1 => exact Kd.C_below HR0_5.out (by repeat (first | (with_reducible first | exact HB.out | apply below_alloc | apply pw_below_drewN | apply below_drew1) | exact HB.out))); (case side2 => exact HC0_5.out); rintro e wv4 ⟨vq2_, rfl, ho0, hb⟩; refine ⟨_, rfl, ?_⟩; have hkW := (Kept.refl wv3 (fun _ => False)); have hk2 := Kept.below hkW hb; obtain ⟨Aq2_, cq2_, rfl⟩ := Kd.R_slice ho0; obtain ⟨okq2_, hoo0, hi0⟩ := lk_R ho0 (a := wv3.heap.size) (b := w.heap.size) hkW.1 (Nat.le_trans HB.out.size hkW.1); have HOq2_ := Aside0.mk (hoo0); have HIq2_ := Aside0.mk (hi0); replace BK184 := Aside0.mk (blk_below BK184.out hb); replace BK185 := Aside0.mk (blk_below BK185.out hb); replace BK186 := Aside0.mk (blk_below BK186.out hb); replace HB := Aside0.mk (below_step (by repeat (first | (with_reducible first | exact HB.out | apply below_alloc | apply pw_below_drewN | apply below_drew1) | exact HB.out)) hb); replace HLA := Aside0.mk (And.intro HLA.out (hk2.1 : wv3.heap.size ≤ wv4.heap.size)); (try clear hb); (try clear hkW); (try clear hk2); (try clear hkp); (try clear hoo0); (try clear hi0); (try clear ho0)) | ((with_reducible refine gate_dst (N := 6) rfl ?_); (try (refine gate_guard (by rfl) ?_; dsimp only)); refine box_event ?hg (N := 6) ?hd (cs := #[.int .i64 0, .int .i64 0, .int .i64 0, .int .i64 0, .int .i64 0, .slice none 0 0, .int .i64 0]) (t := 31) ?hr ?_; (case hd => rfl); (case hg => rfl); (case hr => first | (go_simp; done) | (go_simp; rfl)); intro gb196 hg wv5 hbox hb; have BK196 := Aside0.mk (hbox); have GE196 := Aside0.mk ((by rw [hg]; exact Nat.le_trans HB.out.size ((Kept.refl wv4 (fun _ => False))).1 : w.heap.size ≤ gb196)); have HG196 := Aside0.mk ((⟨by rw [hg]; exact ((Kept.refl wv4 (fun _ => False))).1, blk_lt hbox⟩ : wv4.heap.size ≤ gb196 ∧ gb196 < wv5.heap.size)); replace HOq2_ := Aside0.mk (Kd.R_below HOq2_.out hb); replace BK184 := Aside0.mk (blk_below BK184.out hb); replace BK185 := Aside0.mk (blk_below BK185.out hb); replace BK186 := Aside0.mk (blk_below BK186.out hb); replace HB := Aside0.mk (below_step HB.out hb); replace HLA := Aside0.mk (And.intro HLA.out ((Kept.below (Kept.refl wv4 (fun _ => False)) hb).1 : wv4.heap.size ≤ wv5.heap.size)); clear hb hbox hg; obtain ⟨hcz3_0, hcz3_1, hcz3_2, hcz3_3, hcz3_4, hcz3_5, hcz3_6, hcz3_f0, hcz3_f1, hcz3_f2, hcz3_f3, hcz3_f4, hcz3_f5, hcz3_f6⟩ := lk_c7 BK196.out) | ((with_reducible refine gate_store (t := 31) (p := 6) rfl ?_); refine store_event (t := 31) (p := 6) (v := ?vo_lg5) (w1 := (((((((wv5.setCell ⟨gb196, 0, none⟩ (.int .i64 t187)).setCell ⟨gb196, 1, none⟩ (.int .i64 t188)).setCell ⟨gb196, 2, none⟩ (.int .i64 t189)).setCell ⟨gb196, 3, none⟩ (.int .i64 t190)).setCell ⟨gb196, 4, none⟩ (.int .i64 t191)).setCell ⟨gb196, 5, none⟩ (.slice Aq2_ t192.length cq2_)).setCell ⟨gb196, 6, none⟩ (.int .i64 t195))) ?hg ?ho ?hn ?hr ?_; (case ho => rfl); (case hg => rfl); (case hn => rfl); (case hr => first | (go_simp; done) | (go_simp; rfl)); intro wv6 hw; have hk2 := (show Kept wv5 wv6 (fun k_ => k_ = gb196) from by rw [hw]; exact (show Kept wv5 (((((((wv5.setCell ⟨gb196, 0, none⟩ (.int .i64 t187)).setCell ⟨gb196, 1, none⟩ (.int .i64 t188)).setCell ⟨gb196, 2, none⟩ (.int .i64 t189)).setCell ⟨gb196, 3, none⟩ (.int .i64 t190)).setCell ⟨gb196, 4, none⟩ (.int .i64 t191)).setCell ⟨gb196, 5, none⟩ (.slice Aq2_ t192.length cq2_)).setCell ⟨gb196, 6, none⟩ (.int .i64 t195)) (fun k_ => k_ = gb196) from by repeat (first | (with_reducible first | exact Kept.refl _ _ | apply Kept.alloc | apply Kept.drewN | apply Kept.drew) | refine Kept.setCell ?_ (.inl (by first | exact rfl | exact .inl rfl | exact .inr rfl | exact .inr (.inl rfl) | exact .inr (.inr rfl))) _ | exact Kept.refl _ _))); replace HOq2_ := Aside0.mk (Kd.R_kept HOq2_.out hk2 (fun k_ hk_ hs_ => by have i_ := HIq2_.out k_ hk_; have hs2_ : k_ = gb196 := hs_; have g0_ := HG196.out; have z_ := HLA.out; omega)); replace BK184 := Aside0.mk (blk_kept BK184.out hk2 (fun hs_ => by have hs2_ : gb184 = gb196 := hs_; have g_ := HG184.out; have g0_ := HG196.out; have z_ := HLA.out; omega)); replace BK185 := Aside0.mk (blk_kept BK185.out hk2 (fun hs_ => by have hs2_ : gb185 = gb196 := hs_; have g_ := HG185.out; have g0_ := HG196.out; have z_ := HLA.out; omega)); replace BK186 := Aside0.mk (blk_kept BK186.out hk2 (fun hs_ => by have hs2_ : gb186 = gb196 := hs_; have g_ := HG186.out; have g0_ := HG196.out; have z_ := HLA.out; omega)); replace BK196 := Aside0.mk ((show wv6.heap[gb196]? = some (Obj.cells #[.int .i64 t187, .int .i64 t188, .int .i64 t189, .int .i64 t190, .int .i64 t191, .slice Aq2_ t192.length cq2_, .int .i64 t195] 31 (0, 0)) from by rw [hw]; exact (show _ = some (Obj.cells #[.int .i64 t187, .int .i64 t188, .int .i64 t189, .int .i64 t190, .int .i64 t191, .slice Aq2_ t192.length cq2_, .int .i64 t195] 31 (0, 0)) from by (with_reducible repeat (first | refine blk_drewN ?_ _ | refine blk_drew ?_ | refine blk_alloc ?_ _)); refine blk_put (cs := #[.int .i64 t187, .int .i64 t188, .int .i64 t189, .int .i64 t190, .int .i64 t191, .slice Aq2_ t192.length cq2_, .int .i64 0]) ?_ 6 _ rfl; (with_reducible repeat (first | refine blk_drewN ?_ _ | refine blk_drew ?_ | refine blk_alloc ?_ _)); refine blk_put (cs := #[.int .i64 t187, .int .i64 t188, .int .i64 t189, .int .i64 t190, .int .i64 t191, .slice none 0 0, .int .i64 0]) ?_ 5 _ rfl; (with_reducible repeat (first | refine blk_drewN ?_ _ | refine blk_drew ?_ | refine blk_alloc ?_ _)); refine blk_put (cs := #[.int .i64 t187, .int .i64 t188, .int .i64 t189, .int .i64 t190, .int .i64 0, .slice none 0 0, .int .i64 0]) ?_ 4 _ rfl; (with_reducible repeat (first | refine blk_drewN ?_ _ | refine blk_drew ?_ | refine blk_alloc ?_ _)); refine blk_put (cs := #[.int .i64 t187, .int .i64 t188, .int .i64 t189, .int .i64 0, .int .i64 0, .slice none 0 0, .int .i64 0]) ?_ 3 _ rfl; (with_reducible repeat (first | refine blk_drewN ?_ _ | refine blk_drew ?_ | refine blk_alloc ?_ _)); refine blk_put (cs := #[.int .i64 t187, .int .i64 t188, .int .i64 0, .int .i64 0, .int .i64 0, .slice none 0 0, .int .i64 0]) ?_ 2 _ rfl; (with_reducible repeat (first | refine blk_drewN ?_ _ | refine blk_drew ?_ | refine blk_alloc ?_ _)); refine blk_put (cs := #[.int .i64 t187, .int .i64 0, .int .i64 0, .int .i64 0, .int .i64 0, .slice none 0 0, .int .i64 0]) ?_ 1 _ rfl; (with_reducible repeat (first | refine blk_drewN ?_ _ | refine blk_drew ?_ | refine blk_alloc ?_ _)); refine blk_put (cs := #[.int .i64 0, .int .i64 0, .int .i64 0, .int .i64 0, .int .i64 0, .slice none 0 0, .int .i64 0]) ?_ 0 _ rfl; (with_reducible repeat (first | refine blk_drewN ?_ _ | refine blk_drew ?_ | refine blk_alloc ?_ _)); exact BK196.out))); replace HB := Aside0.mk ((show Below w.heap.size w wv6 from by rw [hw]; exact by repeat (first | (with_reducible first | exact HB.out | apply below_alloc | apply pw_below_drewN | apply below_drew1 | refine below_set ?_ GE196.out) | exact HB.out))); replace HLA := Aside0.mk (And.intro HLA.out (hk2.1 : wv5.heap.size ≤ wv6.heap.size)); clear hw hk2))
  replace HOq2_ := Aside0.mk (Kd.R_kept HOq2_.out (show Kept wv6 wv6.drew (fun k_ => False) from by repeat (first | (with_reducible first | exact Kept.refl _ _ | apply Kept.alloc | apply Kept.drewN | apply Kept.drew) | exact Kept.refl _ _)) (fun _ _ hs_ => hs_.elim))
  replace BK184 := Aside0.mk ((blk_kept BK184.out (show Kept wv6 wv6.drew (fun k_ => False) from by repeat (first | (with_reducible first | exact Kept.refl _ _ | apply Kept.alloc | apply Kept.drewN | apply Kept.drew) | exact Kept.refl _ _)) (fun hs_ => hs_.elim)))
  replace BK185 := Aside0.mk ((blk_kept BK185.out (show Kept wv6 wv6.drew (fun k_ => False) from by repeat (first | (with_reducible first | exact Kept.refl _ _ | apply Kept.alloc | apply Kept.drewN | apply Kept.drew) | exact Kept.refl _ _)) (fun hs_ => hs_.elim)))
  replace BK186 := Aside0.mk ((blk_kept BK186.out (show Kept wv6 wv6.drew (fun k_ => False) from by repeat (first | (with_reducible first | exact Kept.refl _ _ | apply Kept.alloc | apply Kept.drewN | apply Kept.drew) | exact Kept.refl _ _)) (fun hs_ => hs_.elim)))
  replace BK196 := Aside0.mk ((blk_kept BK196.out (show Kept wv6 wv6.drew (fun k_ => False) from by repeat (first | (with_reducible first | exact Kept.refl _ _ | apply Kept.alloc | apply Kept.drewN | apply Kept.drew) | exact Kept.refl _ _)) (fun hs_ => hs_.elim)))
  replace HB := Aside0.mk ((show Below w.heap.size w (wv6.drew) from by repeat (first | (with_reducible first | exact HB.out | apply below_alloc | apply pw_below_drewN | apply below_drew1) | exact HB.out)))
  replace HLA := Aside0.mk (And.intro HLA.out ((show Kept wv6 wv6.drew (fun k_ => False) from by repeat (first | (with_reducible first | exact Kept.refl _ _ | apply Kept.alloc | apply Kept.drewN | apply Kept.drew) | exact Kept.refl _ _)).1 : wv6.heap.size ≤ (wv6.drew).heap.size))
  refine start_ (n := 33) (S := fun w' => w'.cell? ⟨gb184, 0, none⟩ = some (.int .i64 a0_0) ∧ w'.cell? ⟨gb184, 1, none⟩ = some (.int .i64 a0_1) ∧ w'.cell? ⟨gb184, 2, none⟩ = some (.int .i64 a0_2) ∧ w'.cell? ⟨gb184, 3, none⟩ = some (.int .i64 a0_3) ∧ w'.cell? ⟨gb184, 4, none⟩ = some (.int .i64 a0_4) ∧ w'.cell? ⟨gb184, 5, none⟩ = some (.slice A0_5 l0_5.length c0_5) ∧ w'.cell? ⟨gb184, 6, none⟩ = some (.int .i64 a0_6) ∧ w'.cell? ⟨gb185, 0, none⟩ = some (.int .i64 a1_0) ∧ w'.cell? ⟨gb185, 1, none⟩ = some (.int .i64 a1_1)) (ds := []) #[false, false, false, false, false, false, false, false, false, false, false, false, false, false, false, false, false, false, false, false, false, false, false, false, false, false, false, false, false, false, false, false, false] (by kernel_rfl) rfl rfl (lk_t7 BK184.out (lk_e2 BK185.out)) (fun hHeld => ?_)
  generalize wv6.drew = wv7 at HOq2_ BK184 BK185 BK186 BK196 HB HLA hHeld ⊢
  refine pure_ (i := 0) (N := some 9) (v := ?_) (a' := ?_) #[true, false, false, false, false, false, false, false, false, false, false, false, false, false, false, false, false, false, false, false, false, false, false, false, false, false, false, false, false, false, false, false, false] rfl rfl (by kernel_rfl) (fun _ _ _ h => h) (Or.inl ⟨by rfl, ?_⟩) ?_ ?_
  rotate_left
  · intro w'
    go_simp
    with_reducible rfl
  rotate_left
  · simp only [Act.put, List.setIfInBounds_toArray, List.set_cons_zero, List.set_cons_succ, i64_w, i32_w]
    rfl
  refine take_ (i := 1) (N := some 10) (v := ?_) (a' := ?_) #[true, true, false, false, false, false, false, false, false, false, false, false, false, false, false, false, false, false, false, false, false, false, false, false, false, false, false, false, false, false, false, false, false] rfl rfl (by kernel_rfl) (fun _ _ _ h => h) (Or.inl ⟨by rfl, ?_⟩) hHeld ?_ ?_
  rotate_left
  · rintro w' ⟨s0, s1, s2, s3, s4, s5, s6, s7, s8⟩
    go_simp
    with_reducible rfl
  rotate_left
  · simp only [Act.put, List.setIfInBounds_toArray, List.set_cons_zero, List.set_cons_succ, i64_w, i32_w]
    rfl
  refine one_ (i := 2) (N := some 11) #[true, true, true, false, false, false, false, false, false, false, false, false, false, false, false, false, false, false, false, false, false, false, false, false, false, false, false, false, false, false, false, false, false] rfl rfl (by kernel_rfl) (by decide) (fun K hK => ?_)
  refine goes_ Try.func69 (by kernel_rfl) rfl #[.agg #[.int .i64 a0_0, .int .i64 a0_1, .int .i64 a0_2, .int .i64 a0_3, .int .i64 a0_4]] (by rfl) rfl rfl (by (try simp only [List.map_toArray, List.map_cons, List.map_nil]); first | done | rfl | (simp only [List.length_drop, List.length_take]; rfl)) ?_
  (with_reducible refine (spec_IsValidKeeper.calls k a0_0 a0_1 a0_2 a0_3 a0_4 true _  A4.out).mono ?_)
  rintro e wv8 ⟨rfl, hb⟩
  refine ⟨_, rfl, ?_⟩
  have hkW := (Kept.refl wv7 (fun _ => False))
  have hk2 := Kept.below hkW hb
  replace HOq2_ := Aside0.mk (Kd.R_below HOq2_.out hb)
  replace BK184 := Aside0.mk (blk_below BK184.out hb)
  replace BK185 := Aside0.mk (blk_below BK185.out hb)
  replace BK186 := Aside0.mk (blk_below BK186.out hb)
  replace BK196 := Aside0.mk (blk_below BK196.out hb)
  replace HB := Aside0.mk (below_step (by repeat (first | (with_reducible first | exact HB.out | apply below_alloc | apply pw_below_drewN | apply below_drew1) | exact HB.out)) hb)
  replace HLA := Aside0.mk (And.intro HLA.out (hk2.1 : wv7.heap.size ≤ wv8.heap.size))
  (try clear hb)
  (try clear hkW)
  (try clear hk2)
  (try clear hkp)
  refine hK.out _ _ (lk_t7 BK184.out (lk_e2 BK185.out)) (fun hHeld => ?_)
  clear hK K
  refine norm_ (a' := ?_) ?_ ?_
  rotate_left
  · show Act.put _ (some 11) _ = _
    simp only [Act.put, List.setIfInBounds_toArray, List.set_cons_zero, List.set_cons_succ, i64_w, i32_w]
    rfl
  refine pure_ (i := 3) (N := some 12) (v := ?_) (a' := ?_) #[true, true, true, true, false, false, false, false, false, false, false, false, false, false, false, false, false, false, false, false, false, false, false, false, false, false, false, false, false, false, false, false, false] rfl rfl (by kernel_rfl) (fun _ _ _ h => h) (Or.inl ⟨by rfl, ?_⟩) ?_ ?_
  rotate_left
  · intro w'
    go_simp
    with_reducible rfl
  rotate_left
  · simp only [Act.put, List.setIfInBounds_toArray, List.set_cons_zero, List.set_cons_succ, i64_w, i32_w]
    rfl
  refine pure_ (i := 4) (N := some 13) (v := ?_) (a' := ?_) #[true, true, true, true, true, false, false, false, false, false, false, false, false, false, false, false, false, false, false, false, false, false, false, false, false, false, false, false, false, false, false, false, false] rfl rfl (by kernel_rfl) (fun _ _ _ h => h) (Or.inl ⟨by rfl, ?_⟩) ?_ ?_
  rotate_left
  · intro w'
    go_simp
    with_reducible rfl
  rotate_left
  · simp only [Act.put, List.setIfInBounds_toArray, List.set_cons_zero, List.set_cons_succ, i64_w, i32_w]
    rfl
  refine pure_ (i := 5) (N := some 14) (v := ?_) (a' := ?_) #[true, true, true, true, true, true, false, false, false, false, false, false, false, false, false, false, false, false, false, false, false, false, false, false, false, false, false, false, false, false, false, false, false] rfl rfl (by kernel_rfl) (fun _ _ _ h => h) (Or.inl ⟨by rfl, ?_⟩) ?_ ?_
  rotate_left
  · intro w'
    go_simp
    with_reducible rfl
  rotate_left
  · simp only [Act.put, List.setIfInBounds_toArray, List.set_cons_zero, List.set_cons_succ, i64_w, i32_w]
    rfl
  refine pure_ (i := 8) (N := some 17) (v := ?_) (a' := ?_) #[true, true, true, true, true, true, false, false, true, false, false, false, false, false, false, false, false, false, false, false, false, false, false, false, false, false, false, false, false, false, false, false, false] rfl rfl (by kernel_rfl) (fun _ _ _ h => h) (Or.inl ⟨by rfl, ?_⟩) ?_ ?_
  rotate_left
  · intro w'
    go_simp
    with_reducible rfl
  rotate_left
  · simp only [Act.put, List.setIfInBounds_toArray, List.set_cons_zero, List.set_cons_succ, i64_w, i32_w]
    rfl
  refine take_ (i := 6) (N := some 15) (v := ?_) (a' := ?_) #[true, true, true, true, true, true, true, false, true, false, false, false, false, false, false, false, false, false, false, false, false, false, false, false, false, false, false, false, false, false, false, false, false] rfl rfl (by kernel_rfl) (fun _ _ _ h => h) (Or.inl ⟨by rfl, ?_⟩) hHeld ?_ ?_
  rotate_left
  · rintro w' ⟨s0, s1, s2, s3, s4, s5, s6, s7, s8⟩
    go_simp
    with_reducible rfl
  rotate_left
  · simp only [Act.put, List.setIfInBounds_toArray, List.set_cons_zero, List.set_cons_succ, i64_w, i32_w]
    rfl
  refine take_ (i := 9) (N := some 18) (v := ?_) (a' := ?_) #[true, true, true, true, true, true, true, false, true, true, false, false, false, false, false, false, false, false, false, false, false, false, false, false, false, false, false, false, false, false, false, false, false] rfl rfl (by kernel_rfl) (fun _ _ _ h => h) (Or.inl ⟨by rfl, ?_⟩) hHeld ?_ ?_
  rotate_left
  · rintro w' ⟨s0, s1, s2, s3, s4, s5, s6, s7, s8⟩
    go_simp
    with_reducible rfl
  rotate_left
  · simp only [Act.put, List.setIfInBounds_toArray, List.set_cons_zero, List.set_cons_succ, i64_w, i32_w]
    rfl
  refine one_ (i := 7) (N := some 16) #[true, true, true, true, true, true, true, true, true, true, false, false, false, false, false, false, false, false, false, false, false, false, false, false, false, false, false, false, false, false, false, false, false] rfl rfl (by kernel_rfl) (by decide) (fun K hK => ?_)
  refine goes_ Try.func79 (by kernel_rfl) rfl #[.agg #[.int .i64 a0_0, .int .i64 a0_1, .int .i64 a0_2, .int .i64 a0_3, .int .i64 a0_4]] (by rfl) rfl rfl (by (try simp only [List.map_toArray, List.map_cons, List.map_nil]); first | done | rfl | (simp only [List.length_drop, List.length_take]; rfl)) ?_
  (with_reducible refine (spec_l24Mark.calls a0_0 a0_1 a0_2 a0_3 a0_4 t198 _  A6.out).mono ?_)
  rintro e wv9 ⟨rfl, hb⟩
  refine ⟨_, rfl, ?_⟩
  have hkW := (Kept.refl wv8 (fun _ => False))
  have hk2 := Kept.below hkW hb
  replace HOq2_ := Aside0.mk (Kd.R_below HOq2_.out hb)
  replace BK184 := Aside0.mk (blk_below BK184.out hb)
  replace BK185 := Aside0.mk (blk_below BK185.out hb)
  replace BK186 := Aside0.mk (blk_below BK186.out hb)
  replace BK196 := Aside0.mk (blk_below BK196.out hb)
  replace HB := Aside0.mk (below_step (by repeat (first | (with_reducible first | exact HB.out | apply below_alloc | apply pw_below_drewN | apply below_drew1) | exact HB.out)) hb)
  replace HLA := Aside0.mk (And.intro HLA.out (hk2.1 : wv8.heap.size ≤ wv9.heap.size))
  (try clear hb)
  (try clear hkW)
  (try clear hk2)
  (try clear hkp)
  refine hK.out _ _ (lk_t7 BK184.out (lk_e2 BK185.out)) (fun hHeld => ?_)
  clear hK K
  refine norm_ (a' := ?_) ?_ ?_
  rotate_left
  · show Act.put _ (some 16) _ = _
    simp only [Act.put, List.setIfInBounds_toArray, List.set_cons_zero, List.set_cons_succ, i64_w, i32_w]
    rfl
  refine pure_ (i := 10) (N := some 19) (v := ?_) (a' := ?_) #[true, true, true, true, true, true, true, true, true, true, true, false, false, false, false, false, false, false, false, false, false, false, false, false, false, false, false, false, false, false, false, false, false] rfl rfl (by kernel_rfl) (fun _ _ _ h => h) (Or.inl ⟨by rfl, ?_⟩) ?_ ?_
  rotate_left
  · intro w'
    go_simp
    with_reducible rfl
  rotate_left
  · simp only [Act.put, List.setIfInBounds_toArray, List.set_cons_zero, List.set_cons_succ, i64_w, i32_w]
    rfl
  refine pure_ (i := 11) (N := some 20) (v := ?_) (a' := ?_) #[true, true, true, true, true, true, true, true, true, true, true, true, false, false, false, false, false, false, false, false, false, false, false, false, false, false, false, false, false, false, false, false, false] rfl rfl (by kernel_rfl) (fun _ _ _ h => h) (Or.inl ⟨by rfl, ?_⟩) ?_ ?_
  rotate_left
  · intro w'
    go_simp
    with_reducible rfl
  rotate_left
  · simp only [Act.put, List.setIfInBounds_toArray, List.set_cons_zero, List.set_cons_succ, i64_w, i32_w]
    rfl
  refine pure_ (i := 12) (N := some 21) (v := ?_) (a' := ?_) #[true, true, true, true, true, true, true, true, true, true, true, true, true, false, false, false, false, false, false, false, false, false, false, false, false, false, false, false, false, false, false, false, false] rfl rfl (by kernel_rfl) (fun _ _ _ h => h) (Or.inl ⟨by rfl, ?_⟩) ?_ ?_
  rotate_left
  · intro w'
    go_simp
    with_reducible rfl
  rotate_left
  · simp only [Act.put, List.setIfInBounds_toArray, List.set_cons_zero, List.set_cons_succ, i64_w, i32_w]
    rfl
  refine pure_ (i := 13) (N := some 22) (v := ?_) (a' := ?_) #[true, true, true, true, true, true, true, true, true, true, true, true, true, true, false, false, false, false, false, false, false, false, false, false, false, false, false, false, false, false, false, false, false] rfl rfl (by kernel_rfl) (fun _ _ _ h => h) (Or.inl ⟨by rfl, ?_⟩) ?_ ?_
  rotate_left
  · intro w'
    go_simp
    with_reducible rfl
  rotate_left
  · simp only [Act.put, List.setIfInBounds_toArray, List.set_cons_zero, List.set_cons_succ, i64_w, i32_w]
    rfl
  refine pure_ (i := 14) (N := some 23) (v := ?_) (a' := ?_) #[true, true, true, true, true, true, true, true, true, true, true, true, true, true, true, false, false, false, false, false, false, false, false, false, false, false, false, false, false, false, false, false, false] rfl rfl (by kernel_rfl) (fun _ _ _ h => h) (Or.inl ⟨by rfl, ?_⟩) ?_ ?_
  rotate_left
  · intro w'
    go_simp
    with_reducible rfl
  rotate_left
  · simp only [Act.put, List.setIfInBounds_toArray, List.set_cons_zero, List.set_cons_succ, i64_w, i32_w]
    rfl
  refine take_ (i := 15) (N := some 24) (v := ?_) (a' := ?_) #[true, true, true, true, true, true, true, true, true, true, true, true, true, true, true, true, false, false, false, false, false, false, false, false, false, false, false, false, false, false, false, false, false] rfl rfl (by kernel_rfl) (fun _ _ _ h => h) (Or.inl ⟨by rfl, ?_⟩) hHeld ?_ ?_
  rotate_left
  · rintro w' ⟨s0, s1, s2, s3, s4, s5, s6, s7, s8⟩
    go_simp
    with_reducible rfl
  rotate_left
  · simp only [Act.put, List.setIfInBounds_toArray, List.set_cons_zero, List.set_cons_succ, i64_w, i32_w]
    rfl
  refine pure_ (i := 16) (N := some 25) (v := ?_) (a' := ?_) #[true, true, true, true, true, true, true, true, true, true, true, true, true, true, true, true, true, false, false, false, false, false, false, false, false, false, false, false, false, false, false, false, false] rfl rfl (by kernel_rfl) (fun _ _ _ h => h) (Or.inl ⟨by rfl, ?_⟩) ?_ ?_
  rotate_left
  · intro w'
    go_simp
    with_reducible rfl
  rotate_left
  · simp only [Act.put, List.setIfInBounds_toArray, List.set_cons_zero, List.set_cons_succ, i64_w, i32_w]
    rfl
  refine pure_ (i := 17) (N := some 26) (v := ?_) (a' := ?_) #[true, true, true, true, true, true, true, true, true, true, true, true, true, true, true, true, true, true, false, false, false, false, false, false, false, false, false, false, false, false, false, false, false] rfl rfl (by kernel_rfl) (fun _ _ _ h => h) (Or.inl ⟨by rfl, ?_⟩) ?_ ?_
  rotate_left
  · intro w'
    go_simp
    with_reducible rfl
  rotate_left
  · simp only [Act.put, List.setIfInBounds_toArray, List.set_cons_zero, List.set_cons_succ, i64_w, i32_w]
    rfl
  refine pure_ (i := 18) (N := some 27) (v := ?_) (a' := ?_) #[true, true, true, true, true, true, true, true, true, true, true, true, true, true, true, true, true, true, true, false, false, false, false, false, false, false, false, false, false, false, false, false, false] rfl rfl (by kernel_rfl) (fun _ _ _ h => h) (Or.inl ⟨by rfl, ?_⟩) ?_ ?_
  rotate_left
  · intro w'
    go_simp
    with_reducible rfl
  rotate_left
  · simp only [Act.put, List.setIfInBounds_toArray, List.set_cons_zero, List.set_cons_succ, i64_w, i32_w]
    rfl
  refine pure_ (i := 19) (N := some 28) (v := ?_) (a' := ?_) #[true, true, true, true, true, true, true, true, true, true, true, true, true, true, true, true, true, true, true, true, false, false, false, false, false, false, false, false, false, false, false, false, false] rfl rfl (by kernel_rfl) (fun _ _ _ h => h) (Or.inl ⟨by rfl, ?_⟩) ?_ ?_
  rotate_left
  · intro w'
    go_simp
    with_reducible rfl
  rotate_left
  · simp only [Act.put, List.setIfInBounds_toArray, List.set_cons_zero, List.set_cons_succ, i64_w, i32_w]
    rfl
  refine pure_ (i := 21) (N := some 30) (v := ?_) (a' := ?_) #[true, true, true, true, true, true, true, true, true, true, true, true, true, true, true, true, true, true, true, true, false, true, false, false, false, false, false, false, false, false, false, false, false] rfl rfl (by kernel_rfl) (fun _ _ _ h => h) (Or.inl ⟨by rfl, ?_⟩) ?_ ?_
  rotate_left
  · intro w'
    go_simp
    with_reducible rfl
  rotate_left
  · simp only [Act.put, List.setIfInBounds_toArray, List.set_cons_zero, List.set_cons_succ, i64_w, i32_w]
    rfl
  refine pure_ (i := 22) (N := some 31) (v := ?_) (a' := ?_) #[true, true, true, true, true, true, true, true, true, true, true, true, true, true, true, true, true, true, true, true, false, true, true, false, false, false, false, false, false, false, false, false, false] rfl rfl (by kernel_rfl) (fun _ _ _ h => h) (Or.inl ⟨by rfl, ?_⟩) ?_ ?_
  rotate_left
  · intro w'
    go_simp
    with_reducible rfl
  rotate_left
  · simp only [Act.put, List.setIfInBounds_toArray, List.set_cons_zero, List.set_cons_succ, i64_w, i32_w]
    rfl
  refine pure_ (i := 23) (N := some 32) (v := ?_) (a' := ?_) #[true, true, true, true, true, true, true, true, true, true, true, true, true, true, true, true, true, true, true, true, false, true, true, true, false, false, false, false, false, false, false, false, false] rfl rfl (by kernel_rfl) (fun _ _ _ h => h) (Or.inl ⟨by rfl, ?_⟩) ?_ ?_
  rotate_left
  · intro w'
    go_simp
    with_reducible rfl
  rotate_left
  · simp only [Act.put, List.setIfInBounds_toArray, List.set_cons_zero, List.set_cons_succ, i64_w, i32_w]
    rfl
  refine take_ (i := 20) (N := some 29) (v := ?_) (a' := ?_) #[true, true, true, true, true, true, true, true, true, true, true, true, true, true, true, true, true, true, true, true, true, true, true, true, false, false, false, false, false, false, false, false, false] rfl rfl (by kernel_rfl) (fun _ _ _ h => h) (Or.inl ⟨by rfl, ?_⟩) hHeld ?_ ?_
  rotate_left
  · rintro w' ⟨s0, s1, s2, s3, s4, s5, s6, s7, s8⟩
    go_simp
    with_reducible rfl
  rotate_left
  · simp only [Act.put, List.setIfInBounds_toArray, List.set_cons_zero, List.set_cons_succ, i64_w, i32_w]
    rfl
  refine take_ (i := 24) (N := some 33) (v := ?_) (a' := ?_) #[true, true, true, true, true, true, true, true, true, true, true, true, true, true, true, true, true, true, true, true, true, true, true, true, true, false, false, false, false, false, false, false, false] rfl rfl (by kernel_rfl) (fun _ _ _ h => h) (Or.inl ⟨by rfl, ?_⟩) hHeld ?_ ?_
  rotate_left
  · rintro w' ⟨s0, s1, s2, s3, s4, s5, s6, s7, s8⟩
    go_simp
    with_reducible rfl
  rotate_left
  · simp only [Act.put, List.setIfInBounds_toArray, List.set_cons_zero, List.set_cons_succ, i64_w, i32_w]
    rfl
  refine pure_ (i := 25) (N := some 34) (v := ?_) (a' := ?_) #[true, true, true, true, true, true, true, true, true, true, true, true, true, true, true, true, true, true, true, true, true, true, true, true, true, true, false, false, false, false, false, false, false] rfl rfl (by kernel_rfl) (fun _ _ _ h => h) (Or.inl ⟨by rfl, ?_⟩) ?_ ?_
  rotate_left
  · intro w'
    go_simp
    with_reducible rfl
  rotate_left
  · simp only [Act.put, List.setIfInBounds_toArray, List.set_cons_zero, List.set_cons_succ, i64_w, i32_w]
    rfl
  refine pure_ (i := 26) (N := some 35) (v := ?_) (a' := ?_) #[true, true, true, true, true, true, true, true, true, true, true, true, true, true, true, true, true, true, true, true, true, true, true, true, true, true, true, false, false, false, false, false, false] rfl rfl (by kernel_rfl) (fun _ _ _ h => h) (Or.inl ⟨by rfl, ?_⟩) ?_ ?_
  rotate_left
  · intro w'
    go_simp
    with_reducible rfl
  rotate_left
  · simp only [Act.put, List.setIfInBounds_toArray, List.set_cons_zero, List.set_cons_succ, i64_w, i32_w]
    rfl
  refine pure_ (i := 27) (N := some 36) (v := ?_) (a' := ?_) #[true, true, true, true, true, true, true, true, true, true, true, true, true, true, true, true, true, true, true, true, true, true, true, true, true, true, true, true, false, false, false, false, false] rfl rfl (by kernel_rfl) (fun _ _ _ h => h) (Or.inl ⟨by rfl, ?_⟩) ?_ ?_
  rotate_left
  · intro w'
    go_simp
    with_reducible rfl
  rotate_left
  · simp only [Act.put, List.setIfInBounds_toArray, List.set_cons_zero, List.set_cons_succ, i64_w, i32_w]
    rfl
  refine take_ (i := 28) (N := some 37) (v := ?_) (a' := ?_) #[true, true, true, true, true, true, true, true, true, true, true, true, true, true, true, true, true, true, true, true, true, true, true, true, true, true, true, true, true, false, false, false, false] rfl rfl (by kernel_rfl) (fun _ _ _ h => h) (Or.inl ⟨by rfl, ?_⟩) hHeld ?_ ?_
  rotate_left
  · rintro w' ⟨s0, s1, s2, s3, s4, s5, s6, s7, s8⟩
    go_simp
    with_reducible rfl
  rotate_left
  · simp only [Act.put, List.setIfInBounds_toArray, List.set_cons_zero, List.set_cons_succ, i64_w, i32_w]
    rfl
  refine one_ (i := 29) (N := some 38) #[true, true, true, true, true, true, true, true, true, true, true, true, true, true, true, true, true, true, true, true, true, true, true, true, true, true, true, true, true, true, false, false, false] rfl rfl (by kernel_rfl) (by decide) (fun K hK => ?_)
  refine Kd.R_lit_step k26 _ 26 ?hg (N := 38) ?hd (xs := ([(⟨a1_0, a1_1⟩ : S26)] : List (S26))) (inner := [.int .i64 a1_0, .int .i64 a1_1]) (ok := fun _ => True) (okp := fun _ => True) ?hr ?hp (fun _ hk => hk) trivial (Below.refl _ _) (Nat.le_refl _) (by simp) ?_
  (case hd => rfl)
  (case hg => rfl)
  (case hr => first | (go_simp; done) | (go_simp; rfl))
  (case hp => exact (Reps.c2 (show Kd.M k26 _ _ _ (⟨a1_0, a1_1⟩ : S26) [.int .i64 a1_0, .int .i64 a1_1] from (k26_mkM _ _ _ (⟨a1_0, a1_1⟩ : S26) )) (Reps.none _ _)))
  intro vq4_ wv10 ho0 hb hg_ hnew_
  clear hg_ hnew_
  (first | rw [← Ny199.out] at ho0 | (simp only [Int.reduceToNat] at ho0; rw [← Ny199.out] at ho0))
  have hkW := (Kept.refl wv9 (fun _ => False))
  have hk2 := Kept.below hkW hb
  obtain ⟨Aq4_, cq4_, rfl⟩ := Kd.R_slice ho0
  obtain ⟨okq4_, hoo0, hi0⟩ := lk_R ho0 (a := wv9.heap.size) (b := w.heap.size) hkW.1 (Nat.le_trans HB.out.size hkW.1)
  have HOq4_ := Aside0.mk (hoo0)
  have HIq4_ := Aside0.mk (hi0)
  replace HOq2_ := Aside0.mk (Kd.R_below HOq2_.out hb)
  replace BK184 := Aside0.mk (blk_below BK184.out hb)
  replace BK185 := Aside0.mk (blk_below BK185.out hb)
  replace BK186 := Aside0.mk (blk_below BK186.out hb)
  replace BK196 := Aside0.mk (blk_below BK196.out hb)
  replace HB := Aside0.mk (below_step (by repeat (first | (with_reducible first | exact HB.out | apply below_alloc | apply pw_below_drewN | apply below_drew1) | exact HB.out)) hb)
  replace HLA := Aside0.mk (And.intro HLA.out (hk2.1 : wv9.heap.size ≤ wv10.heap.size))
  (try clear hb)
  (try clear hkW)
  (try clear hk2)
  (try clear hoo0)
  (try clear hi0)
  (try clear ho0)
  refine hK.out _ _ (lk_t7 BK184.out (lk_e2 BK185.out)) (fun hHeld => ?_)
  clear hK K
  refine norm_ (a' := ?_) ?_ ?_
  rotate_left
  · show Act.put _ (some 38) _ = _
    simp only [Act.put, List.setIfInBounds_toArray, List.set_cons_zero, List.set_cons_succ, i64_w, i32_w]
    rfl
  refine one_ (i := 30) (N := some 39) #[true, true, true, true, true, true, true, true, true, true, true, true, true, true, true, true, true, true, true, true, true, true, true, true, true, true, true, true, true, true, true, false, false] rfl rfl (by kernel_rfl) (by decide) (fun K hK => ?_)
  refine goes_ Try.func80 (by kernel_rfl) rfl #[.slice Aq4_ y199.length cq4_] (by rfl) rfl rfl (by (try simp only [List.map_toArray, List.map_cons, List.map_nil]); first | done | rfl | (simp only [List.length_drop, List.length_take]; rfl)) ?_
  (with_reducible refine (spec_AreShares.calls k _ _ y199 t202 _ ?side1 ?side2 A10.out).mono ?_)
  (case side1 => exact (Kd.R_reads' HOq4_.out).2.2)
  (case side2 => have h1_ := (Kd.R_reads' HOq4_.out).1; have h2_ := (Kd.R_reads' HOq4_.out).2.1; omega)
  rintro e wv11 ⟨rfl, hd⟩
  have hb := hd.below
  clear hd
  refine ⟨_, rfl, ?_⟩
  have hkW := (Kept.refl wv10 (fun _ => False))
  have hk2 := Kept.below hkW hb
  replace HOq2_ := Aside0.mk (Kd.R_below HOq2_.out hb)
  replace HOq4_ := Aside0.mk (Kd.R_below HOq4_.out hb)
  replace BK184 := Aside0.mk (blk_below BK184.out hb)
  replace BK185 := Aside0.mk (blk_below BK185.out hb)
  replace BK186 := Aside0.mk (blk_below BK186.out hb)
  replace BK196 := Aside0.mk (blk_below BK196.out hb)
  replace HB := Aside0.mk (below_step (by repeat (first | (with_reducible first | exact HB.out | apply below_alloc | apply pw_below_drewN | apply below_drew1) | exact HB.out)) hb)
  replace HLA := Aside0.mk (And.intro HLA.out (hk2.1 : wv10.heap.size ≤ wv11.heap.size))
  (try clear hb)
  (try clear hkW)
  (try clear hk2)
  (try clear hkp)
  refine hK.out _ _ (lk_t7 BK184.out (lk_e2 BK185.out)) (fun hHeld => ?_)
  clear hK K
  refine norm_ (a' := ?_) ?_ ?_
  rotate_left
  · show Act.put _ (some 39) _ = _
    simp only [Act.put, List.setIfInBounds_toArray, List.set_cons_zero, List.set_cons_succ, i64_w, i32_w]
    rfl
  refine pure_ (i := 31) (N := some 40) (v := ?_) (a' := ?_) #[true, true, true, true, true, true, true, true, true, true, true, true, true, true, true, true, true, true, true, true, true, true, true, true, true, true, true, true, true, true, true, true, false] rfl rfl (by kernel_rfl) (fun _ _ _ h => h) (Or.inl ⟨by rfl, ?_⟩) ?_ ?_
  rotate_left
  · intro w'
    go_simp
    with_reducible rfl
  rotate_left
  · simp only [Act.put, List.setIfInBounds_toArray, List.set_cons_zero, List.set_cons_succ, i64_w, i32_w]
    rfl
  refine pure_ (i := 32) (N := some 41) (v := ?_) (a' := ?_) #[true, true, true, true, true, true, true, true, true, true, true, true, true, true, true, true, true, true, true, true, true, true, true, true, true, true, true, true, true, true, true, true, true] rfl rfl (by kernel_rfl) (fun _ _ _ h => h) (Or.inl ⟨by rfl, ?_⟩) ?_ ?_
  rotate_left
  · intro w'
    go_simp
    with_reducible rfl
  rotate_left
  · simp only [Act.put, List.setIfInBounds_toArray, List.set_cons_zero, List.set_cons_succ, i64_w, i32_w]
    rfl
  refine done_ (by kernel_rfl) ?_
  (try clear hHeld)
  go_upto_if 41 with (fail)
  have H := HC11.out
  clear HC11
  by_cases c12 : t202 = true
  rotate_left
  · replace c12 := Bool.eq_false_iff.mpr c12
    subst c12
    have H1 : (some (t187, t188, t189, t190, t191, t192, t195, false)) = some (r1, r2, r3, r4, r5, r6, r7, r8) := by rw [if_neg (show ¬ (false = true) by decide)] at H; exact H
    clear H
    have H := H1
    clear H1
    simp only [Option.some.injEq, Prod.mk.injEq] at H
    obtain ⟨rfl, rfl, rfl, rfl, rfl, rfl, rfl, rfl⟩ := H
    obtain ⟨hcz5_0, hcz5_1, hcz5_2, hcz5_3, hcz5_4, hcz5_5, hcz5_6, hcz5_f0, hcz5_f1, hcz5_f2, hcz5_f3, hcz5_f4, hcz5_f5, hcz5_f6⟩ := lk_c7 BK196.out
    obtain ⟨hcz6_0, hcz6_1, hcz6_2, hcz6_3, hcz6_4, hcz6_5, hcz6_6, hcz6_f0, hcz6_f1, hcz6_f2, hcz6_f3, hcz6_f4, hcz6_f5, hcz6_f6⟩ := lk_c7 BK186.out
    have hnb7_ : gb196 ≠ gb186 := (by have g1_ := HG196.out; have g2_ := HG186.out; have z_ := HLA.out; omega)
    have hnb8_ : gb186 ≠ gb196 := (by have g1_ := HG186.out; have g2_ := HG196.out; have z_ := HLA.out; omega)
    go_wp2_with (first | ((with_reducible refine gate_store (t := 31) (p := 4) rfl ?_); refine store_event (t := 31) (p := 4) (v := ?vo_lg9) (w1 := (((((((wv11.setCell ⟨gb186, 0, none⟩ (.int .i64 t187)).setCell ⟨gb186, 1, none⟩ (.int .i64 t188)).setCell ⟨gb186, 2, none⟩ (.int .i64 t189)).setCell ⟨gb186, 3, none⟩ (.int .i64 t190)).setCell ⟨gb186, 4, none⟩ (.int .i64 t191)).setCell ⟨gb186, 5, none⟩ (.slice Aq2_ t192.length cq2_)).setCell ⟨gb186, 6, none⟩ (.int .i64 t195))) ?hg ?ho ?hn ?hr ?_; (case ho => rfl); (case hg => rfl); (case hn => rfl); (case hr => first | (go_simp; done) | (go_simp; rfl)); intro wv12 hw; have hk2 := (show Kept wv11 wv12 (fun k_ => k_ = gb186) from by rw [hw]; exact (show Kept wv11 (((((((wv11.setCell ⟨gb186, 0, none⟩ (.int .i64 t187)).setCell ⟨gb186, 1, none⟩ (.int .i64 t188)).setCell ⟨gb186, 2, none⟩ (.int .i64 t189)).setCell ⟨gb186, 3, none⟩ (.int .i64 t190)).setCell ⟨gb186, 4, none⟩ (.int .i64 t191)).setCell ⟨gb186, 5, none⟩ (.slice Aq2_ t192.length cq2_)).setCell ⟨gb186, 6, none⟩ (.int .i64 t195)) (fun k_ => k_ = gb186) from by repeat (first | (with_reducible first | exact Kept.refl _ _ | apply Kept.alloc | apply Kept.drewN | apply Kept.drew) | refine Kept.setCell ?_ (.inl (by first | exact rfl | exact .inl rfl | exact .inr rfl | exact .inr (.inl rfl) | exact .inr (.inr rfl))) _ | exact Kept.refl _ _))); replace HOq2_ := Aside0.mk (Kd.R_kept HOq2_.out hk2 (fun k_ hk_ hs_ => by have i_ := HIq2_.out k_ hk_; have hs2_ : k_ = gb186 := hs_; have g0_ := HG186.out; have z_ := HLA.out; omega)); replace HOq4_ := Aside0.mk (Kd.R_kept HOq4_.out hk2 (fun k_ hk_ hs_ => by have i_ := HIq4_.out k_ hk_; have hs2_ : k_ = gb186 := hs_; have g0_ := HG186.out; have z_ := HLA.out; omega)); replace BK184 := Aside0.mk (blk_kept BK184.out hk2 (fun hs_ => by have hs2_ : gb184 = gb186 := hs_; have g_ := HG184.out; have g0_ := HG186.out; have z_ := HLA.out; omega)); replace BK185 := Aside0.mk (blk_kept BK185.out hk2 (fun hs_ => by have hs2_ : gb185 = gb186 := hs_; have g_ := HG185.out; have g0_ := HG186.out; have z_ := HLA.out; omega)); replace BK186 := Aside0.mk ((show wv12.heap[gb186]? = some (Obj.cells #[.int .i64 t187, .int .i64 t188, .int .i64 t189, .int .i64 t190, .int .i64 t191, .slice Aq2_ t192.length cq2_, .int .i64 t195] 31 (0, 0)) from by rw [hw]; exact (show _ = some (Obj.cells #[.int .i64 t187, .int .i64 t188, .int .i64 t189, .int .i64 t190, .int .i64 t191, .slice Aq2_ t192.length cq2_, .int .i64 t195] 31 (0, 0)) from by (with_reducible repeat (first | refine blk_drewN ?_ _ | refine blk_drew ?_ | refine blk_alloc ?_ _)); refine blk_put (cs := #[.int .i64 t187, .int .i64 t188, .int .i64 t189, .int .i64 t190, .int .i64 t191, .slice Aq2_ t192.length cq2_, .int .i64 0]) ?_ 6 _ rfl; (with_reducible repeat (first | refine blk_drewN ?_ _ | refine blk_drew ?_ | refine blk_alloc ?_ _)); refine blk_put (cs := #[.int .i64 t187, .int .i64 t188, .int .i64 t189, .int .i64 t190, .int .i64 t191, .slice none 0 0, .int .i64 0]) ?_ 5 _ rfl; (with_reducible repeat (first | refine blk_drewN ?_ _ | refine blk_drew ?_ | refine blk_alloc ?_ _)); refine blk_put (cs := #[.int .i64 t187, .int .i64 t188, .int .i64 t189, .int .i64 t190, .int .i64 0, .slice none 0 0, .int .i64 0]) ?_ 4 _ rfl; (with_reducible repeat (first | refine blk_drewN ?_ _ | refine blk_drew ?_ | refine blk_alloc ?_ _)); refine blk_put (cs := #[.int .i64 t187, .int .i64 t188, .int .i64 t189, .int .i64 0, .int .i64 0, .slice none 0 0, .int .i64 0]) ?_ 3 _ rfl; (with_reducible repeat (first | refine blk_drewN ?_ _ | refine blk_drew ?_ | refine blk_alloc ?_ _)); refine blk_put (cs := #[.int .i64 t187, .int .i64 t188, .int .i64 0, .int .i64 0, .int .i64 0, .slice none 0 0, .int .i64 0]) ?_ 2 _ rfl; (with_reducible repeat (first | refine blk_drewN ?_ _ | refine blk_drew ?_ | refine blk_alloc ?_ _)); refine blk_put (cs := #[.int .i64 t187, .int .i64 0, .int .i64 0, .int .i64 0, .int .i64 0, .slice none 0 0, .int .i64 0]) ?_ 1 _ rfl; (with_reducible repeat (first | refine blk_drewN ?_ _ | refine blk_drew ?_ | refine blk_alloc ?_ _)); refine blk_put (cs := #[.int .i64 0, .int .i64 0, .int .i64 0, .int .i64 0, .int .i64 0, .slice none 0 0, .int .i64 0]) ?_ 0 _ rfl; (with_reducible repeat (first | refine blk_drewN ?_ _ | refine blk_drew ?_ | refine blk_alloc ?_ _)); exact BK186.out))); replace BK196 := Aside0.mk (blk_kept BK196.out hk2 (fun hs_ => by have hs2_ : gb196 = gb186 := hs_; have g_ := HG196.out; have g0_ := HG186.out; have z_ := HLA.out; omega)); replace HB := Aside0.mk ((show Below w.heap.size w wv12 from by rw [hw]; exact by repeat (first | (with_reducible first | exact HB.out | apply below_alloc | apply pw_below_drewN | apply below_drew1 | refine below_set ?_ GE186.out) | exact HB.out))); replace HLA := Aside0.mk (And.intro HLA.out (hk2.1 : wv11.heap.size ≤ wv12.heap.size)); clear hw hk2))
    refine bodyPost_ret (results_ct rfl _ _ gb186 31 #[.int .i64 t187, .int .i64 t188, .int .i64 t189, .int .i64 t190, .int .i64 t191, .slice Aq2_ t192.length cq2_, .int .i64 t195] (0, 0) _ rfl (BK186.out) Try.underlying31 rfl (by kernel_rfl)) rfl ?_
    exact ⟨_, by first | rfl | (simp [errW_none, errW_some] <;> rfl) | (simp [*] <;> rfl), Kd.R_mono HOq2_.out (fun _ _ => trivial), by repeat (first | (with_reducible first | exact HB.out | apply below_alloc | apply pw_below_drewN | apply below_drew1) | exact HB.out)⟩
  subst c12
  have H1 : ((spec_l24Mark.f a1_0 a1_1 (wrap64 (a0_2 + 1)) 0 a0_4).bind fun t203 => (some (a1_0, a1_1, wrap64 (a0_2 + 1), 0, a0_4, t192, t203, true))) = some (r1, r2, r3, r4, r5, r6, r7, r8) := by rw [if_pos rfl] at H; exact H
  clear H
  have H := H1
  clear H1
  replace H := Option.bind_eq_some_iff.mp H
  obtain ⟨t203, A130, H⟩ := H
  replace H : (some (a1_0, a1_1, wrap64 (a0_2 + 1), 0, a0_4, t192, t203, true)) = some (r1, r2, r3, r4, r5, r6, r7, r8) := H
  have A13 := Aside0.mk A130
  clear A130
  simp only [Option.some.injEq, Prod.mk.injEq] at H
  obtain ⟨rfl, rfl, rfl, rfl, rfl, rfl, rfl, rfl⟩ := H
  obtain ⟨hcz5_0, hcz5_1, hcz5_f0, hcz5_f1⟩ := lk_c2 BK185.out
  obtain ⟨hcz6_0, hcz6_1, hcz6_2, hcz6_3, hcz6_4, hcz6_5, hcz6_6, hcz6_f0, hcz6_f1, hcz6_f2, hcz6_f3, hcz6_f4, hcz6_f5, hcz6_f6⟩ := lk_c7 BK184.out
  obtain ⟨hcz7_0, hcz7_1, hcz7_2, hcz7_3, hcz7_4, hcz7_5, hcz7_6, hcz7_f0, hcz7_f1, hcz7_f2, hcz7_f3, hcz7_f4, hcz7_f5, hcz7_f6⟩ := lk_c7 BK196.out
  have hnb8_ : gb185 ≠ gb184 := (by have g1_ := HG185.out; have g2_ := HG184.out; have z_ := HLA.out; omega)
  have hnb9_ : gb185 ≠ gb196 := (by have g1_ := HG185.out; have g2_ := HG196.out; have z_ := HLA.out; omega)
  have hnb10_ : gb184 ≠ gb185 := (by have g1_ := HG184.out; have g2_ := HG185.out; have z_ := HLA.out; omega)
  have hnb11_ : gb184 ≠ gb196 := (by have g1_ := HG184.out; have g2_ := HG196.out; have z_ := HLA.out; omega)
  have hnb12_ : gb196 ≠ gb185 := (by have g1_ := HG196.out; have g2_ := HG185.out; have z_ := HLA.out; omega)
  have hnb13_ : gb196 ≠ gb184 := (by have g1_ := HG196.out; have g2_ := HG184.out; have z_ := HLA.out; omega)
  go_wp2_with (first | ((with_reducible refine gate_store (t := 28) (p := 52) rfl ?_); refine store_event (t := 28) (p := 52) (v := ?vo_lg6) (w1 := (((((wv11.setCell ⟨gb196, 0, none⟩ (.int .i64 a1_0)).setCell ⟨gb196, 1, none⟩ (.int .i64 a1_1)).setCell ⟨gb196, 2, none⟩ (.int .i64 (wrap64 (a0_2 + 1)))).setCell ⟨gb196, 3, none⟩ (.int .i64 0)).setCell ⟨gb196, 4, none⟩ (.int .i64 a0_4))) ?hg ?ho ?hn ?hr ?_; (case ho => rfl); (case hg => rfl); (case hn => rfl); (case hr => first | (go_simp; done) | (go_simp; rfl)); intro wv12 hw; have hk2 := (show Kept wv11 wv12 (fun k_ => k_ = gb196) from by rw [hw]; exact (show Kept wv11 (((((wv11.setCell ⟨gb196, 0, none⟩ (.int .i64 a1_0)).setCell ⟨gb196, 1, none⟩ (.int .i64 a1_1)).setCell ⟨gb196, 2, none⟩ (.int .i64 (wrap64 (a0_2 + 1)))).setCell ⟨gb196, 3, none⟩ (.int .i64 0)).setCell ⟨gb196, 4, none⟩ (.int .i64 a0_4)) (fun k_ => k_ = gb196) from by repeat (first | (with_reducible first | exact Kept.refl _ _ | apply Kept.alloc | apply Kept.drewN | apply Kept.drew) | refine Kept.setCell ?_ (.inl (by first | exact rfl | exact .inl rfl | exact .inr rfl | exact .inr (.inl rfl) | exact .inr (.inr rfl))) _ | exact Kept.refl _ _))); replace HOq2_ := Aside0.mk (Kd.R_kept HOq2_.out hk2 (fun k_ hk_ hs_ => by have i_ := HIq2_.out k_ hk_; have hs2_ : k_ = gb196 := hs_; have g0_ := HG196.out; have z_ := HLA.out; omega)); replace HOq4_ := Aside0.mk (Kd.R_kept HOq4_.out hk2 (fun k_ hk_ hs_ => by have i_ := HIq4_.out k_ hk_; have hs2_ : k_ = gb196 := hs_; have g0_ := HG196.out; have z_ := HLA.out; omega)); replace BK184 := Aside0.mk (blk_kept BK184.out hk2 (fun hs_ => by have hs2_ : gb184 = gb196 := hs_; have g_ := HG184.out; have g0_ := HG196.out; have z_ := HLA.out; omega)); replace BK185 := Aside0.mk (blk_kept BK185.out hk2 (fun hs_ => by have hs2_ : gb185 = gb196 := hs_; have g_ := HG185.out; have g0_ := HG196.out; have z_ := HLA.out; omega)); replace BK186 := Aside0.mk (blk_kept BK186.out hk2 (fun hs_ => by have hs2_ : gb186 = gb196 := hs_; have g_ := HG186.out; have g0_ := HG196.out; have z_ := HLA.out; omega)); replace BK196 := Aside0.mk ((show wv12.heap[gb196]? = some (Obj.cells #[.int .i64 a1_0, .int .i64 a1_1, .int .i64 (wrap64 (a0_2 + 1)), .int .i64 0, .int .i64 a0_4, .slice Aq2_ t192.length cq2_, .int .i64 t195] 31 (0, 0)) from by rw [hw]; exact (show _ = some (Obj.cells #[.int .i64 a1_0, .int .i64 a1_1, .int .i64 (wrap64 (a0_2 + 1)), .int .i64 0, .int .i64 a0_4, .slice Aq2_ t192.length cq2_, .int .i64 t195] 31 (0, 0)) from by (with_reducible repeat (first | refine blk_drewN ?_ _ | refine blk_drew ?_ | refine blk_alloc ?_ _)); refine blk_put (cs := #[.int .i64 a1_0, .int .i64 a1_1, .int .i64 (wrap64 (a0_2 + 1)), .int .i64 0, .int .i64 t191, .slice Aq2_ t192.length cq2_, .int .i64 t195]) ?_ 4 _ rfl; (with_reducible repeat (first | refine blk_drewN ?_ _ | refine blk_drew ?_ | refine blk_alloc ?_ _)); refine blk_put (cs := #[.int .i64 a1_0, .int .i64 a1_1, .int .i64 (wrap64 (a0_2 + 1)), .int .i64 t190, .int .i64 t191, .slice Aq2_ t192.length cq2_, .int .i64 t195]) ?_ 3 _ rfl; (with_reducible repeat (first | refine blk_drewN ?_ _ | refine blk_drew ?_ | refine blk_alloc ?_ _)); refine blk_put (cs := #[.int .i64 a1_0, .int .i64 a1_1, .int .i64 t189, .int .i64 t190, .int .i64 t191, .slice Aq2_ t192.length cq2_, .int .i64 t195]) ?_ 2 _ rfl; (with_reducible repeat (first | refine blk_drewN ?_ _ | refine blk_drew ?_ | refine blk_alloc ?_ _)); refine blk_put (cs := #[.int .i64 a1_0, .int .i64 t188, .int .i64 t189, .int .i64 t190, .int .i64 t191, .slice Aq2_ t192.length cq2_, .int .i64 t195]) ?_ 1 _ rfl; (with_reducible repeat (first | refine blk_drewN ?_ _ | refine blk_drew ?_ | refine blk_alloc ?_ _)); refine blk_put (cs := #[.int .i64 t187, .int .i64 t188, .int .i64 t189, .int .i64 t190, .int .i64 t191, .slice Aq2_ t192.length cq2_, .int .i64 t195]) ?_ 0 _ rfl; (with_reducible repeat (first | refine blk_drewN ?_ _ | refine blk_drew ?_ | refine blk_alloc ?_ _)); exact BK196.out))); replace HB := Aside0.mk ((show Below w.heap.size w wv12 from by rw [hw]; exact by repeat (first | (with_reducible first | exact HB.out | apply below_alloc | apply pw_below_drewN | apply below_drew1 | refine below_set ?_ GE196.out) | exact HB.out))); replace HLA := Aside0.mk (And.intro HLA.out (hk2.1 : wv11.heap.size ≤ wv12.heap.size)); clear hw hk2; obtain ⟨hcz14_0, hcz14_1, hcz14_2, hcz14_3, hcz14_4, hcz14_5, hcz14_6, hcz14_f0, hcz14_f1, hcz14_f2, hcz14_f3, hcz14_f4, hcz14_f5, hcz14_f6⟩ := lk_c7 BK196.out) | ((with_reducible refine gate_callee (f := 79) rfl ?_); refine goesL_ (some 55) rfl rfl Try.func79 (by kernel_rfl) rfl #[.agg #[.int .i64 a1_0, .int .i64 a1_1, .int .i64 (wrap64 (a0_2 + 1)), .int .i64 0, .int .i64 a0_4]] rfl (by (try simp only [List.map_toArray, List.map_cons, List.map_nil]); first | done | rfl | (simp only [List.length_drop, List.length_take]; rfl)) ?_; (with_reducible refine (spec_l24Mark.calls a1_0 a1_1 (wrap64 (a0_2 + 1)) 0 a0_4 t203 _  A13.out).mono ?_); rintro e wv13 ⟨rfl, hb⟩; refine ⟨_, rfl, ?_⟩; have hkW := (Kept.refl wv12 (fun _ => False)); have hk2 := Kept.below hkW hb; replace HOq2_ := Aside0.mk (Kd.R_below HOq2_.out hb); replace HOq4_ := Aside0.mk (Kd.R_below HOq4_.out hb); replace BK184 := Aside0.mk (blk_below BK184.out hb); replace BK185 := Aside0.mk (blk_below BK185.out hb); replace BK186 := Aside0.mk (blk_below BK186.out hb); replace BK196 := Aside0.mk (blk_below BK196.out hb); replace HB := Aside0.mk (below_step (by repeat (first | (with_reducible first | exact HB.out | apply below_alloc | apply pw_below_drewN | apply below_drew1) | exact HB.out)) hb); replace HLA := Aside0.mk (And.intro HLA.out (hk2.1 : wv12.heap.size ≤ wv13.heap.size)); (try clear hb); (try clear hkW); (try clear hk2); (try clear hkp); obtain ⟨hcz15_0, hcz15_1, hcz15_2, hcz15_3, hcz15_4, hcz15_5, hcz15_6, hcz15_f0, hcz15_f1, hcz15_f2, hcz15_f3, hcz15_f4, hcz15_f5, hcz15_f6⟩ := lk_c7 BK196.out) | ((with_reducible refine gate_store (t := 3) (p := 56) rfl ?_); refine store_event (t := 3) (p := 56) (v := ?vo_lg7) (w1 := (wv13.setCell ⟨gb196, 6, none⟩ (.int .i64 t203))) ?hg ?ho ?hn ?hr ?_; (case ho => rfl); (case hg => rfl); (case hn => rfl); (case hr => first | (go_simp; done) | (go_simp; rfl)); intro wv14 hw; have hk2 := (show Kept wv13 wv14 (fun k_ => k_ = gb196) from by rw [hw]; exact (show Kept wv13 (wv13.setCell ⟨gb196, 6, none⟩ (.int .i64 t203)) (fun k_ => k_ = gb196) from by repeat (first | (with_reducible first | exact Kept.refl _ _ | apply Kept.alloc | apply Kept.drewN | apply Kept.drew) | refine Kept.setCell ?_ (.inl (by first | exact rfl | exact .inl rfl | exact .inr rfl | exact .inr (.inl rfl) | exact .inr (.inr rfl))) _ | exact Kept.refl _ _))); replace HOq2_ := Aside0.mk (Kd.R_kept HOq2_.out hk2 (fun k_ hk_ hs_ => by have i_ := HIq2_.out k_ hk_; have hs2_ : k_ = gb196 := hs_; have g0_ := HG196.out; have z_ := HLA.out; omega)); replace HOq4_ := Aside0.mk (Kd.R_kept HOq4_.out hk2 (fun k_ hk_ hs_ => by have i_ := HIq4_.out k_ hk_; have hs2_ : k_ = gb196 := hs_; have g0_ := HG196.out; have z_ := HLA.out; omega)); replace BK184 := Aside0.mk (blk_kept BK184.out hk2 (fun hs_ => by have hs2_ : gb184 = gb196 := hs_; have g_ := HG184.out; have g0_ := HG196.out; have z_ := HLA.out; omega)); replace BK185 := Aside0.mk (blk_kept BK185.out hk2 (fun hs_ => by have hs2_ : gb185 = gb196 := hs_; have g_ := HG185.out; have g0_ := HG196.out; have z_ := HLA.out; omega)); replace BK186 := Aside0.mk (blk_kept BK186.out hk2 (fun hs_ => by have hs2_ : gb186 = gb196 := hs_; have g_ := HG186.out; have g0_ := HG196.out; have z_ := HLA.out; omega)); replace BK196 := Aside0.mk ((show wv14.heap[gb196]? = some (Obj.cells #[.int .i64 a1_0, .int .i64 a1_1, .int .i64 (wrap64 (a0_2 + 1)), .int .i64 0, .int .i64 a0_4, .slice Aq2_ t192.length cq2_, .int .i64 t203] 31 (0, 0)) from by rw [hw]; exact (show _ = some (Obj.cells #[.int .i64 a1_0, .int .i64 a1_1, .int .i64 (wrap64 (a0_2 + 1)), .int .i64 0, .int .i64 a0_4, .slice Aq2_ t192.length cq2_, .int .i64 t203] 31 (0, 0)) from by (with_reducible repeat (first | refine blk_drewN ?_ _ | refine blk_drew ?_ | refine blk_alloc ?_ _)); refine blk_put (cs := #[.int .i64 a1_0, .int .i64 a1_1, .int .i64 (wrap64 (a0_2 + 1)), .int .i64 0, .int .i64 a0_4, .slice Aq2_ t192.length cq2_, .int .i64 t195]) ?_ 6 _ rfl; (with_reducible repeat (first | refine blk_drewN ?_ _ | refine blk_drew ?_ | refine blk_alloc ?_ _)); exact BK196.out))); replace HB := Aside0.mk ((show Below w.heap.size w wv14 from by rw [hw]; exact by repeat (first | (with_reducible first | exact HB.out | apply below_alloc | apply pw_below_drewN | apply below_drew1 | refine below_set ?_ GE196.out) | exact HB.out))); replace HLA := Aside0.mk (And.intro HLA.out (hk2.1 : wv13.heap.size ≤ wv14.heap.size)); clear hw hk2; obtain ⟨hcz16_0, hcz16_1, hcz16_2, hcz16_3, hcz16_4, hcz16_5, hcz16_6, hcz16_f0, hcz16_f1, hcz16_f2, hcz16_f3, hcz16_f4, hcz16_f5, hcz16_f6⟩ := lk_c7 BK196.out; obtain ⟨hcz17_0, hcz17_1, hcz17_2, hcz17_3, hcz17_4, hcz17_5, hcz17_6, hcz17_f0, hcz17_f1, hcz17_f2, hcz17_f3, hcz17_f4, hcz17_f5, hcz17_f6⟩ := lk_c7 BK186.out; have hnb18_ : gb196 ≠ gb186 := (by have g1_ := HG196.out; have g2_ := HG186.out; have z_ := HLA.out; omega); have hnb19_ : gb186 ≠ gb196 := (by have g1_ := HG186.out; have g2_ := HG196.out; have z_ := HLA.out; omega)) | ((with_reducible refine gate_store (t := 31) (p := 4) rfl ?_); refine store_event (t := 31) (p := 4) (v := ?vo_lg8) (w1 := (((((((wv14.setCell ⟨gb186, 0, none⟩ (.int .i64 a1_0)).setCell ⟨gb186, 1, none⟩ (.int .i64 a1_1)).setCell ⟨gb186, 2, none⟩ (.int .i64 (wrap64 (a0_2 + 1)))).setCell ⟨gb186, 3, none⟩ (.int .i64 0)).setCell ⟨gb186, 4, none⟩ (.int .i64 a0_4)).setCell ⟨gb186, 5, none⟩ (.slice Aq2_ t192.length cq2_)).setCell ⟨gb186, 6, none⟩ (.int .i64 t203))) ?hg ?ho ?hn ?hr ?_; (case ho => rfl); (case hg => rfl); (case hn => rfl); (case hr => first | (go_simp; done) | (go_simp; rfl)); intro wv15 hw; have hk2 := (show Kept wv14 wv15 (fun k_ => k_ = gb186) from by rw [hw]; exact (show Kept wv14 (((((((wv14.setCell ⟨gb186, 0, none⟩ (.int .i64 a1_0)).setCell ⟨gb186, 1, none⟩ (.int .i64 a1_1)).setCell ⟨gb186, 2, none⟩ (.int .i64 (wrap64 (a0_2 + 1)))).setCell ⟨gb186, 3, none⟩ (.int .i64 0)).setCell ⟨gb186, 4, none⟩ (.int .i64 a0_4)).setCell ⟨gb186, 5, none⟩ (.slice Aq2_ t192.length cq2_)).setCell ⟨gb186, 6, none⟩ (.int .i64 t203)) (fun k_ => k_ = gb186) from by repeat (first | (with_reducible first | exact Kept.refl _ _ | apply Kept.alloc | apply Kept.drewN | apply Kept.drew) | refine Kept.setCell ?_ (.inl (by first | exact rfl | exact .inl rfl | exact .inr rfl | exact .inr (.inl rfl) | exact .inr (.inr rfl))) _ | exact Kept.refl _ _))); replace HOq2_ := Aside0.mk (Kd.R_kept HOq2_.out hk2 (fun k_ hk_ hs_ => by have i_ := HIq2_.out k_ hk_; have hs2_ : k_ = gb186 := hs_; have g0_ := HG186.out; have z_ := HLA.out; omega)); replace HOq4_ := Aside0.mk (Kd.R_kept HOq4_.out hk2 (fun k_ hk_ hs_ => by have i_ := HIq4_.out k_ hk_; have hs2_ : k_ = gb186 := hs_; have g0_ := HG186.out; have z_ := HLA.out; omega)); replace BK184 := Aside0.mk (blk_kept BK184.out hk2 (fun hs_ => by have hs2_ : gb184 = gb186 := hs_; have g_ := HG184.out; have g0_ := HG186.out; have z_ := HLA.out; omega)); replace BK185 := Aside0.mk (blk_kept BK185.out hk2 (fun hs_ => by have hs2_ : gb185 = gb186 := hs_; have g_ := HG185.out; have g0_ := HG186.out; have z_ := HLA.out; omega)); replace BK186 := Aside0.mk ((show wv15.heap[gb186]? = some (Obj.cells #[.int .i64 a1_0, .int .i64 a1_1, .int .i64 (wrap64 (a0_2 + 1)), .int .i64 0, .int .i64 a0_4, .slice Aq2_ t192.length cq2_, .int .i64 t203] 31 (0, 0)) from by rw [hw]; exact (show _ = some (Obj.cells #[.int .i64 a1_0, .int .i64 a1_1, .int .i64 (wrap64 (a0_2 + 1)), .int .i64 0, .int .i64 a0_4, .slice Aq2_ t192.length cq2_, .int .i64 t203] 31 (0, 0)) from by (with_reducible repeat (first | refine blk_drewN ?_ _ | refine blk_drew ?_ | refine blk_alloc ?_ _)); refine blk_put (cs := #[.int .i64 a1_0, .int .i64 a1_1, .int .i64 (wrap64 (a0_2 + 1)), .int .i64 0, .int .i64 a0_4, .slice Aq2_ t192.length cq2_, .int .i64 0]) ?_ 6 _ rfl; (with_reducible repeat (first | refine blk_drewN ?_ _ | refine blk_drew ?_ | refine blk_alloc ?_ _)); refine blk_put (cs := #[.int .i64 a1_0, .int .i64 a1_1, .int .i64 (wrap64 (a0_2 + 1)), .int .i64 0, .int .i64 a0_4, .slice none 0 0, .int .i64 0]) ?_ 5 _ rfl; (with_reducible repeat (first | refine blk_drewN ?_ _ | refine blk_drew ?_ | refine blk_alloc ?_ _)); refine blk_put (cs := #[.int .i64 a1_0, .int .i64 a1_1, .int .i64 (wrap64 (a0_2 + 1)), .int .i64 0, .int .i64 0, .slice none 0 0, .int .i64 0]) ?_ 4 _ rfl; (with_reducible repeat (first | refine blk_drewN ?_ _ | refine blk_drew ?_ | refine blk_alloc ?_ _)); refine blk_put (cs := #[.int .i64 a1_0, .int .i64 a1_1, .int .i64 (wrap64 (a0_2 + 1)), .int .i64 0, .int .i64 0, .slice none 0 0, .int .i64 0]) ?_ 3 _ rfl; (with_reducible repeat (first | refine blk_drewN ?_ _ | refine blk_drew ?_ | refine blk_alloc ?_ _)); refine blk_put (cs := #[.int .i64 a1_0, .int .i64 a1_1, .int .i64 0, .int .i64 0, .int .i64 0, .slice none 0 0, .int .i64 0]) ?_ 2 _ rfl; (with_reducible repeat (first | refine blk_drewN ?_ _ | refine blk_drew ?_ | refine blk_alloc ?_ _)); refine blk_put (cs := #[.int .i64 a1_0, .int .i64 0, .int .i64 0, .int .i64 0, .int .i64 0, .slice none 0 0, .int .i64 0]) ?_ 1 _ rfl; (with_reducible repeat (first | refine blk_drewN ?_ _ | refine blk_drew ?_ | refine blk_alloc ?_ _)); refine blk_put (cs := #[.int .i64 0, .int .i64 0, .int .i64 0, .int .i64 0, .int .i64 0, .slice none 0 0, .int .i64 0]) ?_ 0 _ rfl; (with_reducible repeat (first | refine blk_drewN ?_ _ | refine blk_drew ?_ | refine blk_alloc ?_ _)); exact BK186.out))); replace BK196 := Aside0.mk (blk_kept BK196.out hk2 (fun hs_ => by have hs2_ : gb196 = gb186 := hs_; have g_ := HG196.out; have g0_ := HG186.out; have z_ := HLA.out; omega)); replace HB := Aside0.mk ((show Below w.heap.size w wv15 from by rw [hw]; exact by repeat (first | (with_reducible first | exact HB.out | apply below_alloc | apply pw_below_drewN | apply below_drew1 | refine below_set ?_ GE186.out) | exact HB.out))); replace HLA := Aside0.mk (And.intro HLA.out (hk2.1 : wv14.heap.size ≤ wv15.heap.size)); clear hw hk2))
  refine bodyPost_ret (results_ct rfl _ _ gb186 31 #[.int .i64 a1_0, .int .i64 a1_1, .int .i64 (wrap64 (a0_2 + 1)), .int .i64 0, .int .i64 a0_4, .slice Aq2_ t192.length cq2_, .int .i64 t203] (0, 0) _ rfl (BK186.out) Try.underlying31 rfl (by kernel_rfl)) rfl ?_
  exact ⟨_, by first | rfl | (simp [errW_none, errW_some] <;> rfl) | (simp [*] <;> rfl), Kd.R_mono HOq2_.out (fun _ _ => trivial), by repeat (first | (with_reducible first | exact HB.out | apply below_alloc | apply pw_below_drewN | apply below_drew1) | exact HB.out)⟩

end Go.Proofs.Ytjngmadmdkkcmaa.PFnExactResetGuesses
