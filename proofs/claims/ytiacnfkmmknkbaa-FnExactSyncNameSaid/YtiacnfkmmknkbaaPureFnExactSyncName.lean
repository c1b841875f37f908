/- For every code the program's SyncName gives the string that the reference gives. No condition. -/
import Derived.Test.YtiacnfkmmknkbaaQFnExactSyncNamea
set_option linter.unusedVariables false
set_option linter.unusedSimpArgs false
namespace Go.Proofs.Ytiacnfkmmknkbaa.Pure
open Go.RowKit Go.Proofs.Ytiacnfkmmknkbaa.PFnExactSyncName Go.Proofs.YtiacnfkmmknkbaaW.PrintWords Go.Proofs.YtiacnfkmmknkbaaW.PrintLast Go.Proofs.Ytiacnfkmmknkbaa.QFnExactSyncName
theorem spec_SyncName_out (a : Int) (h : a < 0 ∨ 5 < a) : spec_SyncName.f a = some ⟨#[]⟩ := by
  unfold spec_SyncName.f spec_l1In.f
  simp only [Option.bind_some, List.length_cons, List.length_nil]
  by_cases h0 : a ≥ 0
  · rw [if_pos h0]
    simp only [Option.bind_some, wrap64]
    rw [if_neg (by simp; omega)]
  · rw [if_neg h0]; rfl
theorem impl_SyncName_out (a : Int) (h : a < 0 ∨ 5 < a) : impl_SyncName.f a = some ⟨#[]⟩ := by
  unfold impl_SyncName.f impl_InRange.f
  by_cases h0 : 0 ≤ a
  · rw [if_pos h0]
    simp only [Option.bind_some]
    rw [if_neg (by simp; omega)]
  · rw [if_neg h0]; rfl
theorem FnExactSyncName : laws_FnExactSyncName.Pure := by
  intro a _
  unfold laws_FnExactSyncName.f
  by_cases h : a < 0 ∨ 5 < a
  · rw [spec_SyncName_out a h, impl_SyncName_out a h]; simp
  · have h' : a = 0 ∨ a = 1 ∨ a = 2 ∨ a = 3 ∨ a = 4 ∨ a = 5 := by omega
    rcases h' with rfl | rfl | rfl | rfl | rfl | rfl <;> decide +kernel

end Go.Proofs.Ytiacnfkmmknkbaa.Pure
