/- For every output and salt the program's VaultCheck gives what the reference gives. No condition. -/
import Derived.Test.YtiacnfkmmknkbaaQFnExactVaultChecka
set_option linter.unusedVariables false
set_option linter.unusedSimpArgs false
namespace Go.Proofs.Ytiacnfkmmknkbaa.Pure
open Go.RowKit Go.Proofs.Ytiacnfkmmknkbaa.PFnExactVaultCheck Go.Proofs.YtiacnfkmmknkbaaW.PrintWords Go.Proofs.YtiacnfkmmknkbaaW.PrintLast Go.Proofs.Ytiacnfkmmknkbaa.QFnExactVaultCheck
theorem FnExactVaultCheck : laws_FnExactVaultCheck.Pure := by
  intro a b _ _
  refine Ev.rounds ?_
  unfold laws_FnExactVaultCheck.f
  exact Ev.bind (spec_VaultCheck.ev a b) (Ev.bind (impl_VaultCheck.ev a b) (EvKit.itt rfl (EvKit.ret rfl)))

end Go.Proofs.Ytiacnfkmmknkbaa.Pure
