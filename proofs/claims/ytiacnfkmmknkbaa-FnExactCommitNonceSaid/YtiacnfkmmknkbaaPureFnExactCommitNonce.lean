/- For every key and nonce the program's CommitNonce gives what the reference gives. No condition. -/
import Derived.Test.YtiacnfkmmknkbaaQFnExactCommitNoncea
set_option linter.unusedVariables false
set_option linter.unusedSimpArgs false
namespace Go.Proofs.Ytiacnfkmmknkbaa.Pure
open Go.RowKit Go.Proofs.Ytiacnfkmmknkbaa.PFnExactCommitNonce Go.Proofs.YtiacnfkmmknkbaaW.PrintWords Go.Proofs.YtiacnfkmmknkbaaW.PrintLast Go.Proofs.Ytiacnfkmmknkbaa.QFnExactCommitNonce
theorem FnExactCommitNonce : laws_FnExactCommitNonce.Pure := by
  intro a b _ _
  refine Ev.rounds ?_
  unfold laws_FnExactCommitNonce.f
  exact Ev.bind (spec_CommitNonce.ev a b) (Ev.bind (impl_CommitNonce.ev a b) (EvKit.itt rfl (EvKit.ret rfl)))

end Go.Proofs.Ytiacnfkmmknkbaa.Pure
