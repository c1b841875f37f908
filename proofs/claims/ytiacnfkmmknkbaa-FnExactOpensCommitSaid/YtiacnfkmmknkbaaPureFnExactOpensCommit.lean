/- For every pairing the program's OpensCommit gives what the reference gives. No condition. -/
import Derived.Test.YtiacnfkmmknkbaaQFnExactOpensCommita
set_option linter.unusedVariables false
set_option linter.unusedSimpArgs false
namespace Go.Proofs.Ytiacnfkmmknkbaa.Pure
open Go.RowKit Go.Proofs.Ytiacnfkmmknkbaa.PFnExactOpensCommit Go.Proofs.YtiacnfkmmknkbaaW.PrintWords Go.Proofs.YtiacnfkmmknkbaaW.PrintLast Go.Proofs.Ytiacnfkmmknkbaa.RFnExactOpensCommit Go.Proofs.Ytiacnfkmmknkbaa.QFnExactOpensCommit
theorem FnExactOpensCommit : RFnExactOpensCommit.Pure := by
  intro a b c _ _ _
  refine Ev.rounds ?_
  unfold laws_FnExactOpensCommit.f laws_toPairing.f
  refine EvKit.now (Ev.bind (spec_OpensCommit.ev a b c) (EvKit.now (Ev.bind (impl_OpensCommit.ev a b c) (EvKit.itf (by simp) (EvKit.ret rfl)))))

end Go.Proofs.Ytiacnfkmmknkbaa.Pure
