/- For every keeper the program's IsValidKeeper gives what the reference gives. No condition. -/
import Derived.Test.YtiacnfkmmknkbaaQFnExactIsValidKeepera
set_option linter.unusedVariables false
set_option linter.unusedSimpArgs false
namespace Go.Proofs.Ytiacnfkmmknkbaa.Pure
open Go.RowKit Go.Proofs.Ytiacnfkmmknkbaa.PFnExactIsValidKeeper Go.Proofs.YtiacnfkmmknkbaaW.PrintWords Go.Proofs.YtiacnfkmmknkbaaW.PrintLast Go.Proofs.Ytiacnfkmmknkbaa.RFnExactIsValidKeeper Go.Proofs.Ytiacnfkmmknkbaa.QFnExactIsValidKeeper
theorem FnExactIsValidKeeper : RFnExactIsValidKeeper.Pure := by
  intro a0 a1 a2 a3 a4
  intros
  refine Ev.rounds ?_
  unfold laws_FnExactIsValidKeeper.f laws_toKeeper.f laws_toShare.f
  refine EvKit.now (EvKit.now (Ev.bind (spec_IsValidKeeper.ev a0 a1 a2 a3 a4) (EvKit.now (EvKit.now (EvKit.bnd (impl_IsValidKeeper.eq a0 a1 a2 a3 a4) (EvKit.itf ?_ (EvKit.ret rfl)))))))
  simp

end Go.Proofs.Ytiacnfkmmknkbaa.Pure
