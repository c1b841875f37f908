/- For every key and nonce the program's StartPairing gives what the reference gives. No condition. -/
import Derived.Test.YtiacnfkmmknkbaaQFnExactStartPairinga
set_option linter.unusedVariables false
set_option linter.unusedSimpArgs false
namespace Go.Proofs.Ytiacnfkmmknkbaa.Pure
open Go.RowKit Go.Proofs.Ytiacnfkmmknkbaa.PFnExactStartPairing Go.Proofs.YtiacnfkmmknkbaaW.PrintWords Go.Proofs.YtiacnfkmmknkbaaW.PrintLast Go.Proofs.Ytiacnfkmmknkbaa.QFnExactStartPairing
theorem FnExactStartPairing : laws_FnExactStartPairing.Pure := by
  intro a b _ _
  refine Ev.rounds ?_
  unfold laws_FnExactStartPairing.f
  refine Ev.bind (spec_StartPairing.ev a b) (Ev.bind (impl_StartPairing.ev a b) (EvKit.bnd (a := true) ?_ (EvKit.itt rfl (EvKit.ret rfl))))
  simp [laws_eqPairing.f]

end Go.Proofs.Ytiacnfkmmknkbaa.Pure
