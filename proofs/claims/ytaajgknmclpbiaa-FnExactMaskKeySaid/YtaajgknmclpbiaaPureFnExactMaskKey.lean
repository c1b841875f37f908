/- For every key and mask the program's MaskKey gives what the reference gives. No condition. -/
import Derived.Test.YtaajgknmclpbiaaQFnExactMaskKeya
set_option linter.unusedVariables false
set_option linter.unusedSimpArgs false
namespace Go.Proofs.Ytaajgknmclpbiaa.Pure
open Go.RowKit Go.Proofs.Ytaajgknmclpbiaa.PFnExactMaskKey Go.Proofs.YtaajgknmclpbiaaW.PrintWords Go.Proofs.YtaajgknmclpbiaaW.PrintLast Go.Proofs.Ytaajgknmclpbiaa.QFnExactMaskKey
theorem FnExactMaskKey : laws_FnExactMaskKey.Pure := by
  intro a b _ _
  refine Ev.rounds ?_
  unfold laws_FnExactMaskKey.f
  exact Ev.bind (spec_MaskKey.ev a b) (Ev.bind (impl_MaskKey.ev a b) (EvKit.itt rfl (EvKit.ret rfl)))

end Go.Proofs.Ytaajgknmclpbiaa.Pure
