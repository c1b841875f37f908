/- For every four pairings the program's ConfirmPairing gives what the reference gives. No condition. -/
import Derived.Test.YtaajgknmclpbiaaQFnExactConfirmPairinga
set_option linter.unusedVariables false
set_option linter.unusedSimpArgs false
namespace Go.Proofs.Ytaajgknmclpbiaa.Pure
open Go.RowKit Go.Proofs.Ytaajgknmclpbiaa.PFnExactConfirmPairing Go.Proofs.YtaajgknmclpbiaaW.PrintWords Go.Proofs.YtaajgknmclpbiaaW.PrintLast Go.Proofs.Ytaajgknmclpbiaa.RFnExactConfirmPairing Go.Proofs.Ytaajgknmclpbiaa.QFnExactConfirmPairing
theorem FnExactConfirmPairing : RFnExactConfirmPairing.Pure := by
  intro a b c d e f g h i j l m _ _ _ _ _ _ _ _ _ _ _ _
  refine Ev.rounds ?_
  unfold laws_FnExactConfirmPairing.f laws_toPairing.f
  exact EvKit.now (EvKit.now (EvKit.now (EvKit.now (Ev.bind (spec_ConfirmPairing.ev ..) (EvKit.now (EvKit.now (EvKit.now (EvKit.now (Ev.bind (impl_ConfirmPairing.ev ..) (EvKit.itf (by simp) (EvKit.ret rfl)))))))))))

end Go.Proofs.Ytaajgknmclpbiaa.Pure
