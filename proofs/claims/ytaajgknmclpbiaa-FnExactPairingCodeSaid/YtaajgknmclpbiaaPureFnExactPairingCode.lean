/- For every two pairings the program's PairingCode gives what the reference gives. No condition. -/
import Derived.Test.YtaajgknmclpbiaaQFnExactPairingCodea
set_option linter.unusedVariables false
set_option linter.unusedSimpArgs false
namespace Go.Proofs.Ytaajgknmclpbiaa.Pure
open Go.RowKit Go.Proofs.Ytaajgknmclpbiaa.PFnExactPairingCode Go.Proofs.YtaajgknmclpbiaaW.PrintWords Go.Proofs.YtaajgknmclpbiaaW.PrintLast Go.Proofs.Ytaajgknmclpbiaa.RFnExactPairingCode Go.Proofs.Ytaajgknmclpbiaa.QFnExactPairingCode
theorem FnExactPairingCode : RFnExactPairingCode.Pure := by
  intro a b c d e f _ _ _ _ _ _
  refine Ev.rounds ?_
  unfold laws_FnExactPairingCode.f laws_toPairing.f
  exact EvKit.now (EvKit.now (Ev.bind (spec_PairingCode.ev ..) (EvKit.now (EvKit.now (Ev.bind (impl_PairingCode.ev ..) (EvKit.itt rfl (EvKit.ret rfl)))))))

end Go.Proofs.Ytaajgknmclpbiaa.Pure
