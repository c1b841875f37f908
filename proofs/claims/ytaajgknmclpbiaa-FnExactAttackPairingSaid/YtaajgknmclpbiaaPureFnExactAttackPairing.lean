/- For every two pairings, key and number of tries the program's AttackPairing gives what the reference gives. No condition. -/
import Derived.Test.YtaajgknmclpbiaaQFnExactAttackPairinga
set_option linter.unusedVariables false
set_option linter.unusedSimpArgs false
namespace Go.Proofs.Ytaajgknmclpbiaa.Pure
open Go.RowKit Go.Proofs.Ytaajgknmclpbiaa.PFnExactAttackPairing Go.Proofs.YtaajgknmclpbiaaW.PrintWords Go.Proofs.YtaajgknmclpbiaaW.PrintLast Go.Proofs.Ytaajgknmclpbiaa.RFnExactAttackPairing Go.Proofs.Ytaajgknmclpbiaa.QFnExactAttackPairing
theorem FnExactAttackPairing : RFnExactAttackPairing.Pure := by
  intro a b c d e f g h _ _ _ _ _ _ _ _
  refine Ev.rounds ?_
  unfold laws_FnExactAttackPairing.f laws_toPairing.f
  exact EvKit.now (EvKit.now (Ev.bind (spec_AttackPairing.ev ..) (EvKit.now (EvKit.now (Ev.bind (impl_AttackPairing.ev ..) (EvKit.itt rfl (EvKit.ret rfl)))))))

end Go.Proofs.Ytaajgknmclpbiaa.Pure
