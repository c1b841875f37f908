/- For every vault and output the program's OpenVault gives what the reference gives. No condition. -/
import Derived.Test.YtaajgknmclpbiaaQFnExactOpenVaulta
set_option linter.unusedVariables false
set_option linter.unusedSimpArgs false
namespace Go.Proofs.Ytaajgknmclpbiaa.Pure
open Go.RowKit Go.Proofs.Ytaajgknmclpbiaa.PFnExactOpenVault Go.Proofs.YtaajgknmclpbiaaW.PrintWords Go.Proofs.YtaajgknmclpbiaaW.PrintLast Go.Proofs.Ytaajgknmclpbiaa.RFnExactOpenVault Go.Proofs.Ytaajgknmclpbiaa.QFnExactOpenVault
theorem FnExactOpenVault : RFnExactOpenVault.Pure := by
  intro a b c d e _ _ _ _ _
  refine Ev.rounds ?_
  unfold laws_FnExactOpenVault.f laws_toVault.f
  exact EvKit.now (Ev.bind (spec_OpenVault.ev ..) (EvKit.now (Ev.bind (impl_OpenVault.ev ..) (EvKit.itt rfl (EvKit.itf (by simp) (EvKit.ret rfl))))))

end Go.Proofs.Ytaajgknmclpbiaa.Pure
