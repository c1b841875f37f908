/- For every keeper the program's StartHost gives what the reference gives, in memory of its own. No condition. -/
import Derived.Test.YtaajgknmclpbiaaQFnExactStartHosta
set_option linter.unusedVariables false
set_option linter.unusedSimpArgs false
namespace Go.Proofs.Ytaajgknmclpbiaa.Pure
open Go.RowKit Go.Proofs.Ytaajgknmclpbiaa.PFnExactStartHost Go.Proofs.YtaajgknmclpbiaaW.PrintWords Go.Proofs.YtaajgknmclpbiaaW.PrintLast Go.Proofs.Ytaajgknmclpbiaa.RFnExactStartHost Go.Proofs.Ytaajgknmclpbiaa.QFnExactStartHost
theorem FnExactStartHost : RFnExactStartHost.Pure := by
  intro a b c d e _ _ _ _ _
  refine Ev.rounds ?_
  unfold laws_FnExactStartHost.f laws_toKeeper.f laws_toShare.f
  refine EvKit.now (EvKit.bnd (spec_StartHost.eq ..) (EvKit.now (EvKit.bnd (impl_StartHost.eq ..) (Ev.bind (laws_eqKeeperHost.ev _ _ _ _ _ _ _ (by simp)) (EvKit.itt rfl (Ev.bind (laws_markKeeperHost.ev _ _ _ _ _ _ _ _ (by omega) (by simp)) (Ev.bind (laws_heldKeeperHost.ev _ _ _ _ _ [] _ _ (by omega) (by simp)) ?_)))))))
  refine EvKit.itf (by simp) (EvKit.itt rfl (EvKit.now (EvKit.bnd (impl_StartHost.eq ..) (Ev.bind (laws_eqKeeperHost.ev _ _ _ _ _ _ _ (by simp)) (EvKit.itt rfl (Ev.bind (laws_heldKeeperHost.ev _ _ _ _ _ [] _ _ (by omega) (by simp)) (EvKit.itf (by simp) (EvKit.itt rfl (EvKit.ret rfl)))))))))

end Go.Proofs.Ytaajgknmclpbiaa.Pure
