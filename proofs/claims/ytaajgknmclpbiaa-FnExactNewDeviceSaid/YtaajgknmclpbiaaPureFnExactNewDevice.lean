/- For every store the program's NewDevice gives what the reference gives, in memory of its own. No condition. -/
import Derived.Test.YtaajgknmclpbiaaQFnExactNewDevicea
set_option linter.unusedVariables false
set_option linter.unusedSimpArgs false
namespace Go.Proofs.Ytaajgknmclpbiaa.Pure
open Go.RowKit Go.Proofs.Ytaajgknmclpbiaa.PFnExactNewDevice Go.Proofs.YtaajgknmclpbiaaW.PrintWords Go.Proofs.YtaajgknmclpbiaaW.PrintLast Go.Proofs.Ytaajgknmclpbiaa.RFnExactNewDevice Go.Proofs.Ytaajgknmclpbiaa.QFnExactNewDevice
theorem FnExactNewDevice : RFnExactNewDevice.Pure := by
  intro a b c d _ _ _ _
  refine Ev.rounds ?_
  unfold laws_FnExactNewDevice.f laws_toKeyStore.f spec_NewDevice.f impl_NewDevice.f
  refine EvKit.now (EvKit.now (EvKit.now (EvKit.now (Ev.bind (laws_eqDevice.ev _ _ _ _ _ _ _ _ _ (by simp) (by simp)) (EvKit.itt rfl (Ev.bind (laws_markDevice.ev _ _ _ _ _ _ _ _ _ _ (by omega) (by simp)) (Ev.bind (laws_heldDevice.ev _ _ _ _ [] _ _ _ [] _ (by omega) (by simp)) ?_)))))))
  exact EvKit.itf (by simp) (EvKit.itt rfl (EvKit.now (EvKit.now (Ev.bind (laws_eqDevice.ev _ _ _ _ _ _ _ _ _ (by simp) (by simp)) (EvKit.itt rfl (Ev.bind (laws_heldDevice.ev _ _ _ _ [] _ _ _ [] _ (by omega) (by simp)) (EvKit.itf (by simp) (EvKit.itt rfl (EvKit.ret rfl)))))))))

end Go.Proofs.Ytaajgknmclpbiaa.Pure
