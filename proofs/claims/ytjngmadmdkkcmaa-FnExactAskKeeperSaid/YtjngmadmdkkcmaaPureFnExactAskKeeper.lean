/- For every keeper and every element the program's AskKeeper gives what the reference gives. No condition. -/
import Derived.Test.YtjngmadmdkkcmaaQFnExactAskKeepera
set_option linter.unusedVariables false
set_option linter.unusedSimpArgs false
namespace Go.Proofs.Ytjngmadmdkkcmaa.Pure
open Go.RowKit Go.Proofs.Ytjngmadmdkkcmaa.PFnExactAskKeeper Go.Proofs.YtjngmadmdkkcmaaW.PrintWords Go.Proofs.YtjngmadmdkkcmaaW.PrintLast Go.Proofs.Ytjngmadmdkkcmaa.RFnExactAskKeeper Go.Proofs.Ytjngmadmdkkcmaa.QFnExactAskKeeper
theorem FnExactAskKeeper : RFnExactAskKeeper.Pure := by
  intro a b c d e x
  intros
  refine Ev.rounds ?_
  unfold laws_FnExactAskKeeper.f laws_toKeeper.f laws_toShare.f
  refine EvKit.now (EvKit.now (Ev.bind (spec_AskKeeper.ev a b c d e x) (EvKit.now (EvKit.now (Ev.bind (impl_AskKeeper.ev a b c d e x) (EvKit.bnd (laws_eqKeeper.refl ..) (EvKit.itt rfl (EvKit.itt rfl (EvKit.itf ?_ (EvKit.ret rfl))))))))))
  simp

end Go.Proofs.Ytjngmadmdkkcmaa.Pure
