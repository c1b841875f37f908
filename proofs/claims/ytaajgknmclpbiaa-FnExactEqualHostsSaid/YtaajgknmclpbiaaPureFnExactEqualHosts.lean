/- For every two hosts the program's EqualHosts gives what the reference gives, and leaves its arguments as they were. No condition. -/
import Derived.Test.YtaajgknmclpbiaaQFnExactEqualHostsa
set_option linter.unusedVariables false
set_option linter.unusedSimpArgs false
namespace Go.Proofs.Ytaajgknmclpbiaa.Pure
open Go.RowKit Go.Proofs.Ytaajgknmclpbiaa.PFnExactEqualHosts Go.Proofs.YtaajgknmclpbiaaW.PrintWords Go.Proofs.YtaajgknmclpbiaaW.PrintLast Go.Proofs.Ytaajgknmclpbiaa.RFnExactEqualHosts Go.Proofs.Ytaajgknmclpbiaa.QFnExactEqualHosts
theorem FnExactEqualHosts : RFnExactEqualHosts.Pure := by
  intro a b c d e l m a' b' c' d' e' l' m' _ _ _ _ _ hl _ _ _ _ _ _ hl' _
  have hl1 : l.length ≤ 9223372036854775807 := by have := hl.1; unfold maxLen at this; omega
  have hl2 : l'.length ≤ 9223372036854775807 := by have := hl'.1; unfold maxLen at this; omega
  refine Ev.rounds ?_
  unfold laws_FnExactEqualHosts.f
  refine EvKit.bnd (laws_szKeeperHost.eq _ _ _ _ _ l _ _ (by omega) (by omega) hl1) (EvKit.ite (fun _ => EvKit.ret rfl) (fun h => ?_))
  have b1 : l.length ≤ 1048576 := by split at h <;> omega
  rw [if_neg (by omega)] at h ⊢
  refine EvKit.bnd (laws_szKeeperHost.eq _ _ _ _ _ l' _ _ (by omega) (by omega) hl2) (EvKit.ite (fun _ => EvKit.ret rfl) (fun h' => ?_))
  have b2 : l'.length ≤ 1048576 := by split at h' <;> omega
  have t1 := laws_toKeeperHost.ev a b c d e l m b1
  have t2 := laws_toKeeperHost.ev a' b' c' d' e' l' m' b2
  have n1 : (l.map toKeeperC).length ≤ 9223372036854775806 := by rw [List.length_map]; omega
  have n2 : (l'.map toKeeperC).length ≤ 9223372036854775806 := by rw [List.length_map]; omega
  refine Ev.bind t1 (Ev.bind t2 (Ev.bind (spec_EqualHosts.ev _ _ _ _ _ _ _ _ _ _ _ _ _ _ n1) (Ev.bind t1 (Ev.bind t2 (Ev.bind (impl_EqualHosts.ev _ _ _ _ _ _ _ _ _ _ _ _ _ _ n1) (EvKit.itf (by simp) ?_))))))
  exact Ev.bind t1 (Ev.bind (laws_eqKeeperHost.ev _ _ _ _ _ _ _ n1) (EvKit.itt rfl (Ev.bind t2 (Ev.bind (laws_eqKeeperHost.ev _ _ _ _ _ _ _ n2) (EvKit.itt rfl (EvKit.ret rfl))))))

end Go.Proofs.Ytaajgknmclpbiaa.Pure
