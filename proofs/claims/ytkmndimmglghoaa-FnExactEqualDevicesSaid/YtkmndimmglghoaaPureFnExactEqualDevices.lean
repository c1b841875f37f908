/- For every two devices the program's EqualDevices gives what the reference gives, and leaves its arguments as they were. No condition. -/
import Derived.Test.YtkmndimmglghoaaQFnExactEqualDevicesa
set_option linter.unusedVariables false
set_option linter.unusedSimpArgs false
namespace Go.Proofs.Ytkmndimmglghoaa.Pure
open Go.RowKit Go.Proofs.Ytkmndimmglghoaa.PFnExactEqualDevices Go.Proofs.YtkmndimmglghoaaW.PrintWords Go.Proofs.YtkmndimmglghoaaW.PrintLast Go.Proofs.Ytkmndimmglghoaa.RFnExactEqualDevices Go.Proofs.Ytkmndimmglghoaa.QFnExactEqualDevices
theorem FnExactEqualDevices : RFnExactEqualDevices.Pure := by
  intro a b c d l e f g m a' b' c' d' l' e' f' g' m'
  intros
  rename_i hl _ _ _ hm _ _ _ _ hl' _ _ _ hm'
  have c1 : l.length ≤ 9223372036854775807 := by have := hl.1; unfold maxLen at this; omega
  have c2 : m.length ≤ 9223372036854775807 := by have := hm.1; unfold maxLen at this; omega
  have c3 : l'.length ≤ 9223372036854775807 := by have := hl'.1; unfold maxLen at this; omega
  have c4 : m'.length ≤ 9223372036854775807 := by have := hm'.1; unfold maxLen at this; omega
  refine Ev.rounds ?_
  unfold laws_FnExactEqualDevices.f
  refine EvKit.bnd (laws_szDevice.eq _ _ _ _ l _ _ _ m _ (by omega) (by omega) c1 c2) (EvKit.ite (fun _ => EvKit.ret rfl) (fun h => ?_))
  have b1 : l.length + m.length ≤ 1048576 := by split at h <;> omega
  rw [if_neg (by omega)] at h ⊢
  refine EvKit.bnd (laws_szDevice.eq _ _ _ _ l' _ _ _ m' _ (by omega) (by omega) c3 c4) (EvKit.ite (fun _ => EvKit.ret rfl) (fun h' => ?_))
  have b2 : l'.length + m'.length ≤ 1048576 := by split at h' <;> omega
  have t1 := laws_toDevice.ev a b c d l e f g m (by omega) (by omega)
  have t2 := laws_toDevice.ev a' b' c' d' l' e' f' g' m' (by omega) (by omega)
  have n1 : (l.map toLogEntryC).length ≤ 9223372036854775806 := by rw [List.length_map]; omega
  have n2 : (m.map toEntryC).length ≤ 9223372036854775806 := by rw [List.length_map]; omega
  have n3 : (l'.map toLogEntryC).length ≤ 9223372036854775806 := by rw [List.length_map]; omega
  have n4 : (m'.map toEntryC).length ≤ 9223372036854775806 := by rw [List.length_map]; omega
  refine Ev.bind t1 (Ev.bind t2 (Ev.bind (spec_EqualDevices.ev _ _ _ _ _ _ _ _ _ _ _ _ _ _ _ _ _ _ n1 n2) (Ev.bind t1 (Ev.bind t2 (Ev.bind (impl_EqualDevices.ev _ _ _ _ _ _ _ _ _ _ _ _ _ _ _ _ _ _ n1 n2) (EvKit.itf (by simp) ?_))))))
  exact Ev.bind t1 (Ev.bind (laws_eqDevice.ev _ _ _ _ _ _ _ _ _ n1 n2) (EvKit.itt rfl (Ev.bind t2 (Ev.bind (laws_eqDevice.ev _ _ _ _ _ _ _ _ _ n3 n4) (EvKit.itt rfl (EvKit.ret rfl))))))

end Go.Proofs.Ytkmndimmglghoaa.Pure
