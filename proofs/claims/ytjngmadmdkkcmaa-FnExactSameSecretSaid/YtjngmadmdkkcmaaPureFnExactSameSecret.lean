/- For every two lists of hosts the program's SameSecret gives what the reference gives, and leaves its arguments as they were. No condition. -/
import Derived.Test.YtjngmadmdkkcmaaQFnExactSameSecreta
set_option linter.unusedVariables false
set_option linter.unusedSimpArgs false
namespace Go.Proofs.Ytjngmadmdkkcmaa.Pure
open Go.RowKit Go.Proofs.Ytjngmadmdkkcmaa.PFnExactSameSecret Go.Proofs.YtjngmadmdkkcmaaW.PrintWords Go.Proofs.YtjngmadmdkkcmaaW.PrintLast Go.Proofs.Ytjngmadmdkkcmaa.RFnExactSameSecret Go.Proofs.Ytjngmadmdkkcmaa.QFnExactSameSecret
theorem FnExactSameSecret : RFnExactSameSecret.Pure := by
  intro l m hl hm
  have c1 : l.length ≤ 9223372036854775807 := by have := hl.1; unfold maxLen at this; omega
  have c2 : m.length ≤ 9223372036854775807 := by have := hm.1; unfold maxLen at this; omega
  have d1 : ∀ x ∈ l, x.f1.length ≤ 9223372036854775807 := fun x hx => by have := (hl.2 x hx).2.1.1; unfold maxLen at this; omega
  have d2 : ∀ x ∈ m, x.f1.length ≤ 9223372036854775807 := fun x hx => by have := (hm.2 x hx).2.1.1; unfold maxLen at this; omega
  refine Ev.rounds ?_
  unfold laws_FnExactSameSecret.f
  obtain ⟨r, h1, h2, h3⟩ := laws_szKeeperHostS.ev l 1048576 c1 d1 (by omega) (by omega)
  refine Ev.bind h1 (EvKit.ite (fun _ => EvKit.ret rfl) (fun h => ?_))
  obtain ⟨r', h4, h5, h6⟩ := laws_szKeeperHostS.ev m r c2 d2 (by omega) h3
  refine Ev.bind h4 (EvKit.ite (fun _ => EvKit.ret rfl) (fun h' => ?_))
  have e1 := h2 (by omega)
  have e2 := h5 (by omega)
  have t1 := laws_toKeeperHostS.ev l (by omega) (fun x hx => by have := szHosts_mem hx; omega)
  have t2 := laws_toKeeperHostS.ev m (by omega) (fun x hx => by have := szHosts_mem hx; omega)
  have n1 : (l.map toKeeperHostC).length ≤ 1048576 := by rw [List.length_map]; omega
  have n2 : (m.map toKeeperHostC).length ≤ 1048576 := by rw [List.length_map]; omega
  have f1 := hosts_len (l := l) (by omega)
  have f2 := hosts_len (l := m) (by omega)
  refine Ev.bind t1 (Ev.bind t2 (Ev.bind (spec_SameSecret.ev _ _ n1 n2) (Ev.bind t1 (Ev.bind t2 (Ev.bind (impl_SameSecret.ev _ _ n1 n2) (EvKit.itf (by simp) ?_))))))
  exact Ev.bind t1 (Ev.bind (laws_eqKeeperHostS.ev _ (by omega) f1) (EvKit.itt rfl (Ev.bind t2 (Ev.bind (laws_eqKeeperHostS.ev _ (by omega) f2) (EvKit.itt rfl (EvKit.ret rfl))))))

end Go.Proofs.Ytjngmadmdkkcmaa.Pure
