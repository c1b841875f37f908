/- The pure statement of FnExactMixedSecret; no condition beyond the statement's own. -/
import Derived.Test.YtjngmadmdkkcmaaQFnExactMixedSecreta
set_option linter.unusedVariables false
set_option linter.unusedSimpArgs false
namespace Go.Proofs.Ytjngmadmdkkcmaa.Pure
open Go.RowKit Go.Proofs.Ytjngmadmdkkcmaa.PFnExactMixedSecret Go.Proofs.YtjngmadmdkkcmaaW.PrintWords Go.Proofs.YtjngmadmdkkcmaaW.PrintLast Go.Proofs.Ytjngmadmdkkcmaa.RFnExactMixedSecret Go.Proofs.Ytjngmadmdkkcmaa.QFnExactMixedSecret
theorem spec_MixedSecret.ev (l m : List S31) (v w : List Int) (hl : l.length ≤ 1048576) (hm : m.length ≤ 1048576) (hv : v.length ≤ 1048576) (hw : w.length ≤ 1048576) : Ev (fun k => spec_MixedSecret.f k l m v w) (interpV (stolenL l v ++ stolenL m w) 0) := by
  unfold spec_MixedSecret.f
  have a1 := stolenL_len l v
  have a2 := stolenL_len m w
  exact Ev.bind (spec_StolenShares.ev l v hl hv) (Ev.bind (spec_StolenShares.ev m w hm hw) (EvKit.itt (by omega) (Ev.bind (spec_Interpolate.ev _ _ (by rw [List.length_append]; omega)) (EvKit.ret rfl))))
theorem impl_MixedSecret.ev (l m : List S31) (v w : List Int) (hl : l.length ≤ 1048576) (hm : m.length ≤ 1048576) (hv : v.length ≤ 1048576) (hw : w.length ≤ 1048576) : Ev (fun k => impl_MixedSecret.f k l m v w) (interpV (stolenL l v ++ stolenL m w) 0) := by
  unfold impl_MixedSecret.f
  have a1 := stolenL_len l v
  have a2 := stolenL_len m w
  exact Ev.bind (impl_StolenShares.ev l v hl hv) (Ev.bind (impl_StolenShares.ev m w hm hw) (EvKit.itt (by omega) (Ev.bind (impl_Interpolate.ev _ _) (EvKit.ret rfl))))
/- For every two lists of hosts and every two lists of places the program's MixedSecret gives what the reference gives, and leaves its arguments as they were. No condition. -/
theorem FnExactMixedSecret : RFnExactMixedSecret.Pure := by
  intro l m v w hl hm
  intros
  have c1 : l.length ≤ 9223372036854775807 := by have := hl.1; unfold maxLen at this; omega
  have c2 : m.length ≤ 9223372036854775807 := by have := hm.1; unfold maxLen at this; omega
  have d1 : ∀ x ∈ l, x.f1.length ≤ 9223372036854775807 := fun x hx => by have := (hl.2 x hx).2.1.1; unfold maxLen at this; omega
  have d2 : ∀ x ∈ m, x.f1.length ≤ 9223372036854775807 := fun x hx => by have := (hm.2 x hx).2.1.1; unfold maxLen at this; omega
  refine Ev.rounds ?_
  unfold laws_FnExactMixedSecret.f
  refine EvKit.ite (fun _ => EvKit.ret rfl) (fun hv => EvKit.ite (fun _ => EvKit.ret rfl) (fun hw => ?_))
  obtain ⟨r, h1, h2, h3⟩ := laws_szKeeperHostS.ev l 1048576 c1 d1 (by omega) (by omega)
  refine Ev.bind h1 (EvKit.ite (fun _ => EvKit.ret rfl) (fun h => ?_))
  obtain ⟨r', h4, h5, h6⟩ := laws_szKeeperHostS.ev m r c2 d2 (by omega) h3
  refine Ev.bind h4 (EvKit.ite (fun _ => EvKit.ret rfl) (fun h' => ?_))
  have e1 := h2 (by omega)
  have e2 := h5 (by omega)
  have t1 := laws_toKeeperHostS.ev l (by omega) (fun x hx => by have := szHosts_mem hx; omega)
  have t2 := laws_toKeeperHostS.ev m (by omega) (fun x hx => by have := szHosts_mem hx; omega)
  have t3 := laws_toIntS.ev v (by omega)
  have t4 := laws_toIntS.ev w (by omega)
  have n1 : (l.map toKeeperHostC).length ≤ 1048576 := by rw [List.length_map]; omega
  have n2 : (m.map toKeeperHostC).length ≤ 1048576 := by rw [List.length_map]; omega
  have f1 := hosts_len (l := l) (by omega)
  have f2 := hosts_len (l := m) (by omega)
  refine Ev.bind t1 (Ev.bind t2 (Ev.bind t3 (Ev.bind t4 (Ev.bind (spec_MixedSecret.ev _ _ _ _ n1 n2 (by omega) (by omega)) (Ev.bind t1 (Ev.bind t2 (Ev.bind t3 (Ev.bind t4 (Ev.bind (impl_MixedSecret.ev _ _ _ _ n1 n2 (by omega) (by omega)) (EvKit.itt rfl ?_))))))))))
  refine Ev.step (fun k => by rw [laws_FnExactMixedSecret.j0]) ?_
  refine EvKit.itf (by simp) ?_
  exact Ev.bind t1 (Ev.bind (laws_eqKeeperHostS.ev _ (by omega) f1) (EvKit.itt rfl (Ev.bind t2 (Ev.bind (laws_eqKeeperHostS.ev _ (by omega) f2) (EvKit.itt rfl (Ev.bind t3 (Ev.bind (laws_eqIntS.ev _ (by omega)) (EvKit.itt rfl (Ev.bind t4 (Ev.bind (laws_eqIntS.ev _ (by omega)) (EvKit.itt rfl (EvKit.ret rfl))))))))))))

end Go.Proofs.Ytjngmadmdkkcmaa.Pure
