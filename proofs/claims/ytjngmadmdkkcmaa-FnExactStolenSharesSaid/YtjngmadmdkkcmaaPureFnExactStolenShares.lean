/- For every list of hosts and every list of places the program's StolenShares gives what the reference gives, leaves its arguments as they were, and shares no memory. No condition. -/
import Derived.Test.YtjngmadmdkkcmaaQFnExactStolenSharesa
set_option linter.unusedVariables false
set_option linter.unusedSimpArgs false
namespace Go.Proofs.Ytjngmadmdkkcmaa.Pure
open Go.RowKit Go.Proofs.Ytjngmadmdkkcmaa.PFnExactStolenShares Go.Proofs.YtjngmadmdkkcmaaW.PrintWords Go.Proofs.YtjngmadmdkkcmaaW.PrintLast Go.Proofs.Ytjngmadmdkkcmaa.RFnExactStolenShares Go.Proofs.Ytjngmadmdkkcmaa.QFnExactStolenShares
theorem FnExactStolenShares : RFnExactStolenShares.Pure := by
  intro l v hl
  intros
  have c1 : l.length ≤ 9223372036854775807 := by have := hl.1; unfold maxLen at this; omega
  have d1 : ∀ x ∈ l, x.f1.length ≤ 9223372036854775807 := fun x hx => by have := (hl.2 x hx).2.1.1; unfold maxLen at this; omega
  refine Ev.rounds ?_
  unfold laws_FnExactStolenShares.f
  refine EvKit.ite (fun _ => EvKit.ret rfl) (fun hv => ?_)
  obtain ⟨r, h1, h2, h3⟩ := laws_szKeeperHostS.ev l 1048576 c1 d1 (by omega) (by omega)
  refine Ev.bind h1 (EvKit.ite (fun _ => EvKit.ret rfl) (fun h => ?_))
  have e1 := h2 (by omega)
  have t1 := laws_toKeeperHostS.ev l (by omega) (fun x hx => by have := szHosts_mem hx; omega)
  have t3 := laws_toIntS.ev v (by omega)
  have n1 : (l.map toKeeperHostC).length ≤ 1048576 := by rw [List.length_map]; omega
  have f1 := hosts_len (l := l) (by omega)
  have s1 := spec_StolenShares.ev (l.map toKeeperHostC) v n1 (by omega)
  have s2 := impl_StolenShares.ev (l.map toKeeperHostC) v n1 (by omega)
  have ls := stolenL_len (l.map toKeeperHostC) v
  have q1 := laws_eqShareS.ev (stolenL (l.map toKeeperHostC) v) (by omega)
  have m1 := laws_markKeeperHostS.ev (l.map toKeeperHostC) 1 (by omega) (by rw [savedSz_map]; omega)
  have m2 := laws_markIntS.ev v (1 + 6 * ((l.map toKeeperHostC).length : Int) + 5 * (savedSz (l.map toKeeperHostC) : Int)) (by omega) (by rw [savedSz_map]; omega)
  have m3 := laws_markShareS.ev (stolenL (l.map toKeeperHostC) v) 1 (by omega) (by omega)
  have m4 := laws_heldShareS.ev (stolenL (l.map toKeeperHostC) v) 1 (by omega) (by omega)
  refine Ev.bind t1 (Ev.bind t3 (Ev.bind s1 (Ev.bind t1 (Ev.bind t3 (Ev.bind s2 (Ev.bind q1 (EvKit.itt rfl (Ev.bind t1 (Ev.bind (laws_eqKeeperHostS.ev _ (by omega) f1) (EvKit.itt rfl (Ev.bind t3 (Ev.bind (laws_eqIntS.ev _ (by omega)) (EvKit.itt rfl (Ev.bind m1 (Ev.bind m2 (EvKit.itf ?_ (Ev.bind q1 (EvKit.itt rfl (Ev.bind m3 (Ev.bind m4 (EvKit.itf (by omega) (EvKit.itt rfl (Ev.bind t1 (Ev.bind t3 (Ev.bind s2 (Ev.bind q1 (EvKit.itt rfl (Ev.bind m4 (EvKit.itf (by omega) (EvKit.itt rfl (EvKit.ret rfl)))))))))))))))))))))))))))))))
  show ¬ (1 + 6 * ((l.map toKeeperHostC).length : Int) + 5 * (savedSz (l.map toKeeperHostC) : Int) + (v.length : Int) < 0)
  omega

end Go.Proofs.Ytjngmadmdkkcmaa.Pure
