/- For every list of hosts, place and list of helpers the program's ReplaceHost gives what the reference gives, leaves its arguments as they were, and shares no memory. No condition. -/
import Derived.Test.YtjngmadmdkkcmaaQFnExactReplaceHosta
set_option linter.unusedVariables false
set_option linter.unusedSimpArgs false
namespace Go.Proofs.Ytjngmadmdkkcmaa.Pure
open Go.RowKit Go.Proofs.Ytjngmadmdkkcmaa.PFnExactReplaceHost Go.Proofs.YtjngmadmdkkcmaaW.PrintWords Go.Proofs.YtjngmadmdkkcmaaW.PrintLast Go.Proofs.Ytjngmadmdkkcmaa.RFnExactReplaceHost Go.Proofs.Ytjngmadmdkkcmaa.QFnExactReplaceHost
theorem FnExactReplaceHost : RFnExactReplaceHost.Pure := by
  intro l idx v hl
  intros
  have c1 : l.length ≤ 9223372036854775807 := by have := hl.1; unfold maxLen at this; omega
  have d1 : ∀ x ∈ l, x.f1.length ≤ 9223372036854775807 := fun x hx => by have := (hl.2 x hx).2.1.1; unfold maxLen at this; omega
  refine Ev.rounds ?_
  unfold laws_FnExactReplaceHost.f
  refine EvKit.ite (fun _ => EvKit.ret rfl) (fun hv => ?_)
  obtain ⟨r, h1, h2, h3⟩ := laws_szKeeperHostS.ev l 1048576 c1 d1 (by omega) (by omega)
  refine Ev.bind h1 (EvKit.ite (fun _ => EvKit.ret rfl) (fun h => ?_))
  have e1 := h2 (by omega)
  have t1 := laws_toKeeperHostS.ev l (by omega) (fun x hx => by have := szHosts_mem hx; omega)
  have t3 := laws_toIntS.ev v (by omega)
  have n1 : (l.map toKeeperHostC).length ≤ 1048576 := by rw [List.length_map]; omega
  have f1 := hosts_len (l := l) (by omega)
  have fl : ∀ x ∈ l.map toKeeperHostC, x.f1.length ≤ 1048576 := by
    intro x hx
    obtain ⟨y, hy, rfl⟩ := List.mem_map.1 hx
    have := szHosts_mem hy
    simp only [toKeeperHostC, List.length_map]
    omega
  have s1 := spec_ReplaceHost.ev (l.map toKeeperHostC) idx v n1 fl (by omega)
  have s2 := impl_ReplaceHost.ev (l.map toKeeperHostC) idx v n1 fl (by omega)
  have ls := replV_len (l.map toKeeperHostC) idx v
  have lt := replV_sz (l.map toKeeperHostC) idx v
  have lu := replV_le (l.map toKeeperHostC) idx v 1048576 fl
  rw [savedSz_map] at lt
  generalize replV (l.map toKeeperHostC) idx v = R at s1 s2 ls lt lu
  obtain ⟨R, rb⟩ := R
  dsimp only at ls lt lu
  have q1 := laws_eqKeeperHostS.ev R (by omega) (fun x hx => by have := lu x hx; omega)
  have m1 := laws_markKeeperHostS.ev (l.map toKeeperHostC) 1 (by omega) (by rw [savedSz_map]; omega)
  have m2 := laws_markIntS.ev v (1 + 6 * ((l.map toKeeperHostC).length : Int) + 5 * (savedSz (l.map toKeeperHostC) : Int)) (by omega) (by rw [savedSz_map]; omega)
  have m3 := laws_markKeeperHostS.ev R 1 (by omega) (by omega)
  have m4 := laws_heldKeeperHostS.ev R 1 (by omega) (by omega)
  refine Ev.bind t1 (Ev.bind t3 (Ev.bind s1 (Ev.bind t1 (Ev.bind t3 (Ev.bind s2 (Ev.bind q1 (EvKit.itt rfl (EvKit.itf (by simp) (Ev.bind t1 (Ev.bind (laws_eqKeeperHostS.ev _ (by omega) f1) (EvKit.itt rfl (Ev.bind t3 (Ev.bind (laws_eqIntS.ev _ (by omega)) (EvKit.itt rfl (Ev.bind m1 (Ev.bind m2 (EvKit.itf ?_ (Ev.bind q1 (EvKit.itt rfl (Ev.bind m3 (Ev.bind m4 (EvKit.itf (by omega) (EvKit.itt rfl (Ev.bind t1 (Ev.bind t3 (Ev.bind s2 (Ev.bind q1 (EvKit.itt rfl (EvKit.itf (by simp) (Ev.bind m4 (EvKit.itf (by omega) (EvKit.itt rfl (EvKit.ret rfl)))))))))))))))))))))))))))))))))
  show ¬ (1 + 6 * ((l.map toKeeperHostC).length : Int) + 5 * (savedSz (l.map toKeeperHostC) : Int) + (v.length : Int) < 0)
  omega

end Go.Proofs.Ytjngmadmdkkcmaa.Pure
