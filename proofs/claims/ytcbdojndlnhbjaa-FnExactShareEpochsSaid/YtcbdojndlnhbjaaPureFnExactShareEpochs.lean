/- For every list of hosts the program's ShareEpochs gives what the reference gives, leaves its arguments as they were, and shares no memory. No condition. -/
import Derived.Test.YtcbdojndlnhbjaaQFnExactShareEpochsa
set_option linter.unusedVariables false
set_option linter.unusedSimpArgs false
namespace Go.Proofs.Ytcbdojndlnhbjaa.Pure
open Go.RowKit Go.Proofs.Ytcbdojndlnhbjaa.PFnExactShareEpochs Go.Proofs.YtcbdojndlnhbjaaW.PrintWords Go.Proofs.YtcbdojndlnhbjaaW.PrintLast Go.Proofs.Ytcbdojndlnhbjaa.RFnExactShareEpochs Go.Proofs.Ytcbdojndlnhbjaa.QFnExactShareEpochs
theorem FnExactShareEpochs : RFnExactShareEpochs.Pure := by
  intro l hl
  intros
  have c1 : l.length ≤ 9223372036854775807 := by have := hl.1; unfold maxLen at this; omega
  have d1 : ∀ x ∈ l, x.f1.length ≤ 9223372036854775807 := fun x hx => by have := (hl.2 x hx).2.1.1; unfold maxLen at this; omega
  refine Ev.rounds ?_
  unfold laws_FnExactShareEpochs.f
  obtain ⟨r, h1, h2, h3⟩ := laws_szKeeperHostS.ev l 1048576 c1 d1 (by omega) (by omega)
  refine Ev.bind h1 (EvKit.ite (fun _ => EvKit.ret rfl) (fun h => ?_))
  have e1 := h2 (by omega)
  have t1 := laws_toKeeperHostS.ev l (by omega) (fun x hx => by have := szHosts_mem hx; omega)
  have n1 : (l.map toKeeperHostC).length ≤ 1048576 := by rw [List.length_map]; omega
  have f1 := hosts_len (l := l) (by omega)
  have s1 := spec_ShareEpochs.ev (l.map toKeeperHostC) n1
  have s2 := impl_ShareEpochs.ev (l.map toKeeperHostC) n1
  have ls : ((l.map toKeeperHostC).map (fun x => x.f0.f1)).length ≤ 1048576 := by rw [List.length_map]; exact n1
  generalize (l.map toKeeperHostC).map (fun x => x.f0.f1) = R at s1 s2 ls
  have q1 := laws_eqIntS.ev R (by omega)
  have m1 := laws_markKeeperHostS.ev (l.map toKeeperHostC) 1 (by omega) (by rw [savedSz_map]; omega)
  have m3 := laws_markIntS.ev R 1 (by omega) (by omega)
  have m4 := laws_heldIntS.ev R 1 (by omega) (by omega)
  refine Ev.bind t1 (Ev.bind s1 (Ev.bind t1 (Ev.bind s2 (Ev.bind q1 (EvKit.itt rfl (Ev.bind t1 (Ev.bind (laws_eqKeeperHostS.ev _ (by omega) f1) (EvKit.itt rfl (Ev.bind m1 (EvKit.itf ?_ (Ev.bind q1 (EvKit.itt rfl (Ev.bind m3 (Ev.bind m4 (EvKit.itf (by omega) (EvKit.itt rfl (Ev.bind t1 (Ev.bind s2 (Ev.bind q1 (EvKit.itt rfl (Ev.bind m4 (EvKit.itf (by omega) (EvKit.itt rfl (EvKit.ret rfl))))))))))))))))))))))))
  dsimp only
  omega

end Go.Proofs.Ytcbdojndlnhbjaa.Pure
