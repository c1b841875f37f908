/- For every host and every share the program's ResetGuesses gives what the reference gives, in memory of its own, and leaves its argument as it was. No condition. -/
import Derived.Test.YtjngmadmdkkcmaaQFnExactResetGuessesa
set_option linter.unusedVariables false
set_option linter.unusedSimpArgs false
namespace Go.Proofs.Ytjngmadmdkkcmaa.Pure
open Go.RowKit Go.Proofs.Ytjngmadmdkkcmaa.PFnExactResetGuesses Go.Proofs.YtjngmadmdkkcmaaW.PrintWords Go.Proofs.YtjngmadmdkkcmaaW.PrintLast Go.Proofs.Ytjngmadmdkkcmaa.RFnExactResetGuesses Go.Proofs.Ytjngmadmdkkcmaa.QFnExactResetGuesses
theorem FnExactResetGuesses : RFnExactResetGuesses.Pure := by
  intro a b c d e l m i v _ _ _ _ _ hl _ _ _
  have hl1 : l.length ≤ 9223372036854775807 := by have := hl.1; unfold maxLen at this; omega
  refine Ev.rounds ?_
  unfold laws_FnExactResetGuesses.f
  refine EvKit.bnd (laws_szKeeperHost.eq _ _ _ _ _ l _ _ (by omega) (by omega) hl1) (EvKit.ite (fun _ => EvKit.ret rfl) (fun h => ?_))
  have b1 : l.length ≤ 1048576 := by split at h <;> omega
  clear h
  have t1 := laws_toKeeperHost.ev a b c d e l m b1
  have n0 : (l.map toKeeperC).length ≤ 1048576 := by rw [List.length_map]; omega
  have n1 : (l.map toKeeperC).length ≤ 9223372036854775806 := by omega
  have s1 := spec_ResetGuesses.ev a b c d e (l.map toKeeperC) m i v n0
  have i1 := impl_ResetGuesses.eq a b c d e (l.map toKeeperC) m i v n0
  have n2 : (rstV a b c d e (l.map toKeeperC) m i v).2.2.2.2.2.1.length ≤ 1048576 := by rw [rstV_list]; exact n0
  have n3 : (rstV a b c d e (l.map toKeeperC) m i v).2.2.2.2.2.1.length ≤ 9223372036854775806 := by omega
  have sh : laws_toShare.f i v = some (i, v) := rfl
  generalize rstV a b c d e (l.map toKeeperC) m i v = z at *
  have q1 := laws_eqKeeperHost.ev z.1 z.2.1 z.2.2.1 z.2.2.2.1 z.2.2.2.2.1 z.2.2.2.2.2.1 z.2.2.2.2.2.2.1 n3
  have q2 := laws_eqKeeperHost.ev a b c d e (l.map toKeeperC) m n1
  have mk1 := laws_markKeeperHost.ev a b c d e (l.map toKeeperC) m 1 (by omega) (by omega)
  refine Ev.bind t1 (EvKit.bnd sh (Ev.bind s1 (Ev.bind t1 (EvKit.bnd sh (EvKit.bnd i1 (Ev.bind q1 (EvKit.itt rfl (EvKit.itf (by simp) (Ev.bind t1 (Ev.bind q2 (EvKit.itt rfl (Ev.bind mk1 (EvKit.itf (by omega) (Ev.bind q1 (EvKit.itt rfl ?_)))))))))))))))
  refine Ev.bind (laws_markKeeperHost.ev _ _ _ _ _ _ _ 1 (by omega) (by omega)) (Ev.bind (laws_heldKeeperHost.ev _ _ _ _ _ _ _ 1 (by omega) (by omega)) (EvKit.itf (by omega) (EvKit.itt rfl (Ev.bind t1 (EvKit.bnd sh (EvKit.bnd i1 (Ev.bind q1 (EvKit.itt rfl (EvKit.itf (by simp) ?_)))))))))
  exact Ev.bind (laws_heldKeeperHost.ev _ _ _ _ _ _ _ 1 (by omega) (by omega)) (EvKit.itf (by omega) (EvKit.itt rfl (EvKit.ret rfl)))

end Go.Proofs.Ytjngmadmdkkcmaa.Pure
