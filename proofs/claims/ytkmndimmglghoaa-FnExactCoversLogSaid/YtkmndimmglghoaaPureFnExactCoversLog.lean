/- For all boxes and every log the program's CoversLog gives what the reference gives, and leaves its arguments as they were. No condition. -/
import Derived.Test.YtkmndimmglghoaaQFnExactCoversLoga
set_option linter.unusedVariables false
set_option linter.unusedSimpArgs false
namespace Go.Proofs.Ytkmndimmglghoaa.Pure
open Go.RowKit Go.Proofs.Ytkmndimmglghoaa.PFnExactCoversLog Go.Proofs.YtkmndimmglghoaaW.PrintWords Go.Proofs.YtkmndimmglghoaaW.PrintLast Go.Proofs.Ytkmndimmglghoaa.RFnExactCoversLog Go.Proofs.Ytkmndimmglghoaa.QFnExactCoversLog
theorem FnExactCoversLog : RFnExactCoversLog.Pure := by
  intro e b l
  intros
  rename_i hb hl
  have c1 : b.length ≤ 9223372036854775807 := by have := hb.1; unfold maxLen at this; omega
  have c2 : l.length ≤ 9223372036854775807 := by have := hl.1; unfold maxLen at this; omega
  have d1 : ∀ x ∈ b, x.f2.length ≤ 9223372036854775807 := fun x hx => by have := (hb.2 x hx).2.2.1.1; unfold maxLen at this; omega
  refine Ev.rounds ?_
  unfold laws_FnExactCoversLog.f
  obtain ⟨r, h1, h2, h3⟩ := laws_szEpochBoxes.ev e b 1048576 c1 d1 (by omega) (by omega)
  refine Ev.bind h1 (EvKit.ite (fun _ => EvKit.ret rfl) (fun h => ?_))
  have e1 := h2 (by omega)
  refine EvKit.bnd (laws_szLogEntryS.eq l r (by omega) h3 c2) (EvKit.ite (fun _ => EvKit.ret rfl) (fun h' => ?_))
  have b2 : l.length ≤ 1048576 := by split at h' <;> omega
  have t1 := laws_toEpochBoxes.ev e b (by omega) (fun x hx => by have := szBoxes_mem hx; omega)
  have t2 := laws_toLogEntryS.ev l b2
  have n1 : (b.map toBoxC).length ≤ 1048576 := by rw [List.length_map]; omega
  have n2 : (l.map toLogEntryC).length ≤ 1048576 := by rw [List.length_map]; omega
  have f1 := boxes_len (l := b) (by omega)
  refine Ev.bind t1 (Ev.bind t2 (Ev.bind (spec_CoversLog.ev _ _ _ n1 n2) (Ev.bind t1 (Ev.bind t2 (Ev.bind (impl_CoversLog.ev _ _ _ n1 n2) (EvKit.itf (by simp) ?_))))))
  exact Ev.bind t1 (Ev.bind (laws_eqEpochBoxes.ev e (b.map toBoxC) (by omega) f1) (EvKit.itt rfl (Ev.bind t2 (Ev.bind (laws_eqLogEntryS.ev (l.map toLogEntryC) (by omega)) (EvKit.itt rfl (EvKit.ret rfl))))))

end Go.Proofs.Ytkmndimmglghoaa.Pure
