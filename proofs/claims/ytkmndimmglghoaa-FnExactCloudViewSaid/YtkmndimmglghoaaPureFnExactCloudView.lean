/- For every cloud the program's CloudView gives what the reference gives, leaves its arguments as they were, and shares no memory. No condition. -/
import Derived.Test.YtkmndimmglghoaaQFnExactCloudViewa
set_option linter.unusedVariables false
set_option linter.unusedSimpArgs false
namespace Go.Proofs.Ytkmndimmglghoaa.Pure
open Go.RowKit Go.Proofs.Ytkmndimmglghoaa.PFnExactCloudView Go.Proofs.YtkmndimmglghoaaW.PrintWords Go.Proofs.YtkmndimmglghoaaW.PrintLast Go.Proofs.Ytkmndimmglghoaa.RFnExactCloudView Go.Proofs.Ytkmndimmglghoaa.QFnExactCloudView
theorem FnExactCloudView : RFnExactCloudView.Pure := by
  intro l a b s
  intros
  rename_i hl _ hb hs
  have c1 : l.length ≤ 9223372036854775807 := by have := hl.1; unfold maxLen at this; omega
  have c2 : b.length ≤ 9223372036854775807 := by have := hb.1; unfold maxLen at this; omega
  have c3 : s.length ≤ 9223372036854775807 := by have := hs.1; unfold maxLen at this; omega
  have d2 : ∀ x ∈ b, x.f2.length ≤ 9223372036854775807 := fun x hx => by have := (hb.2 x hx).2.2.1.1; unfold maxLen at this; omega
  have d3 : ∀ x ∈ s, x.f2.length ≤ 9223372036854775807 := fun x hx => by have := (hs.2 x hx).2.2.1.1; unfold maxLen at this; omega
  refine Ev.rounds ?_
  unfold laws_FnExactCloudView.f
  obtain ⟨r, h1, h2, h3⟩ := laws_szCloud.ev l a b s 1048576 c1 c2 d2 c3 d3 (by omega) (by omega)
  refine Ev.bind h1 (EvKit.ite (fun _ => EvKit.ret rfl) (fun h => ?_))
  have e1 := h2 (by omega)
  have t1 := laws_toCloud.ev l a b s (by omega) (by omega) (fun x hx => by have := szBoxes_mem hx; omega) (by omega) (fun x hx => by have := szSealeds_mem hx; omega)
  have n1 : (l.map toLogEntryC).length ≤ 1048576 := by rw [List.length_map]; omega
  have n2 : (b.map toBoxC).length ≤ 1048576 := by rw [List.length_map]; omega
  have n3 : (s.map toSealedBundleC).length ≤ 1048576 := by rw [List.length_map]; omega
  have s1 := spec_CloudView.ev (l.map toLogEntryC) a (b.map toBoxC) (s.map toSealedBundleC) n1 n3
  have s2 := impl_CloudView.ev (l.map toLogEntryC) a (b.map toBoxC) (s.map toSealedBundleC) n1 n3
  have ls : ([((l.map toLogEntryC).length : Int), ((devicesL [] (l.map toLogEntryC)).length : Int)] ++ viewS (s.map toSealedBundleC)).length ≤ 4194304 := by
    simp only [List.length_append, List.length_cons, List.length_nil, viewS_len]; omega
  generalize [((l.map toLogEntryC).length : Int), ((devicesL [] (l.map toLogEntryC)).length : Int)] ++ viewS (s.map toSealedBundleC) = R at s1 s2 ls
  have q1 := laws_eqIntS.ev R (by omega)
  have q2 := laws_eqCloud.ev (l.map toLogEntryC) a (b.map toBoxC) (s.map toSealedBundleC) (by omega) (by omega) (boxes_len (by omega)) (by omega) (sealeds_len (by omega))
  obtain ⟨b', s', m1⟩ := laws_markCloud.ev (l.map toLogEntryC) a (b.map toBoxC) (s.map toSealedBundleC) 1 (by omega) (by rw [boxSz_map, sealedSz_map]; omega)
  have m3 := laws_markIntS.ev R 1 (by omega) (by omega)
  have m4 := laws_heldIntS.ev R 1 (by omega) (by omega)
  refine Ev.bind t1 (Ev.bind s1 (Ev.bind t1 (Ev.bind s2 (Ev.bind q1 (EvKit.itt rfl (Ev.bind t1 (Ev.bind q2 (EvKit.itt rfl (Ev.bind m1 (EvKit.itf ?_ (Ev.bind q1 (EvKit.itt rfl (Ev.bind m3 (Ev.bind m4 (EvKit.itf (by omega) (EvKit.itt rfl (Ev.bind t1 (Ev.bind s2 (Ev.bind q1 (EvKit.itt rfl (Ev.bind m4 (EvKit.itf (by omega) (EvKit.itt rfl (EvKit.ret rfl))))))))))))))))))))))))
  dsimp only
  omega

end Go.Proofs.Ytkmndimmglghoaa.Pure
