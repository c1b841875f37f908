/- For every two clouds the program's EqualClouds gives what the reference gives, and leaves its arguments as they were. No condition. -/
import Derived.Test.YtkmndimmglghoaaQFnExactEqualCloudsa
set_option linter.unusedVariables false
set_option linter.unusedSimpArgs false
namespace Go.Proofs.Ytkmndimmglghoaa.Pure
open Go.RowKit Go.Proofs.Ytkmndimmglghoaa.PFnExactEqualClouds Go.Proofs.YtkmndimmglghoaaW.PrintWords Go.Proofs.YtkmndimmglghoaaW.PrintLast Go.Proofs.Ytkmndimmglghoaa.RFnExactEqualClouds Go.Proofs.Ytkmndimmglghoaa.QFnExactEqualClouds
theorem FnExactEqualClouds : RFnExactEqualClouds.Pure := by
  intro l a b s l' a' b' s'
  intros
  rename_i hl _ hb hs hl' _ hb' hs'
  have c1 : l.length ≤ 9223372036854775807 := by have := hl.1; unfold maxLen at this; omega
  have c2 : b.length ≤ 9223372036854775807 := by have := hb.1; unfold maxLen at this; omega
  have c3 : s.length ≤ 9223372036854775807 := by have := hs.1; unfold maxLen at this; omega
  have c4 : l'.length ≤ 9223372036854775807 := by have := hl'.1; unfold maxLen at this; omega
  have c5 : b'.length ≤ 9223372036854775807 := by have := hb'.1; unfold maxLen at this; omega
  have c6 : s'.length ≤ 9223372036854775807 := by have := hs'.1; unfold maxLen at this; omega
  have d2 : ∀ x ∈ b, x.f2.length ≤ 9223372036854775807 := fun x hx => by have := (hb.2 x hx).2.2.1.1; unfold maxLen at this; omega
  have d3 : ∀ x ∈ s, x.f2.length ≤ 9223372036854775807 := fun x hx => by have := (hs.2 x hx).2.2.1.1; unfold maxLen at this; omega
  have d5 : ∀ x ∈ b', x.f2.length ≤ 9223372036854775807 := fun x hx => by have := (hb'.2 x hx).2.2.1.1; unfold maxLen at this; omega
  have d6 : ∀ x ∈ s', x.f2.length ≤ 9223372036854775807 := fun x hx => by have := (hs'.2 x hx).2.2.1.1; unfold maxLen at this; omega
  refine Ev.rounds ?_
  unfold laws_FnExactEqualClouds.f
  obtain ⟨r, h1, h2, h3⟩ := laws_szCloud.ev l a b s 1048576 c1 c2 d2 c3 d3 (by omega) (by omega)
  refine Ev.bind h1 (EvKit.ite (fun _ => EvKit.ret rfl) (fun h => ?_))
  obtain ⟨r', h4, h5, h6⟩ := laws_szCloud.ev l' a' b' s' r c4 c5 d5 c6 d6 (by omega) h3
  refine Ev.bind h4 (EvKit.ite (fun _ => EvKit.ret rfl) (fun h' => ?_))
  have e1 := h2 (by omega)
  have e2 := h5 (by omega)
  have t1 := laws_toCloud.ev l a b s (by omega) (by omega) (fun x hx => by have := szBoxes_mem hx; omega) (by omega) (fun x hx => by have := szSealeds_mem hx; omega)
  have t2 := laws_toCloud.ev l' a' b' s' (by omega) (by omega) (fun x hx => by have := szBoxes_mem hx; omega) (by omega) (fun x hx => by have := szSealeds_mem hx; omega)
  have n1 : (l.map toLogEntryC).length ≤ 9223372036854775806 := by rw [List.length_map]; omega
  have n2 : (b.map toBoxC).length ≤ 9223372036854775806 := by rw [List.length_map]; omega
  have n3 : (s.map toSealedBundleC).length ≤ 9223372036854775806 := by rw [List.length_map]; omega
  have n4 : (l'.map toLogEntryC).length ≤ 9223372036854775806 := by rw [List.length_map]; omega
  have n5 : (b'.map toBoxC).length ≤ 9223372036854775806 := by rw [List.length_map]; omega
  have n6 : (s'.map toSealedBundleC).length ≤ 9223372036854775806 := by rw [List.length_map]; omega
  have f2 := boxes_len (l := b) (by omega)
  have f3 := sealeds_len (l := s) (by omega)
  have f5 := boxes_len (l := b') (by omega)
  have f6 := sealeds_len (l := s') (by omega)
  refine Ev.bind t1 (Ev.bind t2 (Ev.bind (spec_EqualClouds.ev _ _ _ _ _ _ _ _ n1 n2 n3) (Ev.bind t1 (Ev.bind t2 (Ev.bind (impl_EqualClouds.ev _ _ _ _ _ _ _ _ n1 n2 n3) (EvKit.itf (by simp) ?_))))))
  exact Ev.bind t1 (Ev.bind (laws_eqCloud.ev _ _ _ _ n1 n2 f2 n3 f3) (EvKit.itt rfl (Ev.bind t2 (Ev.bind (laws_eqCloud.ev _ _ _ _ n4 n5 f5 n6 f6) (EvKit.itt rfl (EvKit.ret rfl))))))

end Go.Proofs.Ytkmndimmglghoaa.Pure
