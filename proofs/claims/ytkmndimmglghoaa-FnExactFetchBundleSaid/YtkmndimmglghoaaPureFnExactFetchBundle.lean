/- For every cloud and every place back the program's FetchBundle gives what the reference gives, leaves its arguments as they were, and shares no memory. No condition. -/
import Derived.Test.YtkmndimmglghoaaQFnExactFetchBundlea
set_option linter.unusedVariables false
set_option linter.unusedSimpArgs false
namespace Go.Proofs.Ytkmndimmglghoaa.Pure
open Go.RowKit Go.Proofs.Ytkmndimmglghoaa.PFnExactFetchBundle Go.Proofs.YtkmndimmglghoaaW.PrintWords Go.Proofs.YtkmndimmglghoaaW.PrintLast Go.Proofs.Ytkmndimmglghoaa.RFnExactFetchBundle Go.Proofs.Ytkmndimmglghoaa.QFnExactFetchBundle
theorem FnExactFetchBundle : RFnExactFetchBundle.Pure := by
  intro l a b s n
  intros
  rename_i hl _ hb hs hn
  obtain ⟨hn0, hn1⟩ : -9223372036854775808 ≤ n ∧ n ≤ 9223372036854775807 := by
    have h := hn
    simp only [Lit.wf, Bool.and_eq_true, decide_eq_true_eq] at h
    exact h
  have c1 : l.length ≤ 9223372036854775807 := by have := hl.1; unfold maxLen at this; omega
  have c2 : b.length ≤ 9223372036854775807 := by have := hb.1; unfold maxLen at this; omega
  have c3 : s.length ≤ 9223372036854775807 := by have := hs.1; unfold maxLen at this; omega
  have d2 : ∀ x ∈ b, x.f2.length ≤ 9223372036854775807 := fun x hx => by have := (hb.2 x hx).2.2.1.1; unfold maxLen at this; omega
  have d3 : ∀ x ∈ s, x.f2.length ≤ 9223372036854775807 := fun x hx => by have := (hs.2 x hx).2.2.1.1; unfold maxLen at this; omega
  refine Ev.rounds ?_
  unfold laws_FnExactFetchBundle.f
  obtain ⟨r, h1, h2, h3⟩ := laws_szCloud.ev l a b s 1048576 c1 c2 d2 c3 d3 (by omega) (by omega)
  refine Ev.bind h1 (EvKit.ite (fun _ => EvKit.ret rfl) (fun h => ?_))
  have e1 := h2 (by omega)
  have t1 := laws_toCloud.ev l a b s (by omega) (by omega) (fun x hx => by have := szBoxes_mem hx; omega) (by omega) (fun x hx => by have := szSealeds_mem hx; omega)
  have fl : ∀ x ∈ s.map toSealedBundleC, x.f2.length ≤ 1048576 := by
    intro x hx
    obtain ⟨y, hy, rfl⟩ := List.mem_map.1 hx
    have := szSealeds_mem hy
    show y.f2.length ≤ 1048576
    omega
  have n1 : (l.map toLogEntryC).length ≤ 1048576 := by rw [List.length_map]; omega
  have n2 : (b.map toBoxC).length ≤ 1048576 := by rw [List.length_map]; omega
  have n3 : (s.map toSealedBundleC).length ≤ 1048576 := by rw [List.length_map]; omega
  have s1 := EvKit.eqv (spec_FetchBundle.eq (l.map toLogEntryC) a (b.map toBoxC) (s.map toSealedBundleC) n n3 (fun x hx => by have := fl x hx; omega) hn0 hn1)
  have s2 := EvKit.eqv (impl_FetchBundle.eq (l.map toLogEntryC) a (b.map toBoxC) (s.map toSealedBundleC) n n3 (fun x hx => by have := fl x hx; omega) hn0 hn1)
  have ls := fetchB_len (s.map toSealedBundleC) n 1048576 fl
  generalize fetchB (s.map toSealedBundleC) n = R at s1 s2 ls
  obtain ⟨R0, R1, R2, R3, R4⟩ := R
  have q1 := laws_eqSealedBundle.ev R0 R1 R2 R3 (by dsimp only at ls; omega)
  have q2 := laws_eqCloud.ev (l.map toLogEntryC) a (b.map toBoxC) (s.map toSealedBundleC) (by omega) (by omega) (boxes_len (by omega)) (by omega) (sealeds_len (by omega))
  obtain ⟨b', s', m1⟩ := laws_markCloud.ev (l.map toLogEntryC) a (b.map toBoxC) (s.map toSealedBundleC) 1 (by omega) (by rw [boxSz_map, sealedSz_map]; omega)
  have m3 : Ev (fun k => laws_markSealedBundle.f k R0 R1 R2 R3 1) (1 + (R2.length : Int), markByteL 1 R2) := by
    unfold laws_markSealedBundle.f
    exact Ev.bind (laws_markByteS.ev R2 1 (by omega) (by dsimp only at ls; omega)) (EvKit.ret rfl)
  have m4 : Ev (fun k => laws_heldSealedBundle.f k R0 R1 (markByteL 1 R2) R3 1) (1 + (R2.length : Int)) := by
    unfold laws_heldSealedBundle.f
    exact Ev.bind (laws_heldByteS.ev R2 1 (by omega) (by dsimp only at ls; omega)) (EvKit.itf (by omega) (EvKit.ret rfl))
  refine Ev.bind t1 (Ev.bind s1 (Ev.bind t1 (Ev.bind s2 (Ev.bind q1 (EvKit.itt rfl (EvKit.itf (by simp) (Ev.bind t1 (Ev.bind q2 (EvKit.itt rfl (Ev.bind m1 (EvKit.itf ?_ (Ev.bind q1 (EvKit.itt rfl (Ev.bind m3 (Ev.bind m4 (EvKit.itf (by omega) (EvKit.itt rfl (Ev.bind t1 (Ev.bind s2 (Ev.bind q1 (EvKit.itt rfl (EvKit.itf (by simp) (Ev.bind m4 (EvKit.itf (by omega) (EvKit.itt rfl (EvKit.ret rfl))))))))))))))))))))))))))
  dsimp only
  omega

end Go.Proofs.Ytkmndimmglghoaa.Pure
