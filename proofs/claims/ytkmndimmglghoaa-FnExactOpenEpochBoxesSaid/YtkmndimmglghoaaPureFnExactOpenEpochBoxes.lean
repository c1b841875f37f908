/- The pure statement of FnExactOpenEpochBoxes; no condition beyond the statement's own. -/
import Derived.Test.YtkmndimmglghoaaQFnExactOpenEpochBoxesa
set_option linter.unusedVariables false
set_option linter.unusedSimpArgs false
namespace Go.Proofs.Ytkmndimmglghoaa.Pure
open Go.RowKit Go.Proofs.Ytkmndimmglghoaa.PFnExactOpenEpochBoxes Go.Proofs.YtkmndimmglghoaaW.PrintWords Go.Proofs.YtkmndimmglghoaaW.PrintLast Go.Proofs.Ytkmndimmglghoaa.RFnExactOpenEpochBoxes Go.Proofs.Ytkmndimmglghoaa.QFnExactOpenEpochBoxes
def openE (key epoch : Int) (l : List S161) : Int × Bool :=
  if (findV key l).2 = true then (if (dec2 (findV key l).1).2.2 = true then (if (dec2 (findV key l).1).2.1 = ((findV key l).1.length : Int) then (if rd (dec2 (findV key l).1).1 0 = epoch then (if okKey (rd (dec2 (findV key l).1).1 1) = true then (rd (dec2 (findV key l).1).1 1, true) else (0, false)) else (0, false)) else (0, false)) else (0, false)) else (0, false)
theorem dec2_len (l : List Int) (h : (dec2 l).2.2 = true) : (dec2 l).1.length = 2 := by
  unfold dec2 at h ⊢
  by_cases h1 : (uv l 0).2.2 = true
  · rw [if_pos h1] at h ⊢
    by_cases h2 : (uv l (uv l 0).2.1).2.2 = true
    · rw [if_pos h2]; rfl
    · rw [if_neg h2] at h; cases h
  · rw [if_neg h1] at h; cases h
theorem spec_OpenEpochBoxes.ev (a b c d e : Int) (l : List S161) (hl : l.length ≤ 1048576) (he : ∀ x ∈ l, x.f2.length ≤ 1048576 ∧ ∀ y ∈ x.f2, 0 ≤ y ∧ y < 256) : Ev (fun k => spec_OpenEpochBoxes.f k a b c d e l) (openE (deriveK c [181]) e l) := by
  have hf := findV_bd (deriveK c [181]) l
  have hk : Ev (fun k => spec_l10Device.f k a b c d) (deriveK c [181]) := by
    unfold spec_l10Device.f
    exact Ev.bind (spec_DeriveKey.ev _ _ (by simp)) (EvKit.ret rfl)
  unfold spec_OpenEpochBoxes.f openE
  refine Ev.bind hk (Ev.bind (spec_FindBox.ev l _ hl he) (Ev.bind (spec_DecodeInts.ev _ hf.1 hf.2) (EvKit.ite (fun h1 => ?_) (fun h1 => ?_))))
  · rw [if_pos h1]
    refine EvKit.ite (fun h2 => ?_) (fun h2 => ?_)
    · rw [if_pos h2]
      have hn := dec2_len _ h2
      refine EvKit.ite (fun h3 => ?_) (fun h3 => ?_)
      · rw [if_pos h3]
        refine EvKit.itt (by omega) (EvKit.ite (fun h4 => ?_) (fun h4 => ?_))
        · rw [if_pos h4]
          refine EvKit.itt (by omega) (EvKit.bnd (spec_IsValidKey.eq _) (EvKit.ite (fun h5 => ?_) (fun h5 => ?_)))
          · rw [if_pos h5]; exact EvKit.ret rfl
          · rw [if_neg h5]; exact EvKit.ret rfl
        · rw [if_neg h4]; exact EvKit.ret rfl
      · rw [if_neg h3]; exact EvKit.ret rfl
    · rw [if_neg h2]; exact EvKit.ret rfl
  · rw [if_neg h1]; exact EvKit.ret rfl
theorem impl_OpenEpochBoxes.ev (a b c d e : Int) (l : List S161) (hl : l.length ≤ 1048576) (he : ∀ x ∈ l, x.f2.length ≤ 1048576 ∧ ∀ y ∈ x.f2, 0 ≤ y ∧ y < 256) : Ev (fun k => impl_OpenEpochBoxes.f k a b c d e l) (openE (deriveK c [181]) e l) := by
  have hf := findV_bd (deriveK c [181]) l
  unfold impl_OpenEpochBoxes.f openE
  refine Ev.bind (impl_DeriveKey.ev _ _ (by simp)) (Ev.bind (impl_FindBox.ev l _ hl he) (EvKit.ite (fun h1 => Ev.bind (impl_DecodeInts.ev _ hf.1 hf.2) ?_) (fun h1 => ?_)))
  · rw [if_pos h1]
    refine EvKit.ite (fun h2 => ?_) (fun h2 => ?_)
    · rw [if_pos h2]
      have hn := dec2_len _ h2
      refine EvKit.ite (fun h3 => ?_) (fun h3 => ?_)
      · rw [if_pos h3]
        refine EvKit.itt (by omega) (EvKit.ite (fun h4 => ?_) (fun h4 => ?_))
        · rw [if_pos h4]
          refine EvKit.itt (by omega) (EvKit.bnd (impl_IsValidKey.eq _) (EvKit.ite (fun h5 => ?_) (fun h5 => ?_)))
          · rw [if_pos h5]; exact EvKit.ret rfl
          · rw [if_neg h5]; exact EvKit.ret rfl
        · rw [if_neg h4]; exact EvKit.ret rfl
      · rw [if_neg h3]; exact EvKit.ret rfl
    · rw [if_neg h2]; exact EvKit.ret rfl
  · rw [if_neg h1]; exact EvKit.ret rfl
/- For every key store and all boxes of an epoch the program's OpenEpochBoxes gives what the reference gives, and leaves its arguments as they were. No condition. -/
theorem FnExactOpenEpochBoxes : RFnExactOpenEpochBoxes.Pure := by
  intro a b c d e l
  intros
  rename_i hb
  have c2 : l.length ≤ 9223372036854775807 := by have := hb.1; unfold maxLen at this; omega
  have d2 : ∀ x ∈ l, x.f2.length ≤ 9223372036854775807 := fun x hx => by have := (hb.2 x hx).2.2.1.1; unfold maxLen at this; omega
  suffices hz : Ev (fun k => laws_FnExactOpenEpochBoxes.f k a b c d e l) true by
    obtain ⟨K, hK⟩ := hz
    exact ⟨K, hK K (Nat.le_refl _)⟩
  unfold laws_FnExactOpenEpochBoxes.f
  obtain ⟨r, h1, h2, h3⟩ := laws_szEpochBoxes.ev e l 1048576 c2 d2 (by omega) (by omega)
  refine Ev.bind h1 (EvKit.ite (fun _ => EvKit.ret rfl) (fun h => ?_))
  have e1 := h2 (by omega)
  have t1 := laws_toEpochBoxes.ev e l (by omega) (fun x hx => by have := szBoxes_mem hx; omega)
  have n2 : (l.map toBoxC).length ≤ 1048576 := by rw [List.length_map]; omega
  have fl : ∀ x ∈ l.map toBoxC, x.f2.length ≤ 1048576 ∧ ∀ y ∈ x.f2, 0 ≤ y ∧ y < 256 := by
    intro x hx
    obtain ⟨z, hz, rfl⟩ := List.mem_map.1 hx
    refine ⟨by have := szBoxes_mem hz; show z.f2.length ≤ 1048576; omega, fun y hy => ?_⟩
    have h := (hb.2 z hz).2.2.1.2 y hy
    simp only [Lit.wf, Bool.and_eq_true, decide_eq_true_eq] at h
    have h0 : (0 : Int) ≤ y := h.1
    have h1 : y ≤ 255 := h.2
    omega
  have q2 := laws_eqEpochBoxes.ev e (l.map toBoxC) (by omega) (boxes_len (by omega))
  have hs : laws_toKeyStore.f a b c d = some (a, b, c, d) := rfl
  refine EvKit.bnd hs (Ev.bind t1 (Ev.bind (spec_OpenEpochBoxes.ev a b c d e _ n2 fl) (Ev.bind t1 (EvKit.bnd hs (Ev.bind (impl_OpenEpochBoxes.ev a b c d e _ n2 fl) (EvKit.itt rfl (EvKit.itf (by simp) (Ev.bind t1 (Ev.bind q2 (EvKit.itt rfl (EvKit.ret rfl)))))))))))

end Go.Proofs.Ytkmndimmglghoaa.Pure
