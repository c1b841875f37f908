/- The pure statement of FnExactMakeVault; no condition beyond the statement's own. -/
import Derived.Test.YtpgmghghpliapaaQFnExactMakeVaulta
set_option linter.unusedVariables false
set_option linter.unusedSimpArgs false
namespace Go.Proofs.Ytpgmghghpliapaa.Pure
open Go.RowKit Go.Proofs.Ytpgmghghpliapaa.PFnExactMakeVault Go.Proofs.YtpgmghghpliapaaW.PrintWords Go.Proofs.YtpgmghghpliapaaW.PrintLast Go.Proofs.Ytpgmghghpliapaa.RFnExactMakeVault Go.Proofs.Ytpgmghghpliapaa.QFnExactMakeVault
theorem savedSz_nil : ∀ l : List S47, (∀ x ∈ l, x.f1.length = 0) → savedSz l = 0
  | [], _ => rfl
  | x :: l, h => by
    have h1 := h x List.mem_cons_self
    have h2 := savedSz_nil l (fun y hy => h y (List.mem_cons_of_mem _ hy))
    simp only [savedSz]; omega
theorem eqVault_refl (a b c d : Int) : laws_eqVault.f a b c d a b c d = some true := by
  unfold laws_eqVault.f
  rw [if_pos rfl, if_pos rfl, if_pos rfl, if_pos rfl]
/- For all arguments the program's MakeVault gives what the reference gives, leaves its arguments as they were, and shares no memory. No condition. -/
theorem FnExactMakeVault : RFnExactMakeVault.Pure := by
  intro pin salt key sec co cnt lim
  intros
  suffices hz : Ev (fun k => laws_FnExactMakeVault.f k pin salt key sec co cnt lim) true by
    obtain ⟨K, hK⟩ := hz
    exact ⟨K, hK K (Nat.le_refl _)⟩
  unfold laws_FnExactMakeVault.f
  refine EvKit.ite (fun _ => EvKit.ret rfl) (fun hv => ?_)
  have t1 := laws_toIntS.ev co (by omega)
  have s1 := spec_MakeVault.ev pin salt key sec co cnt lim (by omega)
  have s2 := impl_MakeVault.ev pin salt key sec co cnt lim (by omega)
  have hh := vaultV_hosts pin salt key sec co cnt lim
  generalize vaultV pin salt key sec co cnt lim = R at s1 s2 hh
  obtain ⟨R0, R1, R2, R3, RH, R4⟩ := R
  dsimp only at hh
  have hz := savedSz_nil RH hh.2
  have v1 := eqVault_refl R0 R1 R2 R3
  have q1 := laws_eqKeeperHostS.ev RH (by omega) (fun x hx => by have := hh.2 x hx; omega)
  have q2 := laws_eqIntS.ev co (by omega)
  have m1 := laws_markIntS.ev co 1 (by omega) (by omega)
  have m3 := laws_markKeeperHostS.ev RH 1 (by omega) (by omega)
  have m4 := laws_heldKeeperHostS.ev RH 1 (by omega) (by omega)
  refine Ev.bind t1 (Ev.bind s1 (Ev.bind t1 (Ev.bind s2 (EvKit.bnd v1 (EvKit.itt rfl (Ev.bind q1 (EvKit.itt rfl (EvKit.itf (by simp) (Ev.bind t1 (Ev.bind q2 (EvKit.itt rfl (Ev.bind m1 (EvKit.itf ?_ (EvKit.bnd v1 (EvKit.itt rfl (Ev.bind q1 (EvKit.itt rfl (Ev.bind m3 (Ev.bind m4 (EvKit.itf (by omega) (EvKit.itt rfl (Ev.bind t1 (Ev.bind s2 (EvKit.bnd v1 (EvKit.itt rfl (Ev.bind q1 (EvKit.itt rfl (EvKit.itf (by simp) (Ev.bind m4 (EvKit.itf (by omega) (EvKit.itt rfl (EvKit.ret rfl))))))))))))))))))))))))))))))))
  dsimp only
  omega

end Go.Proofs.Ytpgmghghpliapaa.Pure
