/- The law FnExactShareEpochs returns true for every input, and its arguments read as before: out of its pure statement and the walk. No condition beyond the statement's own. -/
import Derived.Test.YtcbdojndlnhbjaaRows
import Derived.Test.YtcbdojndlnhbjaaRFnExactShareEpochs
import Derived.Test.YtcbdojndlnhbjaaPureFnExactShareEpochs
import Derived.WalkKit
import Derived.ProofKit
import Derived.OpenShut
import Derived.ShutString
import Derived.ChangeOld
import Derived.Below
import Derived.SizedLaws
import Derived.Carry
set_option linter.unusedVariables false
namespace Go.Proofs.Ytcbdojndlnhbjaa.fnExactShareEpochs
open Go.ChangeShapes Go.WideShapes Go.ChangeAt Go.RowKit Go.Proofs.Ytcbdojndlnhbjaa.RFnExactShareEpochs Go.Proofs.Ytcbdojndlnhbjaa.PFnExactShareEpochs Go.Proofs.YtcbdojndlnhbjaaW.PrintWords
open Go.ChangeMaps (open_string shut_string)
theorem own : ownKnob Try.prog.godebug = none := by kernel_rfl
theorem laidOut : laidOutB Try.prog = true := by kernel_rfl
set_option maxRecDepth 100000 in
theorem lifted (os : Os) (started : os.Started) (H : Type) (enc : TypeId × Value → H) :
    ReturnsInHanded {} Try.checked os 3 .any (Rows.fnExactShareEpochsSpec.pre6 enc Try.prog Try.f3 Rows.fnExactShareEpochsRow.domain false) (Rows.fnExactShareEpochsSpec.post enc Try.prog Try.f3 false true false false) := by
  refine returnsInHanded_of_change_sized (C := Try.checked) own started (by kernel_rfl) Try.func3
    (ChangeSpec.witness6 (enc := enc) (C := Try.checked) false ⟨#[], #[.slice none 0 0], []⟩ 8 (by kernel_rfl) (by kernel_rfl) (by kernel_rfl) (by kernel_rfl)) ?_
  intro W base args ds gs before hval0 hW hcnd hsz0 _
  have hval : ∀ (j : Nat) t v, Try.f3.params[j]? = some t → args[j]? = some v → Value.okWide Try.prog W .any base t v := hval0
  have hW' := hW
  obtain ⟨p, q, hA0, hV, rfl, hfz, hnd⟩ := hW
  have hA : DataW.TrodAll enc Try.prog W 0 (fun _ => true) true Try.f3.params.toList args.toList ds p := hA0
  rw [Try.params3] at hA hval
  obtain ⟨v0, vs0, d0, ds0, p0, q0, hargs, rfl, rfl, h0, r0⟩ := trodAll_cons hA
  obtain ⟨rfl, rfl, rfl⟩ := trodAll_nil r0
  obtain rfl : args = #[v0] := by cases args; simp_all
  obtain ⟨rfl, rfl⟩ := trodVars_none hV
  have k0 := h0
  have lt0 : ∀ x ∈ p0, x.block < W.heap.size := by obtain ⟨m, hm⟩ := k0; exact DataW.trod_lt m _ _ _ hm
  obtain ⟨aa0, ll0, cc0, rfl⟩ := okWide_slice Try.underlying22 (hval 0 22 v0 rfl rfl)
  obtain ⟨fuel0, hf0⟩ := h0
  obtain ⟨l0, hk0, w0⟩ := ((RFnExactShareEpochs.Opn.slice Try.underlying22 (by kernel_rfl) o40) : RFnExactShareEpochs.Opn.Opn Try.prog (Kd.slice 40 k40) 22 _).get hf0
  obtain ⟨A0, c0, e0, hc0, hr0⟩ := hk0
  obtain ⟨rfl, rfl, rfl⟩ : A0 = aa0 ∧ l0.length = ll0 ∧ c0 = cc0 := by have h_ := e0; simp [Value.cells] at h_; exact ⟨h_.1.symm, h_.2.1.symm, h_.2.2.symm⟩
  clear hA0 hval0 hsz0
  refine (RFnExactShareEpochs.walk Pure.FnExactShareEpochs (l0 := l0) (A0 := A0) (c0 := c0) (hr0 := hr0) (hc0 := hc0) (w0 := w0) (w := W)).mono fun e W' ⟨he, bel⟩ => ?_
  subst he
  exact ⟨_, rfl, _, _, _, [], _, [], hW', trodAll_mk1 (shut_bool Try.underlying4 _), (trodAll_cons_mk (Below.trod laidOut (by kernel_rfl) (of_decide_eq_true (by kernel_rfl)) k0 bel lt0) trodAll_mk0), rfl, bel.frame _, fun h => by cases h⟩
theorem over : Rows.fnExactShareEpochsRow.holds Try.pinned (OpenSpec.ofChange Rows.fnExactShareEpochsSpec) :=
  OpenClaim.holds_of_wide 3 Try.f3 rfl rfl rfl rfl rfl rfl rfl ⟨rfl, rfl, rfl, rfl, rfl⟩ rfl rfl rfl rfl rfl (by kernel_rfl) Try.func3 (by kernel_rfl)
    (of_decide_eq_true (by kernel_rfl)) (by unfold Func.isWrapper; first | (rw [if_pos (by decide +kernel)]; kernel_rfl) | (rw [if_neg (by decide +kernel)]; exact ⟨rfl, rfl⟩))
    (fun os started H enc _ => lifted os started H enc)
theorem proved : Rows.FnExactShareEpochsSaid := over
end Go.Proofs.Ytcbdojndlnhbjaa.fnExactShareEpochs
namespace Go.Proofs.Ytcbdojndlnhbjaa
/-- The row, under a short name, for the claim. -/
theorem fnExactShareEpochs_holds : Rows.FnExactShareEpochsSaid := fnExactShareEpochs.proved
end Go.Proofs.Ytcbdojndlnhbjaa
