/- The law FnExactStolenShares returns true for every input, and its arguments read as before: out of its pure statement and the walk. No condition beyond the statement's own. -/
import Derived.Test.YtjngmadmdkkcmaaRows
import Derived.Test.YtjngmadmdkkcmaaRFnExactStolenShares
import Derived.Test.YtjngmadmdkkcmaaPureFnExactStolenShares
import Derived.WalkKit
import Derived.ProofKit
import Derived.OpenShut
import Derived.ShutString
import Derived.ChangeOld
import Derived.Below
import Derived.SizedLaws
import Derived.Carry
set_option linter.unusedVariables false
namespace Go.Proofs.Ytjngmadmdkkcmaa.fnExactStolenShares
open Go.ChangeShapes Go.WideShapes Go.ChangeAt Go.RowKit Go.Proofs.Ytjngmadmdkkcmaa.RFnExactStolenShares Go.Proofs.Ytjngmadmdkkcmaa.PFnExactStolenShares Go.Proofs.YtjngmadmdkkcmaaW.PrintWords
open Go.ChangeMaps (open_string shut_string)
theorem own : ownKnob Try.prog.godebug = none := by kernel_rfl
theorem laidOut : laidOutB Try.prog = true := by kernel_rfl
set_option maxRecDepth 100000 in
theorem lifted (os : Os) (started : os.Started) (H : Type) (enc : TypeId × Value → H) :
    ReturnsInHanded {} Try.checked os 7 .any (Rows.fnExactStolenSharesSpec.pre6 enc Try.prog Try.f7 Rows.fnExactStolenSharesRow.domain false) (Rows.fnExactStolenSharesSpec.post enc Try.prog Try.f7 false true false false) := by
  refine returnsInHanded_of_change_sized (C := Try.checked) own started (by kernel_rfl) Try.func7
    (ChangeSpec.witness6 (enc := enc) (C := Try.checked) false ⟨#[], #[.slice none 0 0, .slice none 0 0], []⟩ 8 (by kernel_rfl) (by kernel_rfl) (by kernel_rfl) (by kernel_rfl)) ?_
  intro W base args ds gs before hval0 hW hcnd hsz0 _
  have hval : ∀ (j : Nat) t v, Try.f7.params[j]? = some t → args[j]? = some v → Value.okWide Try.prog W .any base t v := hval0
  have hW' := hW
  obtain ⟨p, q, hA0, hV, rfl, hfz, hnd⟩ := hW
  have hA : DataW.TrodAll enc Try.prog W 0 (fun _ => true) true Try.f7.params.toList args.toList ds p := hA0
  rw [Try.params7] at hA hval
  obtain ⟨v0, vs0, d0, ds0, p0, q0, hargs, rfl, rfl, h0, r0⟩ := trodAll_cons hA
  obtain ⟨v1, vs1, d1, ds1, p1, q1, rfl, rfl, rfl, h1, r1⟩ := trodAll_cons r0
  obtain ⟨rfl, rfl, rfl⟩ := trodAll_nil r1
  obtain rfl : args = #[v0, v1] := by cases args; simp_all
  obtain ⟨rfl, rfl⟩ := trodVars_none hV
  have k0 := h0
  have lt0 : ∀ x ∈ p0, x.block < W.heap.size := by obtain ⟨m, hm⟩ := k0; exact DataW.trod_lt m _ _ _ hm
  obtain ⟨aa0, ll0, cc0, rfl⟩ := okWide_slice Try.underlying58 (hval 0 58 v0 rfl rfl)
  obtain ⟨fuel0, hf0⟩ := h0
  obtain ⟨l0, hk0, w0⟩ := ((RFnExactStolenShares.Opn.slice Try.underlying58 (by kernel_rfl) o50) : RFnExactStolenShares.Opn.Opn Try.prog (Kd.slice 50 k50) 58 _).get hf0
  obtain ⟨A0, c0, e0, hc0, hr0⟩ := hk0
  obtain ⟨rfl, rfl, rfl⟩ : A0 = aa0 ∧ l0.length = ll0 ∧ c0 = cc0 := by have h_ := e0; simp [Value.cells] at h_; exact ⟨h_.1.symm, h_.2.1.symm, h_.2.2.symm⟩
  have k1 := h1
  have lt1 : ∀ x ∈ p1, x.block < W.heap.size := by obtain ⟨m, hm⟩ := k1; exact DataW.trod_lt m _ _ _ hm
  obtain ⟨aa1, ll1, cc1, rfl⟩ := okWide_slice Try.underlying59 (hval 1 59 v1 rfl rfl)
  obtain ⟨fuel1, hf1⟩ := h1
  obtain ⟨l1, hk1, w1⟩ := ((RFnExactStolenShares.Opn.slice Try.underlying59 (by kernel_rfl) (RFnExactStolenShares.Opn.int Try.underlying3 (by kernel_rfl))) : RFnExactStolenShares.Opn.Opn Try.prog (Kd.slice 3 (Kd.int .i64)) 59 _).get hf1
  obtain ⟨A1, c1, e1, hc1, hr1⟩ := hk1
  obtain ⟨rfl, rfl, rfl⟩ : A1 = aa1 ∧ l1.length = ll1 ∧ c1 = cc1 := by have h_ := e1; simp [Value.cells] at h_; exact ⟨h_.1.symm, h_.2.1.symm, h_.2.2.symm⟩
  clear hA0 hval0 hsz0
  refine (RFnExactStolenShares.walk Pure.FnExactStolenShares (l0 := l0) (l1 := l1) (A0 := A0) (c0 := c0) (hr0 := hr0) (hc0 := hc0) (A1 := A1) (c1 := c1) (hr1 := hr1) (hc1 := hc1) (w0 := w0) (w1 := w1) (w := W)).mono fun e W' ⟨he, bel⟩ => ?_
  subst he
  exact ⟨_, rfl, _, _, _, [], _, [], hW', trodAll_mk1 (shut_bool Try.underlying4 _), (trodAll_cons_mk (Below.trod laidOut (by kernel_rfl) (of_decide_eq_true (by kernel_rfl)) k0 bel lt0) (trodAll_cons_mk (Below.trod laidOut (by kernel_rfl) (of_decide_eq_true (by kernel_rfl)) k1 bel lt1) trodAll_mk0)), rfl, bel.frame _, fun h => by cases h⟩
theorem over : Rows.fnExactStolenSharesRow.holds Try.pinned (OpenSpec.ofChange Rows.fnExactStolenSharesSpec) :=
  OpenClaim.holds_of_wide 7 Try.f7 rfl rfl rfl rfl rfl rfl rfl ⟨rfl, rfl, rfl, rfl, rfl⟩ rfl rfl rfl rfl rfl (by kernel_rfl) Try.func7 (by kernel_rfl)
    (of_decide_eq_true (by kernel_rfl)) (by unfold Func.isWrapper; first | (rw [if_pos (by decide +kernel)]; kernel_rfl) | (rw [if_neg (by decide +kernel)]; exact ⟨rfl, rfl⟩))
    (fun os started H enc _ => lifted os started H enc)
theorem proved : Rows.FnExactStolenSharesSaid := over
end Go.Proofs.Ytjngmadmdkkcmaa.fnExactStolenShares
namespace Go.Proofs.Ytjngmadmdkkcmaa
/-- The row, under a short name, for the claim. -/
theorem fnExactStolenShares_holds : Rows.FnExactStolenSharesSaid := fnExactStolenShares.proved
end Go.Proofs.Ytjngmadmdkkcmaa
