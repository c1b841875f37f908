/- The law FnExactReplaceHost returns true for every input, and its arguments read as before: out of its pure statement and the walk. No condition beyond the statement's own. -/
import Derived.Test.YtjngmadmdkkcmaaRows
import Derived.Test.YtjngmadmdkkcmaaRFnExactReplaceHost
import Derived.Test.YtjngmadmdkkcmaaPureFnExactReplaceHost
import Derived.WalkKit
import Derived.ProofKit
import Derived.OpenShut
import Derived.ShutString
import Derived.ChangeOld
import Derived.Below
import Derived.SizedLaws
import Derived.Carry
set_option linter.unusedVariables false
namespace Go.Proofs.Ytjngmadmdkkcmaa.fnExactReplaceHost
open Go.ChangeShapes Go.WideShapes Go.ChangeAt Go.RowKit Go.Proofs.Ytjngmadmdkkcmaa.RFnExactReplaceHost Go.Proofs.Ytjngmadmdkkcmaa.PFnExactReplaceHost Go.Proofs.YtjngmadmdkkcmaaW.PrintWords
open Go.ChangeMaps (open_string shut_string)
theorem own : ownKnob Try.prog.godebug = none := by kernel_rfl
theorem laidOut : laidOutB Try.prog = true := by kernel_rfl
set_option maxRecDepth 100000 in
theorem lifted (os : Os) (started : os.Started) (H : Type) (enc : TypeId × Value → H) :
    ReturnsInHanded {} Try.checked os 13 .any (Rows.fnExactReplaceHostSpec.pre6 enc Try.prog Try.f13 Rows.fnExactReplaceHostRow.domain false) (Rows.fnExactReplaceHostSpec.post enc Try.prog Try.f13 false true false false) := by
  refine returnsInHanded_of_change_sized (C := Try.checked) own started (by kernel_rfl) Try.func13
    (ChangeSpec.witness6 (enc := enc) (C := Try.checked) false ⟨#[], #[.slice none 0 0, .int .i64 0, .slice none 0 0], []⟩ 8 (by kernel_rfl) (by kernel_rfl) (by kernel_rfl) (by kernel_rfl)) ?_
  intro W base args ds gs before hval0 hW hcnd hsz0 _
  have hval : ∀ (j : Nat) t v, Try.f13.params[j]? = some t → args[j]? = some v → Value.okWide Try.prog W .any base t v := hval0
  have hW' := hW
  obtain ⟨p, q, hA0, hV, rfl, hfz, hnd⟩ := hW
  have hA : DataW.TrodAll enc Try.prog W 0 (fun _ => true) true Try.f13.params.toList args.toList ds p := hA0
  rw [Try.params13] at hA hval
  obtain ⟨v0, vs0, d0, ds0, p0, q0, hargs, rfl, rfl, h0, r0⟩ := trodAll_cons hA
  obtain ⟨v1, vs1, d1, ds1, p1, q1, rfl, rfl, rfl, h1, r1⟩ := trodAll_cons r0
  obtain ⟨v2, vs2, d2, ds2, p2, q2, rfl, rfl, rfl, h2, r2⟩ := trodAll_cons r1
  obtain ⟨rfl, rfl, rfl⟩ := trodAll_nil r2
  obtain rfl : args = #[v0, v1, v2] := by cases args; simp_all
  obtain ⟨rfl, rfl⟩ := trodVars_none hV
  have k0 := h0
  have lt0 : ∀ x ∈ p0, x.block < W.heap.size := by obtain ⟨m, hm⟩ := k0; exact DataW.trod_lt m _ _ _ hm
  obtain ⟨aa0, ll0, cc0, rfl⟩ := okWide_slice Try.underlying58 (hval 0 58 v0 rfl rfl)
  obtain ⟨fuel0, hf0⟩ := h0
  obtain ⟨l0, hk0, w0⟩ := ((RFnExactReplaceHost.Opn.slice Try.underlying58 (by kernel_rfl) o50) : RFnExactReplaceHost.Opn.Opn Try.prog (Kd.slice 50 k50) 58 _).get hf0
  obtain ⟨A0, c0, e0, hc0, hr0⟩ := hk0
  obtain ⟨rfl, rfl, rfl⟩ : A0 = aa0 ∧ l0.length = ll0 ∧ c0 = cc0 := by have h_ := e0; simp [Value.cells] at h_; exact ⟨h_.1.symm, h_.2.1.symm, h_.2.2.symm⟩
  have k1 := h1
  have lt1 : ∀ x ∈ p1, x.block < W.heap.size := by obtain ⟨m, hm⟩ := k1; exact DataW.trod_lt m _ _ _ hm
  obtain ⟨a1, rfl, rfl, rfl, w1⟩ := open_int Try.underlying3 (hval 1 3 v1 rfl rfl) h1
  have k2 := h2
  have lt2 : ∀ x ∈ p2, x.block < W.heap.size := by obtain ⟨m, hm⟩ := k2; exact DataW.trod_lt m _ _ _ hm
  obtain ⟨aa2, ll2, cc2, rfl⟩ := okWide_slice Try.underlying59 (hval 2 59 v2 rfl rfl)
  obtain ⟨fuel2, hf2⟩ := h2
  obtain ⟨l2, hk2, w2⟩ := ((RFnExactReplaceHost.Opn.slice Try.underlying59 (by kernel_rfl) (RFnExactReplaceHost.Opn.int Try.underlying3 (by kernel_rfl))) : RFnExactReplaceHost.Opn.Opn Try.prog (Kd.slice 3 (Kd.int .i64)) 59 _).get hf2
  obtain ⟨A2, c2, e2, hc2, hr2⟩ := hk2
  obtain ⟨rfl, rfl, rfl⟩ : A2 = aa2 ∧ l2.length = ll2 ∧ c2 = cc2 := by have h_ := e2; simp [Value.cells] at h_; exact ⟨h_.1.symm, h_.2.1.symm, h_.2.2.symm⟩
  clear hA0 hval0 hsz0
  refine (RFnExactReplaceHost.walk Pure.FnExactReplaceHost (l0 := l0) (a1 := a1) (l2 := l2) (A0 := A0) (c0 := c0) (hr0 := hr0) (hc0 := hc0) (A2 := A2) (c2 := c2) (hr2 := hr2) (hc2 := hc2) (w0 := w0) (w1 := w1) (w2 := w2) (w := W)).mono fun e W' ⟨he, bel⟩ => ?_
  subst he
  exact ⟨_, rfl, _, _, _, [], _, [], hW', trodAll_mk1 (shut_bool Try.underlying4 _), (trodAll_cons_mk (Below.trod laidOut (by kernel_rfl) (of_decide_eq_true (by kernel_rfl)) k0 bel lt0) (trodAll_cons_mk (shut_int Try.underlying3 w1) (trodAll_cons_mk (Below.trod laidOut (by kernel_rfl) (of_decide_eq_true (by kernel_rfl)) k2 bel lt2) trodAll_mk0))), rfl, bel.frame _, fun h => by cases h⟩
theorem over : Rows.fnExactReplaceHostRow.holds Try.pinned (OpenSpec.ofChange Rows.fnExactReplaceHostSpec) :=
  OpenClaim.holds_of_wide 13 Try.f13 rfl rfl rfl rfl rfl rfl rfl ⟨rfl, rfl, rfl, rfl, rfl⟩ rfl rfl rfl rfl rfl (by kernel_rfl) Try.func13 (by kernel_rfl)
    (of_decide_eq_true (by kernel_rfl)) (by unfold Func.isWrapper; first | (rw [if_pos (by decide +kernel)]; kernel_rfl) | (rw [if_neg (by decide +kernel)]; exact ⟨rfl, rfl⟩))
    (fun os started H enc _ => lifted os started H enc)
theorem proved : Rows.FnExactReplaceHostSaid := over
end Go.Proofs.Ytjngmadmdkkcmaa.fnExactReplaceHost
namespace Go.Proofs.Ytjngmadmdkkcmaa
/-- The row, under a short name, for the claim. -/
theorem fnExactReplaceHost_holds : Rows.FnExactReplaceHostSaid := fnExactReplaceHost.proved
end Go.Proofs.Ytjngmadmdkkcmaa
