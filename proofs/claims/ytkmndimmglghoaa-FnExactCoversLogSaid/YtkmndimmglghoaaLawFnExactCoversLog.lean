/- The law FnExactCoversLog returns true for every input, and its arguments read as before: out of its pure statement and the walk. No condition beyond the statement's own. -/
import Derived.Test.YtkmndimmglghoaaRows
import Derived.Test.YtkmndimmglghoaaRFnExactCoversLog
import Derived.Test.YtkmndimmglghoaaPureFnExactCoversLog
import Derived.WalkKit
import Derived.ProofKit
import Derived.OpenShut
import Derived.ShutString
import Derived.ChangeOld
import Derived.Below
import Derived.SizedLaws
import Derived.Carry
set_option linter.unusedVariables false
namespace Go.Proofs.Ytkmndimmglghoaa.fnExactCoversLog
open Go.ChangeShapes Go.WideShapes Go.ChangeAt Go.RowKit Go.Proofs.Ytkmndimmglghoaa.RFnExactCoversLog Go.Proofs.Ytkmndimmglghoaa.PFnExactCoversLog Go.Proofs.YtkmndimmglghoaaW.PrintWords
open Go.ChangeMaps (open_string shut_string)
theorem own : ownKnob Try.prog.godebug = none := by kernel_rfl
theorem laidOut : laidOutB Try.prog = true := by kernel_rfl
set_option maxRecDepth 100000 in
theorem lifted (os : Os) (started : os.Started) (H : Type) (enc : TypeId × Value → H) :
    ReturnsInHanded {} Try.checked os 4 .any (Rows.fnExactCoversLogSpec.pre6 enc Try.prog Try.f4 Rows.fnExactCoversLogRow.domain false) (Rows.fnExactCoversLogSpec.post enc Try.prog Try.f4 false true false false) := by
  refine returnsInHanded_of_change_sized (C := Try.checked) own started (by kernel_rfl) Try.func4
    (ChangeSpec.witness6 (enc := enc) (C := Try.checked) false ⟨#[], #[.agg #[.int .i64 0, .slice none 0 0], .slice none 0 0], []⟩ 8 (by kernel_rfl) (by kernel_rfl) (by kernel_rfl) (by kernel_rfl)) ?_
  intro W base args ds gs before hval0 hW hcnd hsz0 _
  have hval : ∀ (j : Nat) t v, Try.f4.params[j]? = some t → args[j]? = some v → Value.okWide Try.prog W .any base t v := hval0
  have hW' := hW
  obtain ⟨p, q, hA0, hV, rfl, hfz, hnd⟩ := hW
  have hA : DataW.TrodAll enc Try.prog W 0 (fun _ => true) true Try.f4.params.toList args.toList ds p := hA0
  rw [Try.params4] at hA hval
  obtain ⟨v0, vs0, d0, ds0, p0, q0, hargs, rfl, rfl, h0, r0⟩ := trodAll_cons hA
  obtain ⟨v1, vs1, d1, ds1, p1, q1, rfl, rfl, rfl, h1, r1⟩ := trodAll_cons r0
  obtain ⟨rfl, rfl, rfl⟩ := trodAll_nil r1
  obtain rfl : args = #[v0, v1] := by cases args; simp_all
  obtain ⟨rfl, rfl⟩ := trodVars_none hV
  have k0 := h0
  have lt0 : ∀ x ∈ p0, x.block < W.heap.size := by obtain ⟨m, hm⟩ := k0; exact DataW.trod_lt m _ _ _ hm
  obtain ⟨b0, rfl, z0⟩ := okWide_struct Try.underlying43 (hval 0 43 v0 rfl rfl)
  obtain ⟨fuel0, hf0⟩ := h0
  obtain ⟨y0, hk0, ho0⟩ := (RFnExactCoversLog.Opn.struct Try.underlying43 (by kernel_rfl) (RFnExactCoversLog.Opn.line_cons (RFnExactCoversLog.Opn.int Try.underlying3 (by kernel_rfl)) rfl (RFnExactCoversLog.Opn.line_one (RFnExactCoversLog.Opn.slice Try.underlying41 (by kernel_rfl) o159) rfl)) : RFnExactCoversLog.Opn.Opn Try.prog (Kd.pair (Kd.int .i64) (Kd.slice 159 k159)) 43 _).get hf0
  obtain ⟨a0_0, l0_1⟩ := y0
  replace hk0 : Kd.K (Kd.pair (Kd.int .i64) (Kd.slice 159 k159)) W _ b0.toList := hk0
  obtain ⟨cs0, e0, hk0⟩ : ∃ cs, cs = b0.toList ∧ Kd.K (Kd.pair (Kd.int .i64) (Kd.slice 159 k159)) W _ cs := ⟨_, rfl, hk0⟩
  obtain ⟨_, _, rfl, rfl, ⟨A0_1, c0_1, rfl, hc0_1, hr0_1⟩⟩ := hk0
  obtain ⟨w0_0, w0_1⟩ := ho0
  obtain rfl : b0 = #[.int .i64 a0_0, .slice A0_1 l0_1.length c0_1] := by cases b0; simpa using e0.symm
  have k1 := h1
  have lt1 : ∀ x ∈ p1, x.block < W.heap.size := by obtain ⟨m, hm⟩ := k1; exact DataW.trod_lt m _ _ _ hm
  obtain ⟨aa1, ll1, cc1, rfl⟩ := okWide_slice Try.underlying24 (hval 1 24 v1 rfl rfl)
  obtain ⟨fuel1, hf1⟩ := h1
  obtain ⟨l1, hk1, w1⟩ := ((RFnExactCoversLog.Opn.slice Try.underlying24 (by kernel_rfl) o116) : RFnExactCoversLog.Opn.Opn Try.prog (Kd.slice 116 k116) 24 _).get hf1
  obtain ⟨A1, c1, e1, hc1, hr1⟩ := hk1
  obtain ⟨rfl, rfl, rfl⟩ : A1 = aa1 ∧ l1.length = ll1 ∧ c1 = cc1 := by have h_ := e1; simp [Value.cells] at h_; exact ⟨h_.1.symm, h_.2.1.symm, h_.2.2.symm⟩
  clear hA0 hval0 hsz0
  refine (RFnExactCoversLog.walk Pure.FnExactCoversLog (a0_0 := a0_0) (l0_1 := l0_1) (l1 := l1) (A0_1 := A0_1) (c0_1 := c0_1) (hr0_1 := hr0_1) (hc0_1 := hc0_1) (A1 := A1) (c1 := c1) (hr1 := hr1) (hc1 := hc1) (w0_0 := w0_0) (w0_1 := w0_1) (w1 := w1) (w := W)).mono fun e W' ⟨he, bel⟩ => ?_
  subst he
  exact ⟨_, rfl, _, _, _, [], _, [], hW', trodAll_mk1 (shut_bool Try.underlying4 _), (trodAll_cons_mk (Below.trod laidOut (by kernel_rfl) (of_decide_eq_true (by kernel_rfl)) k0 bel lt0) (trodAll_cons_mk (Below.trod laidOut (by kernel_rfl) (of_decide_eq_true (by kernel_rfl)) k1 bel lt1) trodAll_mk0)), rfl, bel.frame _, fun h => by cases h⟩
theorem over : Rows.fnExactCoversLogRow.holds Try.pinned (OpenSpec.ofChange Rows.fnExactCoversLogSpec) :=
  OpenClaim.holds_of_wide 4 Try.f4 rfl rfl rfl rfl rfl rfl rfl ⟨rfl, rfl, rfl, rfl, rfl⟩ rfl rfl rfl rfl rfl (by kernel_rfl) Try.func4 (by kernel_rfl)
    (of_decide_eq_true (by kernel_rfl)) (by unfold Func.isWrapper; first | (rw [if_pos (by decide +kernel)]; kernel_rfl) | (rw [if_neg (by decide +kernel)]; exact ⟨rfl, rfl⟩))
    (fun os started H enc _ => lifted os started H enc)
theorem proved : Rows.FnExactCoversLogSaid := over
end Go.Proofs.Ytkmndimmglghoaa.fnExactCoversLog
namespace Go.Proofs.Ytkmndimmglghoaa
/-- The row, under a short name, for the claim. -/
theorem fnExactCoversLog_holds : Rows.FnExactCoversLogSaid := fnExactCoversLog.proved
end Go.Proofs.Ytkmndimmglghoaa
