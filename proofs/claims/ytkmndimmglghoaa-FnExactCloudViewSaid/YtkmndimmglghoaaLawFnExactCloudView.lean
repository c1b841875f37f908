/- The law FnExactCloudView returns true for every input, and its arguments read as before: out of its pure statement and the walk. No condition beyond the statement's own. -/
import Derived.Test.YtkmndimmglghoaaRows
import Derived.Test.YtkmndimmglghoaaRFnExactCloudView
import Derived.Test.YtkmndimmglghoaaPureFnExactCloudView
import Derived.WalkKit
import Derived.ProofKit
import Derived.OpenShut
import Derived.ShutString
import Derived.ChangeOld
import Derived.Below
import Derived.SizedLaws
import Derived.Carry
set_option linter.unusedVariables false
namespace Go.Proofs.Ytkmndimmglghoaa.fnExactCloudView
open Go.ChangeShapes Go.WideShapes Go.ChangeAt Go.RowKit Go.Proofs.Ytkmndimmglghoaa.RFnExactCloudView Go.Proofs.Ytkmndimmglghoaa.PFnExactCloudView Go.Proofs.YtkmndimmglghoaaW.PrintWords
open Go.ChangeMaps (open_string shut_string)
theorem own : ownKnob Try.prog.godebug = none := by kernel_rfl
theorem laidOut : laidOutB Try.prog = true := by kernel_rfl
set_option maxRecDepth 100000 in
theorem lifted (os : Os) (started : os.Started) (H : Type) (enc : TypeId × Value → H) :
    ReturnsInHanded {} Try.checked os 9 .any (Rows.fnExactCloudViewSpec.pre6 enc Try.prog Try.f9 Rows.fnExactCloudViewRow.domain false) (Rows.fnExactCloudViewSpec.post enc Try.prog Try.f9 false true false false) := by
  refine returnsInHanded_of_change_sized (C := Try.checked) own started (by kernel_rfl) Try.func9
    (ChangeSpec.witness6 (enc := enc) (C := Try.checked) false ⟨#[], #[.agg #[.slice none 0 0, .int .i64 0, .slice none 0 0, .slice none 0 0]], []⟩ 8 (by kernel_rfl) (by kernel_rfl) (by kernel_rfl) (by kernel_rfl)) ?_
  intro W base args ds gs before hval0 hW hcnd hsz0 _
  have hval : ∀ (j : Nat) t v, Try.f9.params[j]? = some t → args[j]? = some v → Value.okWide Try.prog W .any base t v := hval0
  have hW' := hW
  obtain ⟨p, q, hA0, hV, rfl, hfz, hnd⟩ := hW
  have hA : DataW.TrodAll enc Try.prog W 0 (fun _ => true) true Try.f9.params.toList args.toList ds p := hA0
  rw [Try.params9] at hA hval
  obtain ⟨v0, vs0, d0, ds0, p0, q0, hargs, rfl, rfl, h0, r0⟩ := trodAll_cons hA
  obtain ⟨rfl, rfl, rfl⟩ := trodAll_nil r0
  obtain rfl : args = #[v0] := by cases args; simp_all
  obtain ⟨rfl, rfl⟩ := trodVars_none hV
  have k0 := h0
  have lt0 : ∀ x ∈ p0, x.block < W.heap.size := by obtain ⟨m, hm⟩ := k0; exact DataW.trod_lt m _ _ _ hm
  obtain ⟨b0, rfl, z0⟩ := okWide_struct Try.underlying57 (hval 0 57 v0 rfl rfl)
  obtain ⟨fuel0, hf0⟩ := h0
  obtain ⟨y0, hk0, ho0⟩ := (RFnExactCloudView.Opn.struct Try.underlying57 (by kernel_rfl) (RFnExactCloudView.Opn.line_cons (RFnExactCloudView.Opn.slice Try.underlying24 (by kernel_rfl) o116) rfl (RFnExactCloudView.Opn.line_cons (RFnExactCloudView.Opn.struct Try.underlying43 (by kernel_rfl) (RFnExactCloudView.Opn.line_cons (RFnExactCloudView.Opn.int Try.underlying3 (by kernel_rfl)) rfl (RFnExactCloudView.Opn.line_one (RFnExactCloudView.Opn.slice Try.underlying41 (by kernel_rfl) o159) rfl))) rfl (RFnExactCloudView.Opn.line_one (RFnExactCloudView.Opn.slice Try.underlying55 (by kernel_rfl) o85) rfl))) : RFnExactCloudView.Opn.Opn Try.prog (Kd.pair (Kd.slice 116 k116) (Kd.pair (Kd.pair (Kd.int .i64) (Kd.slice 159 k159)) (Kd.slice 85 k85))) 57 _).get hf0
  obtain ⟨l0_0, ⟨⟨a0_1, l0_2⟩, l0_3⟩⟩ := y0
  replace hk0 : Kd.K (Kd.pair (Kd.slice 116 k116) (Kd.pair (Kd.pair (Kd.int .i64) (Kd.slice 159 k159)) (Kd.slice 85 k85))) W _ b0.toList := hk0
  obtain ⟨cs0, e0, hk0⟩ : ∃ cs, cs = b0.toList ∧ Kd.K (Kd.pair (Kd.slice 116 k116) (Kd.pair (Kd.pair (Kd.int .i64) (Kd.slice 159 k159)) (Kd.slice 85 k85))) W _ cs := ⟨_, rfl, hk0⟩
  obtain ⟨_, _, rfl, ⟨A0_0, c0_0, rfl, hc0_0, hr0_0⟩, ⟨_, _, rfl, ⟨_, _, rfl, rfl, ⟨A0_2, c0_2, rfl, hc0_2, hr0_2⟩⟩, ⟨A0_3, c0_3, rfl, hc0_3, hr0_3⟩⟩⟩ := hk0
  obtain ⟨w0_0, ⟨⟨w0_1, w0_2⟩, w0_3⟩⟩ := ho0
  obtain rfl : b0 = #[.slice A0_0 l0_0.length c0_0, .int .i64 a0_1, .slice A0_2 l0_2.length c0_2, .slice A0_3 l0_3.length c0_3] := by cases b0; simpa using e0.symm
  clear hA0 hval0 hsz0
  refine (RFnExactCloudView.walk Pure.FnExactCloudView (l0_0 := l0_0) (a0_1 := a0_1) (l0_2 := l0_2) (l0_3 := l0_3) (A0_0 := A0_0) (c0_0 := c0_0) (hr0_0 := hr0_0) (hc0_0 := hc0_0) (A0_2 := A0_2) (c0_2 := c0_2) (hr0_2 := hr0_2) (hc0_2 := hc0_2) (A0_3 := A0_3) (c0_3 := c0_3) (hr0_3 := hr0_3) (hc0_3 := hc0_3) (w0_0 := w0_0) (w0_1 := w0_1) (w0_2 := w0_2) (w0_3 := w0_3) (w := W)).mono fun e W' ⟨he, bel⟩ => ?_
  subst he
  exact ⟨_, rfl, _, _, _, [], _, [], hW', trodAll_mk1 (shut_bool Try.underlying4 _), (trodAll_cons_mk (Below.trod laidOut (by kernel_rfl) (of_decide_eq_true (by kernel_rfl)) k0 bel lt0) trodAll_mk0), rfl, bel.frame _, fun h => by cases h⟩
theorem over : Rows.fnExactCloudViewRow.holds Try.pinned (OpenSpec.ofChange Rows.fnExactCloudViewSpec) :=
  OpenClaim.holds_of_wide 9 Try.f9 rfl rfl rfl rfl rfl rfl rfl ⟨rfl, rfl, rfl, rfl, rfl⟩ rfl rfl rfl rfl rfl (by kernel_rfl) Try.func9 (by kernel_rfl)
    (of_decide_eq_true (by kernel_rfl)) (by unfold Func.isWrapper; first | (rw [if_pos (by decide +kernel)]; kernel_rfl) | (rw [if_neg (by decide +kernel)]; exact ⟨rfl, rfl⟩))
    (fun os started H enc _ => lifted os started H enc)
theorem proved : Rows.FnExactCloudViewSaid := over
end Go.Proofs.Ytkmndimmglghoaa.fnExactCloudView
namespace Go.Proofs.Ytkmndimmglghoaa
/-- The row, under a short name, for the claim. -/
theorem fnExactCloudView_holds : Rows.FnExactCloudViewSaid := fnExactCloudView.proved
end Go.Proofs.Ytkmndimmglghoaa
