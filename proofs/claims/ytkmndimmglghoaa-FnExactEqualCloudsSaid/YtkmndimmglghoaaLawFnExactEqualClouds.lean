/- The law FnExactEqualClouds returns true for every input, and its arguments read as before: out of its pure statement and the walk. No condition beyond the statement's own. -/
import Derived.Test.YtkmndimmglghoaaRows
import Derived.Test.YtkmndimmglghoaaRFnExactEqualClouds
import Derived.Test.YtkmndimmglghoaaPureFnExactEqualClouds
import Derived.WalkKit
import Derived.ProofKit
import Derived.OpenShut
import Derived.ShutString
import Derived.ChangeOld
import Derived.Below
import Derived.SizedLaws
import Derived.Carry
set_option linter.unusedVariables false
namespace Go.Proofs.Ytkmndimmglghoaa.fnExactEqualClouds
open Go.ChangeShapes Go.WideShapes Go.ChangeAt Go.RowKit Go.Proofs.Ytkmndimmglghoaa.RFnExactEqualClouds Go.Proofs.Ytkmndimmglghoaa.PFnExactEqualClouds Go.Proofs.YtkmndimmglghoaaW.PrintWords
open Go.ChangeMaps (open_string shut_string)
theorem own : ownKnob Try.prog.godebug = none := by kernel_rfl
theorem laidOut : laidOutB Try.prog = true := by kernel_rfl
set_option maxRecDepth 100000 in
theorem lifted (os : Os) (started : os.Started) (H : Type) (enc : TypeId × Value → H) :
    ReturnsInHanded {} Try.checked os 5 .any (Rows.fnExactEqualCloudsSpec.pre6 enc Try.prog Try.f5 Rows.fnExactEqualCloudsRow.domain false) (Rows.fnExactEqualCloudsSpec.post enc Try.prog Try.f5 false true false false) := by
  refine returnsInHanded_of_change_sized (C := Try.checked) own started (by kernel_rfl) Try.func5
    (ChangeSpec.witness6 (enc := enc) (C := Try.checked) false ⟨#[], #[.agg #[.slice none 0 0, .int .i64 0, .slice none 0 0, .slice none 0 0], .agg #[.slice none 0 0, .int .i64 0, .slice none 0 0, .slice none 0 0]], []⟩ 8 (by kernel_rfl) (by kernel_rfl) (by kernel_rfl) (by kernel_rfl)) ?_
  intro W base args ds gs before hval0 hW hcnd hsz0 _
  have hval : ∀ (j : Nat) t v, Try.f5.params[j]? = some t → args[j]? = some v → Value.okWide Try.prog W .any base t v := hval0
  have hW' := hW
  obtain ⟨p, q, hA0, hV, rfl, hfz, hnd⟩ := hW
  have hA : DataW.TrodAll enc Try.prog W 0 (fun _ => true) true Try.f5.params.toList args.toList ds p := hA0
  rw [Try.params5] at hA hval
  obtain ⟨v0, vs0, d0, ds0, p0, q0, hargs, rfl, rfl, h0, r0⟩ := trodAll_cons hA
  obtain ⟨v1, vs1, d1, ds1, p1, q1, rfl, rfl, rfl, h1, r1⟩ := trodAll_cons r0
  obtain ⟨rfl, rfl, rfl⟩ := trodAll_nil r1
  obtain rfl : args = #[v0, v1] := by cases args; simp_all
  obtain ⟨rfl, rfl⟩ := trodVars_none hV
  have k0 := h0
  have lt0 : ∀ x ∈ p0, x.block < W.heap.size := by obtain ⟨m, hm⟩ := k0; exact DataW.trod_lt m _ _ _ hm
  obtain ⟨b0, rfl, z0⟩ := okWide_struct Try.underlying57 (hval 0 57 v0 rfl rfl)
  obtain ⟨fuel0, hf0⟩ := h0
  obtain ⟨y0, hk0, ho0⟩ := (RFnExactEqualClouds.Opn.struct Try.underlying57 (by kernel_rfl) (RFnExactEqualClouds.Opn.line_cons (RFnExactEqualClouds.Opn.slice Try.underlying24 (by kernel_rfl) o116) rfl (RFnExactEqualClouds.Opn.line_cons (RFnExactEqualClouds.Opn.struct Try.underlying43 (by kernel_rfl) (RFnExactEqualClouds.Opn.line_cons (RFnExactEqualClouds.Opn.int Try.underlying3 (by kernel_rfl)) rfl (RFnExactEqualClouds.Opn.line_one (RFnExactEqualClouds.Opn.slice Try.underlying41 (by kernel_rfl) o159) rfl))) rfl (RFnExactEqualClouds.Opn.line_one (RFnExactEqualClouds.Opn.slice Try.underlying55 (by kernel_rfl) o85) rfl))) : RFnExactEqualClouds.Opn.Opn Try.prog (Kd.pair (Kd.slice 116 k116) (Kd.pair (Kd.pair (Kd.int .i64) (Kd.slice 159 k159)) (Kd.slice 85 k85))) 57 _).get hf0
  obtain ⟨l0_0, ⟨⟨a0_1, l0_2⟩, l0_3⟩⟩ := y0
  replace hk0 : Kd.K (Kd.pair (Kd.slice 116 k116) (Kd.pair (Kd.pair (Kd.int .i64) (Kd.slice 159 k159)) (Kd.slice 85 k85))) W _ b0.toList := hk0
  obtain ⟨cs0, e0, hk0⟩ : ∃ cs, cs = b0.toList ∧ Kd.K (Kd.pair (Kd.slice 116 k116) (Kd.pair (Kd.pair (Kd.int .i64) (Kd.slice 159 k159)) (Kd.slice 85 k85))) W _ cs := ⟨_, rfl, hk0⟩
  obtain ⟨_, _, rfl, ⟨A0_0, c0_0, rfl, hc0_0, hr0_0⟩, ⟨_, _, rfl, ⟨_, _, rfl, rfl, ⟨A0_2, c0_2, rfl, hc0_2, hr0_2⟩⟩, ⟨A0_3, c0_3, rfl, hc0_3, hr0_3⟩⟩⟩ := hk0
  obtain ⟨w0_0, ⟨⟨w0_1, w0_2⟩, w0_3⟩⟩ := ho0
  obtain rfl : b0 = #[.slice A0_0 l0_0.length c0_0, .int .i64 a0_1, .slice A0_2 l0_2.length c0_2, .slice A0_3 l0_3.length c0_3] := by cases b0; simpa using e0.symm
  have k1 := h1
  have lt1 : ∀ x ∈ p1, x.block < W.heap.size := by obtain ⟨m, hm⟩ := k1; exact DataW.trod_lt m _ _ _ hm
  obtain ⟨b1, rfl, z1⟩ := okWide_struct Try.underlying57 (hval 1 57 v1 rfl rfl)
  obtain ⟨fuel1, hf1⟩ := h1
  obtain ⟨y1, hk1, ho1⟩ := (RFnExactEqualClouds.Opn.struct Try.underlying57 (by kernel_rfl) (RFnExactEqualClouds.Opn.line_cons (RFnExactEqualClouds.Opn.slice Try.underlying24 (by kernel_rfl) o116) rfl (RFnExactEqualClouds.Opn.line_cons (RFnExactEqualClouds.Opn.struct Try.underlying43 (by kernel_rfl) (RFnExactEqualClouds.Opn.line_cons (RFnExactEqualClouds.Opn.int Try.underlying3 (by kernel_rfl)) rfl (RFnExactEqualClouds.Opn.line_one (RFnExactEqualClouds.Opn.slice Try.underlying41 (by kernel_rfl) o159) rfl))) rfl (RFnExactEqualClouds.Opn.line_one (RFnExactEqualClouds.Opn.slice Try.underlying55 (by kernel_rfl) o85) rfl))) : RFnExactEqualClouds.Opn.Opn Try.prog (Kd.pair (Kd.slice 116 k116) (Kd.pair (Kd.pair (Kd.int .i64) (Kd.slice 159 k159)) (Kd.slice 85 k85))) 57 _).get hf1
  obtain ⟨l1_0, ⟨⟨a1_1, l1_2⟩, l1_3⟩⟩ := y1
  replace hk1 : Kd.K (Kd.pair (Kd.slice 116 k116) (Kd.pair (Kd.pair (Kd.int .i64) (Kd.slice 159 k159)) (Kd.slice 85 k85))) W _ b1.toList := hk1
  obtain ⟨cs1, e1, hk1⟩ : ∃ cs, cs = b1.toList ∧ Kd.K (Kd.pair (Kd.slice 116 k116) (Kd.pair (Kd.pair (Kd.int .i64) (Kd.slice 159 k159)) (Kd.slice 85 k85))) W _ cs := ⟨_, rfl, hk1⟩
  obtain ⟨_, _, rfl, ⟨A1_0, c1_0, rfl, hc1_0, hr1_0⟩, ⟨_, _, rfl, ⟨_, _, rfl, rfl, ⟨A1_2, c1_2, rfl, hc1_2, hr1_2⟩⟩, ⟨A1_3, c1_3, rfl, hc1_3, hr1_3⟩⟩⟩ := hk1
  obtain ⟨w1_0, ⟨⟨w1_1, w1_2⟩, w1_3⟩⟩ := ho1
  obtain rfl : b1 = #[.slice A1_0 l1_0.length c1_0, .int .i64 a1_1, .slice A1_2 l1_2.length c1_2, .slice A1_3 l1_3.length c1_3] := by cases b1; simpa using e1.symm
  clear hA0 hval0 hsz0
  refine (RFnExactEqualClouds.walk Pure.FnExactEqualClouds (l0_0 := l0_0) (a0_1 := a0_1) (l0_2 := l0_2) (l0_3 := l0_3) (l1_0 := l1_0) (a1_1 := a1_1) (l1_2 := l1_2) (l1_3 := l1_3) (A0_0 := A0_0) (c0_0 := c0_0) (hr0_0 := hr0_0) (hc0_0 := hc0_0) (A0_2 := A0_2) (c0_2 := c0_2) (hr0_2 := hr0_2) (hc0_2 := hc0_2) (A0_3 := A0_3) (c0_3 := c0_3) (hr0_3 := hr0_3) (hc0_3 := hc0_3) (A1_0 := A1_0) (c1_0 := c1_0) (hr1_0 := hr1_0) (hc1_0 := hc1_0) (A1_2 := A1_2) (c1_2 := c1_2) (hr1_2 := hr1_2) (hc1_2 := hc1_2) (A1_3 := A1_3) (c1_3 := c1_3) (hr1_3 := hr1_3) (hc1_3 := hc1_3) (w0_0 := w0_0) (w0_1 := w0_1) (w0_2 := w0_2) (w0_3 := w0_3) (w1_0 := w1_0) (w1_1 := w1_1) (w1_2 := w1_2) (w1_3 := w1_3) (w := W)).mono fun e W' ⟨he, bel⟩ => ?_
  subst he
  exact ⟨_, rfl, _, _, _, [], _, [], hW', trodAll_mk1 (shut_bool Try.underlying4 _), (trodAll_cons_mk (Below.trod laidOut (by kernel_rfl) (of_decide_eq_true (by kernel_rfl)) k0 bel lt0) (trodAll_cons_mk (Below.trod laidOut (by kernel_rfl) (of_decide_eq_true (by kernel_rfl)) k1 bel lt1) trodAll_mk0)), rfl, bel.frame _, fun h => by cases h⟩
theorem over : Rows.fnExactEqualCloudsRow.holds Try.pinned (OpenSpec.ofChange Rows.fnExactEqualCloudsSpec) :=
  OpenClaim.holds_of_wide 5 Try.f5 rfl rfl rfl rfl rfl rfl rfl ⟨rfl, rfl, rfl, rfl, rfl⟩ rfl rfl rfl rfl rfl (by kernel_rfl) Try.func5 (by kernel_rfl)
    (of_decide_eq_true (by kernel_rfl)) (by unfold Func.isWrapper; first | (rw [if_pos (by decide +kernel)]; kernel_rfl) | (rw [if_neg (by decide +kernel)]; exact ⟨rfl, rfl⟩))
    (fun os started H enc _ => lifted os started H enc)
theorem proved : Rows.FnExactEqualCloudsSaid := over
end Go.Proofs.Ytkmndimmglghoaa.fnExactEqualClouds
namespace Go.Proofs.Ytkmndimmglghoaa
/-- The row, under a short name, for the claim. -/
theorem fnExactEqualClouds_holds : Rows.FnExactEqualCloudsSaid := fnExactEqualClouds.proved
end Go.Proofs.Ytkmndimmglghoaa
