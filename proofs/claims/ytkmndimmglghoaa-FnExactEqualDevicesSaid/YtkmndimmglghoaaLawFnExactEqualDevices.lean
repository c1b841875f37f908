/- The law FnExactEqualDevices returns true for every input, and its arguments read as before: out of its pure statement and the walk. No condition beyond the statement's own. -/
import Derived.Test.YtkmndimmglghoaaRows
import Derived.Test.YtkmndimmglghoaaRFnExactEqualDevices
import Derived.Test.YtkmndimmglghoaaPureFnExactEqualDevices
import Derived.WalkKit
import Derived.ProofKit
import Derived.OpenShut
import Derived.ShutString
import Derived.ChangeOld
import Derived.Below
import Derived.SizedLaws
import Derived.Carry
set_option linter.unusedVariables false
namespace Go.Proofs.Ytkmndimmglghoaa.fnExactEqualDevices
open Go.ChangeShapes Go.WideShapes Go.ChangeAt Go.RowKit Go.Proofs.Ytkmndimmglghoaa.RFnExactEqualDevices Go.Proofs.Ytkmndimmglghoaa.PFnExactEqualDevices Go.Proofs.YtkmndimmglghoaaW.PrintWords
open Go.ChangeMaps (open_string shut_string)
theorem own : ownKnob Try.prog.godebug = none := by kernel_rfl
theorem laidOut : laidOutB Try.prog = true := by kernel_rfl
set_option maxRecDepth 100000 in
theorem lifted (os : Os) (started : os.Started) (H : Type) (enc : TypeId × Value → H) :
    ReturnsInHanded {} Try.checked os 3 .any (Rows.fnExactEqualDevicesSpec.pre6 enc Try.prog Try.f3 Rows.fnExactEqualDevicesRow.domain false) (Rows.fnExactEqualDevicesSpec.post enc Try.prog Try.f3 false true false false) := by
  refine returnsInHanded_of_change_sized (C := Try.checked) own started (by kernel_rfl) Try.func3
    (ChangeSpec.witness6 (enc := enc) (C := Try.checked) false ⟨#[], #[.agg #[.int .i64 0, .int .i64 0, .int .i64 0, .int .i64 0, .slice none 0 0, .int .i64 0, .int .i64 0, .int .i64 0, .slice none 0 0], .agg #[.int .i64 0, .int .i64 0, .int .i64 0, .int .i64 0, .slice none 0 0, .int .i64 0, .int .i64 0, .int .i64 0, .slice none 0 0]], []⟩ 8 (by kernel_rfl) (by kernel_rfl) (by kernel_rfl) (by kernel_rfl)) ?_
  intro W base args ds gs before hval0 hW hcnd hsz0 _
  have hval : ∀ (j : Nat) t v, Try.f3.params[j]? = some t → args[j]? = some v → Value.okWide Try.prog W .any base t v := hval0
  have hW' := hW
  obtain ⟨p, q, hA0, hV, rfl, hfz, hnd⟩ := hW
  have hA : DataW.TrodAll enc Try.prog W 0 (fun _ => true) true Try.f3.params.toList args.toList ds p := hA0
  rw [Try.params3] at hA hval
  obtain ⟨v0, vs0, d0, ds0, p0, q0, hargs, rfl, rfl, h0, r0⟩ := trodAll_cons hA
  obtain ⟨v1, vs1, d1, ds1, p1, q1, rfl, rfl, rfl, h1, r1⟩ := trodAll_cons r0
  obtain ⟨rfl, rfl, rfl⟩ := trodAll_nil r1
  obtain rfl : args = #[v0, v1] := by cases args; simp_all
  obtain ⟨rfl, rfl⟩ := trodVars_none hV
  have k0 := h0
  have lt0 : ∀ x ∈ p0, x.block < W.heap.size := by obtain ⟨m, hm⟩ := k0; exact DataW.trod_lt m _ _ _ hm
  obtain ⟨b0, rfl, z0⟩ := okWide_struct Try.underlying29 (hval 0 29 v0 rfl rfl)
  obtain ⟨fuel0, hf0⟩ := h0
  obtain ⟨y0, hk0, ho0⟩ := (RFnExactEqualDevices.Opn.struct Try.underlying29 (by kernel_rfl) (RFnExactEqualDevices.Opn.line_cons (RFnExactEqualDevices.Opn.struct Try.underlying23 (by kernel_rfl) (RFnExactEqualDevices.Opn.line_cons (RFnExactEqualDevices.Opn.int Try.underlying3 (by kernel_rfl)) rfl (RFnExactEqualDevices.Opn.line_cons (RFnExactEqualDevices.Opn.int Try.underlying3 (by kernel_rfl)) rfl (RFnExactEqualDevices.Opn.line_cons (RFnExactEqualDevices.Opn.int Try.underlying3 (by kernel_rfl)) rfl (RFnExactEqualDevices.Opn.line_one (RFnExactEqualDevices.Opn.int Try.underlying3 (by kernel_rfl)) rfl))))) rfl (RFnExactEqualDevices.Opn.line_cons (RFnExactEqualDevices.Opn.slice Try.underlying24 (by kernel_rfl) o116) rfl (RFnExactEqualDevices.Opn.line_cons (RFnExactEqualDevices.Opn.int Try.underlying3 (by kernel_rfl)) rfl (RFnExactEqualDevices.Opn.line_cons (RFnExactEqualDevices.Opn.int Try.underlying3 (by kernel_rfl)) rfl (RFnExactEqualDevices.Opn.line_cons (RFnExactEqualDevices.Opn.int Try.underlying3 (by kernel_rfl)) rfl (RFnExactEqualDevices.Opn.line_one (RFnExactEqualDevices.Opn.struct Try.underlying27 (by kernel_rfl) (RFnExactEqualDevices.Opn.line_one (RFnExactEqualDevices.Opn.slice Try.underlying25 (by kernel_rfl) o189) rfl)) rfl)))))) : RFnExactEqualDevices.Opn.Opn Try.prog (Kd.pair (Kd.pair (Kd.int .i64) (Kd.pair (Kd.int .i64) (Kd.pair (Kd.int .i64) (Kd.int .i64)))) (Kd.pair (Kd.slice 116 k116) (Kd.pair (Kd.int .i64) (Kd.pair (Kd.int .i64) (Kd.pair (Kd.int .i64) (Kd.slice 189 k189)))))) 29 _).get hf0
  obtain ⟨⟨a0_0, ⟨a0_1, ⟨a0_2, a0_3⟩⟩⟩, ⟨l0_4, ⟨a0_5, ⟨a0_6, ⟨a0_7, l0_8⟩⟩⟩⟩⟩ := y0
  replace hk0 : Kd.K (Kd.pair (Kd.pair (Kd.int .i64) (Kd.pair (Kd.int .i64) (Kd.pair (Kd.int .i64) (Kd.int .i64)))) (Kd.pair (Kd.slice 116 k116) (Kd.pair (Kd.int .i64) (Kd.pair (Kd.int .i64) (Kd.pair (Kd.int .i64) (Kd.slice 189 k189)))))) W _ b0.toList := hk0
  obtain ⟨cs0, e0, hk0⟩ : ∃ cs, cs = b0.toList ∧ Kd.K (Kd.pair (Kd.pair (Kd.int .i64) (Kd.pair (Kd.int .i64) (Kd.pair (Kd.int .i64) (Kd.int .i64)))) (Kd.pair (Kd.slice 116 k116) (Kd.pair (Kd.int .i64) (Kd.pair (Kd.int .i64) (Kd.pair (Kd.int .i64) (Kd.slice 189 k189)))))) W _ cs := ⟨_, rfl, hk0⟩
  obtain ⟨_, _, rfl, ⟨_, _, rfl, rfl, ⟨_, _, rfl, rfl, ⟨_, _, rfl, rfl, rfl⟩⟩⟩, ⟨_, _, rfl, ⟨A0_4, c0_4, rfl, hc0_4, hr0_4⟩, ⟨_, _, rfl, rfl, ⟨_, _, rfl, rfl, ⟨_, _, rfl, rfl, ⟨A0_8, c0_8, rfl, hc0_8, hr0_8⟩⟩⟩⟩⟩⟩ := hk0
  obtain ⟨⟨w0_0, ⟨w0_1, ⟨w0_2, w0_3⟩⟩⟩, ⟨w0_4, ⟨w0_5, ⟨w0_6, ⟨w0_7, w0_8⟩⟩⟩⟩⟩ := ho0
  obtain rfl : b0 = #[.int .i64 a0_0, .int .i64 a0_1, .int .i64 a0_2, .int .i64 a0_3, .slice A0_4 l0_4.length c0_4, .int .i64 a0_5, .int .i64 a0_6, .int .i64 a0_7, .slice A0_8 l0_8.length c0_8] := by cases b0; simpa using e0.symm
  have k1 := h1
  have lt1 : ∀ x ∈ p1, x.block < W.heap.size := by obtain ⟨m, hm⟩ := k1; exact DataW.trod_lt m _ _ _ hm
  obtain ⟨b1, rfl, z1⟩ := okWide_struct Try.underlying29 (hval 1 29 v1 rfl rfl)
  obtain ⟨fuel1, hf1⟩ := h1
  obtain ⟨y1, hk1, ho1⟩ := (RFnExactEqualDevices.Opn.struct Try.underlying29 (by kernel_rfl) (RFnExactEqualDevices.Opn.line_cons (RFnExactEqualDevices.Opn.struct Try.underlying23 (by kernel_rfl) (RFnExactEqualDevices.Opn.line_cons (RFnExactEqualDevices.Opn.int Try.underlying3 (by kernel_rfl)) rfl (RFnExactEqualDevices.Opn.line_cons (RFnExactEqualDevices.Opn.int Try.underlying3 (by kernel_rfl)) rfl (RFnExactEqualDevices.Opn.line_cons (RFnExactEqualDevices.Opn.int Try.underlying3 (by kernel_rfl)) rfl (RFnExactEqualDevices.Opn.line_one (RFnExactEqualDevices.Opn.int Try.underlying3 (by kernel_rfl)) rfl))))) rfl (RFnExactEqualDevices.Opn.line_cons (RFnExactEqualDevices.Opn.slice Try.underlying24 (by kernel_rfl) o116) rfl (RFnExactEqualDevices.Opn.line_cons (RFnExactEqualDevices.Opn.int Try.underlying3 (by kernel_rfl)) rfl (RFnExactEqualDevices.Opn.line_cons (RFnExactEqualDevices.Opn.int Try.underlying3 (by kernel_rfl)) rfl (RFnExactEqualDevices.Opn.line_cons (RFnExactEqualDevices.Opn.int Try.underlying3 (by kernel_rfl)) rfl (RFnExactEqualDevices.Opn.line_one (RFnExactEqualDevices.Opn.struct Try.underlying27 (by kernel_rfl) (RFnExactEqualDevices.Opn.line_one (RFnExactEqualDevices.Opn.slice Try.underlying25 (by kernel_rfl) o189) rfl)) rfl)))))) : RFnExactEqualDevices.Opn.Opn Try.prog (Kd.pair (Kd.pair (Kd.int .i64) (Kd.pair (Kd.int .i64) (Kd.pair (Kd.int .i64) (Kd.int .i64)))) (Kd.pair (Kd.slice 116 k116) (Kd.pair (Kd.int .i64) (Kd.pair (Kd.int .i64) (Kd.pair (Kd.int .i64) (Kd.slice 189 k189)))))) 29 _).get hf1
  obtain ⟨⟨a1_0, ⟨a1_1, ⟨a1_2, a1_3⟩⟩⟩, ⟨l1_4, ⟨a1_5, ⟨a1_6, ⟨a1_7, l1_8⟩⟩⟩⟩⟩ := y1
  replace hk1 : Kd.K (Kd.pair (Kd.pair (Kd.int .i64) (Kd.pair (Kd.int .i64) (Kd.pair (Kd.int .i64) (Kd.int .i64)))) (Kd.pair (Kd.slice 116 k116) (Kd.pair (Kd.int .i64) (Kd.pair (Kd.int .i64) (Kd.pair (Kd.int .i64) (Kd.slice 189 k189)))))) W _ b1.toList := hk1
  obtain ⟨cs1, e1, hk1⟩ : ∃ cs, cs = b1.toList ∧ Kd.K (Kd.pair (Kd.pair (Kd.int .i64) (Kd.pair (Kd.int .i64) (Kd.pair (Kd.int .i64) (Kd.int .i64)))) (Kd.pair (Kd.slice 116 k116) (Kd.pair (Kd.int .i64) (Kd.pair (Kd.int .i64) (Kd.pair (Kd.int .i64) (Kd.slice 189 k189)))))) W _ cs := ⟨_, rfl, hk1⟩
  obtain ⟨_, _, rfl, ⟨_, _, rfl, rfl, ⟨_, _, rfl, rfl, ⟨_, _, rfl, rfl, rfl⟩⟩⟩, ⟨_, _, rfl, ⟨A1_4, c1_4, rfl, hc1_4, hr1_4⟩, ⟨_, _, rfl, rfl, ⟨_, _, rfl, rfl, ⟨_, _, rfl, rfl, ⟨A1_8, c1_8, rfl, hc1_8, hr1_8⟩⟩⟩⟩⟩⟩ := hk1
  obtain ⟨⟨w1_0, ⟨w1_1, ⟨w1_2, w1_3⟩⟩⟩, ⟨w1_4, ⟨w1_5, ⟨w1_6, ⟨w1_7, w1_8⟩⟩⟩⟩⟩ := ho1
  obtain rfl : b1 = #[.int .i64 a1_0, .int .i64 a1_1, .int .i64 a1_2, .int .i64 a1_3, .slice A1_4 l1_4.length c1_4, .int .i64 a1_5, .int .i64 a1_6, .int .i64 a1_7, .slice A1_8 l1_8.length c1_8] := by cases b1; simpa using e1.symm
  clear hA0 hval0 hsz0
  refine (RFnExactEqualDevices.walk Pure.FnExactEqualDevices (a0_0 := a0_0) (a0_1 := a0_1) (a0_2 := a0_2) (a0_3 := a0_3) (l0_4 := l0_4) (a0_5 := a0_5) (a0_6 := a0_6) (a0_7 := a0_7) (l0_8 := l0_8) (a1_0 := a1_0) (a1_1 := a1_1) (a1_2 := a1_2) (a1_3 := a1_3) (l1_4 := l1_4) (a1_5 := a1_5) (a1_6 := a1_6) (a1_7 := a1_7) (l1_8 := l1_8) (A0_4 := A0_4) (c0_4 := c0_4) (hr0_4 := hr0_4) (hc0_4 := hc0_4) (A0_8 := A0_8) (c0_8 := c0_8) (hr0_8 := hr0_8) (hc0_8 := hc0_8) (A1_4 := A1_4) (c1_4 := c1_4) (hr1_4 := hr1_4) (hc1_4 := hc1_4) (A1_8 := A1_8) (c1_8 := c1_8) (hr1_8 := hr1_8) (hc1_8 := hc1_8) (w0_0 := w0_0) (w0_1 := w0_1) (w0_2 := w0_2) (w0_3 := w0_3) (w0_4 := w0_4) (w0_5 := w0_5) (w0_6 := w0_6) (w0_7 := w0_7) (w0_8 := w0_8) (w1_0 := w1_0) (w1_1 := w1_1) (w1_2 := w1_2) (w1_3 := w1_3) (w1_4 := w1_4) (w1_5 := w1_5) (w1_6 := w1_6) (w1_7 := w1_7) (w1_8 := w1_8) (w := W)).mono fun e W' ⟨he, bel⟩ => ?_
  subst he
  exact ⟨_, rfl, _, _, _, [], _, [], hW', trodAll_mk1 (shut_bool Try.underlying4 _), (trodAll_cons_mk (Below.trod laidOut (by kernel_rfl) (of_decide_eq_true (by kernel_rfl)) k0 bel lt0) (trodAll_cons_mk (Below.trod laidOut (by kernel_rfl) (of_decide_eq_true (by kernel_rfl)) k1 bel lt1) trodAll_mk0)), rfl, bel.frame _, fun h => by cases h⟩
theorem over : Rows.fnExactEqualDevicesRow.holds Try.pinned (OpenSpec.ofChange Rows.fnExactEqualDevicesSpec) :=
  OpenClaim.holds_of_wide 3 Try.f3 rfl rfl rfl rfl rfl rfl rfl ⟨rfl, rfl, rfl, rfl, rfl⟩ rfl rfl rfl rfl rfl (by kernel_rfl) Try.func3 (by kernel_rfl)
    (of_decide_eq_true (by kernel_rfl)) (by unfold Func.isWrapper; first | (rw [if_pos (by decide +kernel)]; kernel_rfl) | (rw [if_neg (by decide +kernel)]; exact ⟨rfl, rfl⟩))
    (fun os started H enc _ => lifted os started H enc)
theorem proved : Rows.FnExactEqualDevicesSaid := over
end Go.Proofs.Ytkmndimmglghoaa.fnExactEqualDevices
namespace Go.Proofs.Ytkmndimmglghoaa
/-- The row, under a short name, for the claim. -/
theorem fnExactEqualDevices_holds : Rows.FnExactEqualDevicesSaid := fnExactEqualDevices.proved
end Go.Proofs.Ytkmndimmglghoaa
