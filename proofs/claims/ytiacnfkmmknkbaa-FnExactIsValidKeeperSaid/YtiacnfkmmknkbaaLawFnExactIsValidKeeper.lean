/- The law FnExactIsValidKeeper returns true for every input, and its arguments read as before: out of its pure statement and the walk. No condition beyond the statement's own. -/
import Derived.Test.YtiacnfkmmknkbaaRows
import Derived.Test.YtiacnfkmmknkbaaRFnExactIsValidKeeper
import Derived.Test.YtiacnfkmmknkbaaPureFnExactIsValidKeeper
import Derived.WalkKit
import Derived.ProofKit
import Derived.OpenShut
import Derived.ShutString
import Derived.ChangeOld
import Derived.Below
import Derived.SizedLaws
import Derived.Carry
set_option linter.unusedVariables false
namespace Go.Proofs.Ytiacnfkmmknkbaa.fnExactIsValidKeeper
open Go.ChangeShapes Go.WideShapes Go.ChangeAt Go.RowKit Go.Proofs.Ytiacnfkmmknkbaa.RFnExactIsValidKeeper Go.Proofs.Ytiacnfkmmknkbaa.PFnExactIsValidKeeper Go.Proofs.YtiacnfkmmknkbaaW.PrintWords
open Go.ChangeMaps (open_string shut_string)
theorem own : ownKnob Try.prog.godebug = none := by kernel_rfl
theorem laidOut : laidOutB Try.prog = true := by kernel_rfl
set_option maxRecDepth 100000 in
theorem lifted (os : Os) (started : os.Started) (H : Type) (enc : TypeId × Value → H) :
    ReturnsInHanded {} Try.checked os 7 .any (Rows.fnExactIsValidKeeperSpec.pre6 enc Try.prog Try.f7 Rows.fnExactIsValidKeeperRow.domain false) (Rows.fnExactIsValidKeeperSpec.post enc Try.prog Try.f7 false true false false) := by
  refine returnsInHanded_of_change_sized (C := Try.checked) own started (by kernel_rfl) Try.func7
    (ChangeSpec.witness6 (enc := enc) (C := Try.checked) false ⟨#[], #[.agg #[.int .i64 0, .int .i64 0, .int .i64 0, .int .i64 0, .int .i64 0]], []⟩ 8 (by kernel_rfl) (by kernel_rfl) (by kernel_rfl) (by kernel_rfl)) ?_
  intro W base args ds gs before hval0 hW hcnd hsz0 _
  have hval : ∀ (j : Nat) t v, Try.f7.params[j]? = some t → args[j]? = some v → Value.okWide Try.prog W .any base t v := hval0
  have hW' := hW
  obtain ⟨p, q, hA0, hV, rfl, hfz, hnd⟩ := hW
  have hA : DataW.TrodAll enc Try.prog W 0 (fun _ => true) true Try.f7.params.toList args.toList ds p := hA0
  rw [Try.params7] at hA hval
  obtain ⟨v0, vs0, d0, ds0, p0, q0, hargs, rfl, rfl, h0, r0⟩ := trodAll_cons hA
  obtain ⟨rfl, rfl, rfl⟩ := trodAll_nil r0
  obtain rfl : args = #[v0] := by cases args; simp_all
  obtain ⟨rfl, rfl⟩ := trodVars_none hV
  have k0 := h0
  have lt0 : ∀ x ∈ p0, x.block < W.heap.size := by obtain ⟨m, hm⟩ := k0; exact DataW.trod_lt m _ _ _ hm
  obtain ⟨b0, rfl, z0⟩ := okWide_struct Try.underlying35 (hval 0 35 v0 rfl rfl)
  obtain ⟨fuel0, hf0⟩ := h0
  obtain ⟨y0, hk0, ho0⟩ := (RFnExactIsValidKeeper.Opn.struct Try.underlying35 (by kernel_rfl) (RFnExactIsValidKeeper.Opn.line_cons (RFnExactIsValidKeeper.Opn.struct Try.underlying33 (by kernel_rfl) (RFnExactIsValidKeeper.Opn.line_cons (RFnExactIsValidKeeper.Opn.int Try.underlying3 (by kernel_rfl)) rfl (RFnExactIsValidKeeper.Opn.line_one (RFnExactIsValidKeeper.Opn.int Try.underlying3 (by kernel_rfl)) rfl))) rfl (RFnExactIsValidKeeper.Opn.line_cons (RFnExactIsValidKeeper.Opn.int Try.underlying3 (by kernel_rfl)) rfl (RFnExactIsValidKeeper.Opn.line_cons (RFnExactIsValidKeeper.Opn.int Try.underlying3 (by kernel_rfl)) rfl (RFnExactIsValidKeeper.Opn.line_one (RFnExactIsValidKeeper.Opn.int Try.underlying3 (by kernel_rfl)) rfl)))) : RFnExactIsValidKeeper.Opn.Opn Try.prog (Kd.pair (Kd.pair (Kd.int .i64) (Kd.int .i64)) (Kd.pair (Kd.int .i64) (Kd.pair (Kd.int .i64) (Kd.int .i64)))) 35 _).get hf0
  obtain ⟨⟨a0_0, a0_1⟩, ⟨a0_2, ⟨a0_3, a0_4⟩⟩⟩ := y0
  replace hk0 : Kd.K (Kd.pair (Kd.pair (Kd.int .i64) (Kd.int .i64)) (Kd.pair (Kd.int .i64) (Kd.pair (Kd.int .i64) (Kd.int .i64)))) W _ b0.toList := hk0
  obtain ⟨cs0, e0, hk0⟩ : ∃ cs, cs = b0.toList ∧ Kd.K (Kd.pair (Kd.pair (Kd.int .i64) (Kd.int .i64)) (Kd.pair (Kd.int .i64) (Kd.pair (Kd.int .i64) (Kd.int .i64)))) W _ cs := ⟨_, rfl, hk0⟩
  obtain ⟨_, _, rfl, ⟨_, _, rfl, rfl, rfl⟩, ⟨_, _, rfl, rfl, ⟨_, _, rfl, rfl, rfl⟩⟩⟩ := hk0
  obtain ⟨⟨w0_0, w0_1⟩, ⟨w0_2, ⟨w0_3, w0_4⟩⟩⟩ := ho0
  obtain rfl : b0 = #[.int .i64 a0_0, .int .i64 a0_1, .int .i64 a0_2, .int .i64 a0_3, .int .i64 a0_4] := by cases b0; simpa using e0.symm
  clear hA0 hval0 hsz0
  refine (RFnExactIsValidKeeper.walk Pure.FnExactIsValidKeeper (a0_0 := a0_0) (a0_1 := a0_1) (a0_2 := a0_2) (a0_3 := a0_3) (a0_4 := a0_4) (w0_0 := w0_0) (w0_1 := w0_1) (w0_2 := w0_2) (w0_3 := w0_3) (w0_4 := w0_4) (w := W)).mono fun e W' ⟨he, bel⟩ => ?_
  subst he
  exact ⟨_, rfl, _, _, _, [], _, [], hW', trodAll_mk1 (shut_bool Try.underlying4 _), (trodAll_cons_mk (Below.trod laidOut (by kernel_rfl) (of_decide_eq_true (by kernel_rfl)) k0 bel lt0) trodAll_mk0), rfl, bel.frame _, fun h => by cases h⟩
theorem over : Rows.fnExactIsValidKeeperRow.holds Try.pinned (OpenSpec.ofChange Rows.fnExactIsValidKeeperSpec) :=
  OpenClaim.holds_of_wide 7 Try.f7 rfl rfl rfl rfl rfl rfl rfl ⟨rfl, rfl, rfl, rfl, rfl⟩ rfl rfl rfl rfl rfl (by kernel_rfl) Try.func7 (by kernel_rfl)
    (of_decide_eq_true (by kernel_rfl)) (by unfold Func.isWrapper; first | (rw [if_pos (by decide +kernel)]; kernel_rfl) | (rw [if_neg (by decide +kernel)]; exact ⟨rfl, rfl⟩))
    (fun os started H enc _ => lifted os started H enc)
theorem proved : Rows.FnExactIsValidKeeperSaid := over
end Go.Proofs.Ytiacnfkmmknkbaa.fnExactIsValidKeeper
namespace Go.Proofs.Ytiacnfkmmknkbaa
/-- The row, under a short name, for the claim. -/
theorem fnExactIsValidKeeper_holds : Rows.FnExactIsValidKeeperSaid := fnExactIsValidKeeper.proved
end Go.Proofs.Ytiacnfkmmknkbaa
