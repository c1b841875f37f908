/- The law FnExactResetGuesses returns true for every input, and its arguments read as before: out of its pure statement and the walk. No condition beyond the statement's own. -/
import Derived.Test.YtjngmadmdkkcmaaRows
import Derived.Test.YtjngmadmdkkcmaaRFnExactResetGuesses
import Derived.Test.YtjngmadmdkkcmaaPureFnExactResetGuesses
import Derived.WalkKit
import Derived.ProofKit
import Derived.OpenShut
import Derived.ShutString
import Derived.ChangeOld
import Derived.Below
import Derived.SizedLaws
import Derived.Carry
set_option linter.unusedVariables false
namespace Go.Proofs.Ytjngmadmdkkcmaa.fnExactResetGuesses
open Go.ChangeShapes Go.WideShapes Go.ChangeAt Go.RowKit Go.Proofs.Ytjngmadmdkkcmaa.RFnExactResetGuesses Go.Proofs.Ytjngmadmdkkcmaa.PFnExactResetGuesses Go.Proofs.YtjngmadmdkkcmaaW.PrintWords
open Go.ChangeMaps (open_string shut_string)
theorem own : ownKnob Try.prog.godebug = none := by kernel_rfl
theorem laidOut : laidOutB Try.prog = true := by kernel_rfl
set_option maxRecDepth 100000 in
theorem lifted (os : Os) (started : os.Started) (H : Type) (enc : TypeId × Value → H) :
    ReturnsInHanded {} Try.checked os 6 .any (Rows.fnExactResetGuessesSpec.pre6 enc Try.prog Try.f6 Rows.fnExactResetGuessesRow.domain false) (Rows.fnExactResetGuessesSpec.post enc Try.prog Try.f6 false true false false) := by
  refine returnsInHanded_of_change_sized (C := Try.checked) own started (by kernel_rfl) Try.func6
    (ChangeSpec.witness6 (enc := enc) (C := Try.checked) false ⟨#[], #[.agg #[.int .i64 0, .int .i64 0, .int .i64 0, .int .i64 0, .int .i64 0, .slice none 0 0, .int .i64 0], .agg #[.int .i64 0, .int .i64 0]], []⟩ 8 (by kernel_rfl) (by kernel_rfl) (by kernel_rfl) (by kernel_rfl)) ?_
  intro W base args ds gs before hval0 hW hcnd hsz0 _
  have hval : ∀ (j : Nat) t v, Try.f6.params[j]? = some t → args[j]? = some v → Value.okWide Try.prog W .any base t v := hval0
  have hW' := hW
  obtain ⟨p, q, hA0, hV, rfl, hfz, hnd⟩ := hW
  have hA : DataW.TrodAll enc Try.prog W 0 (fun _ => true) true Try.f6.params.toList args.toList ds p := hA0
  rw [Try.params6] at hA hval
  obtain ⟨v0, vs0, d0, ds0, p0, q0, hargs, rfl, rfl, h0, r0⟩ := trodAll_cons hA
  obtain ⟨v1, vs1, d1, ds1, p1, q1, rfl, rfl, rfl, h1, r1⟩ := trodAll_cons r0
  obtain ⟨rfl, rfl, rfl⟩ := trodAll_nil r1
  obtain rfl : args = #[v0, v1] := by cases args; simp_all
  obtain ⟨rfl, rfl⟩ := trodVars_none hV
  have k0 := h0
  have lt0 : ∀ x ∈ p0, x.block < W.heap.size := by obtain ⟨m, hm⟩ := k0; exact DataW.trod_lt m _ _ _ hm
  obtain ⟨b0, rfl, z0⟩ := okWide_struct Try.underlying50 (hval 0 50 v0 rfl rfl)
  obtain ⟨fuel0, hf0⟩ := h0
  obtain ⟨y0, hk0, ho0⟩ := (RFnExactResetGuesses.Opn.struct Try.underlying50 (by kernel_rfl) (RFnExactResetGuesses.Opn.line_cons (RFnExactResetGuesses.Opn.struct Try.underlying44 (by kernel_rfl) (RFnExactResetGuesses.Opn.line_cons (RFnExactResetGuesses.Opn.struct Try.underlying42 (by kernel_rfl) (RFnExactResetGuesses.Opn.line_cons (RFnExactResetGuesses.Opn.int Try.underlying3 (by kernel_rfl)) rfl (RFnExactResetGuesses.Opn.line_one (RFnExactResetGuesses.Opn.int Try.underlying3 (by kernel_rfl)) rfl))) rfl (RFnExactResetGuesses.Opn.line_cons (RFnExactResetGuesses.Opn.int Try.underlying3 (by kernel_rfl)) rfl (RFnExactResetGuesses.Opn.line_cons (RFnExactResetGuesses.Opn.int Try.underlying3 (by kernel_rfl)) rfl (RFnExactResetGuesses.Opn.line_one (RFnExactResetGuesses.Opn.int Try.underlying3 (by kernel_rfl)) rfl))))) rfl (RFnExactResetGuesses.Opn.line_cons (RFnExactResetGuesses.Opn.slice Try.underlying48 (by kernel_rfl) o44) rfl (RFnExactResetGuesses.Opn.line_one (RFnExactResetGuesses.Opn.int Try.underlying3 (by kernel_rfl)) rfl))) : RFnExactResetGuesses.Opn.Opn Try.prog (Kd.pair (Kd.pair (Kd.pair (Kd.int .i64) (Kd.int .i64)) (Kd.pair (Kd.int .i64) (Kd.pair (Kd.int .i64) (Kd.int .i64)))) (Kd.pair (Kd.slice 44 k44) (Kd.int .i64))) 50 _).get hf0
  obtain ⟨⟨⟨a0_0, a0_1⟩, ⟨a0_2, ⟨a0_3, a0_4⟩⟩⟩, ⟨l0_5, a0_6⟩⟩ := y0
  replace hk0 : Kd.K (Kd.pair (Kd.pair (Kd.pair (Kd.int .i64) (Kd.int .i64)) (Kd.pair (Kd.int .i64) (Kd.pair (Kd.int .i64) (Kd.int .i64)))) (Kd.pair (Kd.slice 44 k44) (Kd.int .i64))) W _ b0.toList := hk0
  obtain ⟨cs0, e0, hk0⟩ : ∃ cs, cs = b0.toList ∧ Kd.K (Kd.pair (Kd.pair (Kd.pair (Kd.int .i64) (Kd.int .i64)) (Kd.pair (Kd.int .i64) (Kd.pair (Kd.int .i64) (Kd.int .i64)))) (Kd.pair (Kd.slice 44 k44) (Kd.int .i64))) W _ cs := ⟨_, rfl, hk0⟩
  obtain ⟨_, _, rfl, ⟨_, _, rfl, ⟨_, _, rfl, rfl, rfl⟩, ⟨_, _, rfl, rfl, ⟨_, _, rfl, rfl, rfl⟩⟩⟩, ⟨_, _, rfl, ⟨A0_5, c0_5, rfl, hc0_5, hr0_5⟩, rfl⟩⟩ := hk0
  obtain ⟨⟨⟨w0_0, w0_1⟩, ⟨w0_2, ⟨w0_3, w0_4⟩⟩⟩, ⟨w0_5, w0_6⟩⟩ := ho0
  obtain rfl : b0 = #[.int .i64 a0_0, .int .i64 a0_1, .int .i64 a0_2, .int .i64 a0_3, .int .i64 a0_4, .slice A0_5 l0_5.length c0_5, .int .i64 a0_6] := by cases b0; simpa using e0.symm
  have k1 := h1
  have lt1 : ∀ x ∈ p1, x.block < W.heap.size := by obtain ⟨m, hm⟩ := k1; exact DataW.trod_lt m _ _ _ hm
  obtain ⟨b1, rfl, z1⟩ := okWide_struct Try.underlying42 (hval 1 42 v1 rfl rfl)
  obtain ⟨fuel1, hf1⟩ := h1
  obtain ⟨y1, hk1, ho1⟩ := (RFnExactResetGuesses.Opn.struct Try.underlying42 (by kernel_rfl) (RFnExactResetGuesses.Opn.line_cons (RFnExactResetGuesses.Opn.int Try.underlying3 (by kernel_rfl)) rfl (RFnExactResetGuesses.Opn.line_one (RFnExactResetGuesses.Opn.int Try.underlying3 (by kernel_rfl)) rfl)) : RFnExactResetGuesses.Opn.Opn Try.prog (Kd.pair (Kd.int .i64) (Kd.int .i64)) 42 _).get hf1
  obtain ⟨a1_0, a1_1⟩ := y1
  replace hk1 : Kd.K (Kd.pair (Kd.int .i64) (Kd.int .i64)) W _ b1.toList := hk1
  obtain ⟨cs1, e1, hk1⟩ : ∃ cs, cs = b1.toList ∧ Kd.K (Kd.pair (Kd.int .i64) (Kd.int .i64)) W _ cs := ⟨_, rfl, hk1⟩
  obtain ⟨_, _, rfl, rfl, rfl⟩ := hk1
  obtain ⟨w1_0, w1_1⟩ := ho1
  obtain rfl : b1 = #[.int .i64 a1_0, .int .i64 a1_1] := by cases b1; simpa using e1.symm
  clear hA0 hval0 hsz0
  refine (RFnExactResetGuesses.walk Pure.FnExactResetGuesses (a0_0 := a0_0) (a0_1 := a0_1) (a0_2 := a0_2) (a0_3 := a0_3) (a0_4 := a0_4) (l0_5 := l0_5) (a0_6 := a0_6) (a1_0 := a1_0) (a1_1 := a1_1) (A0_5 := A0_5) (c0_5 := c0_5) (hr0_5 := hr0_5) (hc0_5 := hc0_5) (w0_0 := w0_0) (w0_1 := w0_1) (w0_2 := w0_2) (w0_3 := w0_3) (w0_4 := w0_4) (w0_5 := w0_5) (w0_6 := w0_6) (w1_0 := w1_0) (w1_1 := w1_1) (w := W)).mono fun e W' ⟨he, bel⟩ => ?_
  subst he
  exact ⟨_, rfl, _, _, _, [], _, [], hW', trodAll_mk1 (shut_bool Try.underlying4 _), (trodAll_cons_mk (Below.trod laidOut (by kernel_rfl) (of_decide_eq_true (by kernel_rfl)) k0 bel lt0) (trodAll_cons_mk (Below.trod laidOut (by kernel_rfl) (of_decide_eq_true (by kernel_rfl)) k1 bel lt1) trodAll_mk0)), rfl, bel.frame _, fun h => by cases h⟩
theorem over : Rows.fnExactResetGuessesRow.holds Try.pinned (OpenSpec.ofChange Rows.fnExactResetGuessesSpec) :=
  OpenClaim.holds_of_wide 6 Try.f6 rfl rfl rfl rfl rfl rfl rfl ⟨rfl, rfl, rfl, rfl, rfl⟩ rfl rfl rfl rfl rfl (by kernel_rfl) Try.func6 (by kernel_rfl)
    (of_decide_eq_true (by kernel_rfl)) (by unfold Func.isWrapper; first | (rw [if_pos (by decide +kernel)]; kernel_rfl) | (rw [if_neg (by decide +kernel)]; exact ⟨rfl, rfl⟩))
    (fun os started H enc _ => lifted os started H enc)
theorem proved : Rows.FnExactResetGuessesSaid := over
end Go.Proofs.Ytjngmadmdkkcmaa.fnExactResetGuesses
namespace Go.Proofs.Ytjngmadmdkkcmaa
/-- The row, under a short name, for the claim. -/
theorem fnExactResetGuesses_holds : Rows.FnExactResetGuessesSaid := fnExactResetGuesses.proved
end Go.Proofs.Ytjngmadmdkkcmaa
