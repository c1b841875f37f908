/- What the printed functions of FnExactStartHost come to, in plain terms; no condition beyond those in each theorem. -/
import Derived.Test.YtaajgknmclpbiaaRFnExactStartHost
set_option linter.unusedVariables false
set_option linter.unusedSimpArgs false
namespace Go.Proofs.Ytaajgknmclpbiaa.QFnExactStartHost
open Go.RowKit Go.Proofs.Ytaajgknmclpbiaa.PFnExactStartHost Go.Proofs.YtaajgknmclpbiaaW.PrintWords Go.Proofs.YtaajgknmclpbiaaW.PrintLast Go.Proofs.Ytaajgknmclpbiaa.RFnExactStartHost
/-! ### evkit: steps for printed functions -/
namespace EvKit
theorem w64 {n : Int} (h0 : -9223372036854775808 ≤ n) (h1 : n ≤ 9223372036854775807) : wrap64 n = n := by unfold wrap64; omega
section
variable {α β : Type}
theorem ret {x r : α} (h : x = r) : Ev (fun _ => some x) r := ⟨0, fun _ _ => by rw [h]⟩
theorem eqv {x : Option α} {r : α} (h : x = some r) : Ev (fun _ => x) r := ⟨0, fun _ _ => h⟩
theorem itt {c : Prop} [Decidable c] {a b : Nat → Option α} {r : α} (hc : c) (h : Ev a r) : Ev (fun k => if c then a k else b k) r := Ev.congr (fun _ => if_pos hc) h
theorem itf {c : Prop} [Decidable c] {a b : Nat → Option α} {r : α} (hc : ¬ c) (h : Ev b r) : Ev (fun k => if c then a k else b k) r := Ev.congr (fun _ => if_neg hc) h
theorem ite {c : Prop} [Decidable c] {a b : Nat → Option α} {r : α} (h : c → Ev a r) (h' : ¬ c → Ev b r) : Ev (fun k => if c then a k else b k) r := by
  by_cases hc : c
  · exact itt hc (h hc)
  · exact itf hc (h' hc)
theorem now {x : α} {f : Nat → α → Option β} {r : β} (h : Ev (fun n => f n x) r) : Ev (fun n => (some x).bind (f n)) r := h
theorem bnd {x : Option α} {a : α} {f : Nat → α → Option β} {r : β} (hx : x = some a) (h : Ev (fun n => f n a) r) : Ev (fun n => x.bind (f n)) r := Ev.bind (eqv hx) h
theorem ev_to {g : Nat → Option α} {r q : α} (h : Ev g r) (e : r = q) : Ev g q := e ▸ h
end
end EvKit

namespace ListKit
theorem set_at {α : Type} (p : List α) (x y : α) (q : List α) : (p ++ x :: q).set (p.length : Int).toNat y = p ++ y :: q := by
  rw [Int.toNat_natCast, List.set_append_right _ _ (Nat.le_refl _), Nat.sub_self, List.set_cons_zero]
theorem shift {α : Type} (p : List α) (y : α) (q : List α) : p ++ y :: q = (p ++ [y]) ++ q := by simp
theorem w64w (a b : Int) : wrap64 (wrap64 a + b) = wrap64 (a + b) := by unfold wrap64; omega
end ListKit

/-! ### eqKeeperS: a list and itself -/
theorem laws_eqKeeper.refl (a0 a1 a2 a3 a4 : Int) : laws_eqKeeper.f a0 a1 a2 a3 a4 a0 a1 a2 a3 a4 = some true := by simp [laws_eqKeeper.f, laws_eqShare.f]
theorem laws_eqKeeperS.ev_l (l : List S52) (hl : l.length ≤ 9223372036854775806) : ∀ (d i : Nat), l.length - i = d → i ≤ l.length → Ev (fun k => laws_eqKeeperS.l0 k l l (i : Int)) true := by
  intro d
  induction d with
  | zero =>
    intro i hd hi
    refine Ev.step (fun k => by rw [laws_eqKeeperS.l0]) ?_
    exact EvKit.itf (by omega) (EvKit.ret rfl)
  | succ d ih =>
    intro i hd hi
    refine Ev.step (fun k => by rw [laws_eqKeeperS.l0]) ?_
    refine EvKit.itt (by omega) (EvKit.itt (by omega) (EvKit.itt (by omega) (EvKit.bnd (laws_eqKeeper.refl ..) (EvKit.itt rfl ?_))))
    rw [EvKit.w64 (n := (i : Int) + 1) (by omega) (by omega)]
    exact ih (i + 1) (by omega) (by omega)
theorem laws_eqKeeperS.ev (l : List S52) (hl : l.length ≤ 9223372036854775806) : Ev (fun k => laws_eqKeeperS.f k l l) true := by
  unfold laws_eqKeeperS.f
  exact EvKit.itt rfl (laws_eqKeeperS.ev_l l hl _ 0 rfl (by omega))

theorem laws_eqKeeperHost.ev (a b c d e : Int) (l : List S52) (m : Int) (hl : l.length ≤ 9223372036854775806) : Ev (fun k => laws_eqKeeperHost.f k a b c d e l m a b c d e l m) true := by
  unfold laws_eqKeeperHost.f
  exact EvKit.bnd (laws_eqKeeper.refl ..) (EvKit.itt rfl (Ev.bind (laws_eqKeeperS.ev l hl) (EvKit.itt rfl (EvKit.itt rfl (EvKit.ret rfl)))))

/-! ### markKeeperS and heldKeeperS -/
def markKeeperL : Int → List S52 → List S52
  | _, [] => []
  | v, _ :: l => (⟨(⟨v, v + 1⟩ : S50), v + 2, v + 3, v + 4⟩ : S52) :: markKeeperL (v + 5) l
theorem markKeeperL_len : ∀ (l : List S52) (v : Int), (markKeeperL v l).length = l.length
  | [], _ => rfl
  | _ :: l, v => by simp [markKeeperL, markKeeperL_len l]
theorem rd_T52_at (p : List S52) (x : S52) (q : List S52) : rd_T52 (p ++ x :: q) (p.length : Int) = x := by simp [rd_T52]
theorem laws_markKeeperS.ev_l : ∀ (q p : List S52) (v : Int) (i : Nat), i = p.length → 0 ≤ v → v + 5 * (q.length : Int) ≤ 4611686018427387904 → p.length + q.length ≤ 4611686018427387904 →
    Ev (fun k => laws_markKeeperS.l0 k (p ++ q) v (i : Int)) (v + 5 * (q.length : Int), p ++ markKeeperL v q) := by
  intro q
  induction q with
  | nil =>
    intro p v i hi h0 h1 h2
    subst hi
    refine Ev.step (fun k => by rw [laws_markKeeperS.l0]) ?_
    exact EvKit.itf (by simp) (EvKit.ret (by simp [markKeeperL]))
  | cons x q ih =>
    intro p v i hi h0 h1 h2
    subst hi
    simp only [List.length_cons] at h1 h2
    have e1 : wrap64 (v + 1) = v + 1 := EvKit.w64 (by omega) (by omega)
    have e2 : wrap64 (v + 2) = v + 2 := EvKit.w64 (by omega) (by omega)
    have e3 : wrap64 (v + 3) = v + 3 := EvKit.w64 (by omega) (by omega)
    have e4 : wrap64 (v + 4) = v + 4 := EvKit.w64 (by omega) (by omega)
    have e5 : wrap64 (v + 5) = v + 5 := EvKit.w64 (by omega) (by omega)
    have ep : wrap64 ((p.length : Int) + 1) = (p.length : Int) + 1 := EvKit.w64 (by omega) (by omega)
    refine Ev.step (fun k => by rw [laws_markKeeperS.l0]) ?_
    refine EvKit.itt (by simp only [List.length_append, List.length_cons]; omega) (EvKit.itt (by omega) ?_)
    simp only [Option.bind_some, ListKit.set_at, rd_T52_at, ListKit.w64w, Int.add_assoc, Int.reduceAdd, e1, e2, e3, e4, e5, ep]
    rw [ListKit.shift p _ q]
    refine EvKit.ev_to (ih (p ++ [_]) (v + 5) (p.length + 1) (by simp) (by omega) (by omega) (by simp only [List.length_append, List.length_cons, List.length_nil]; omega)) ?_
    simp only [markKeeperL, List.append_assoc, List.cons_append, List.nil_append, List.length_cons]
    refine Prod.ext ?_ rfl
    show v + 5 + 5 * (q.length : Int) = v + 5 * ((q.length + 1 : Nat) : Int)
    omega
theorem laws_markKeeperS.ev (l : List S52) (v : Int) (h0 : 0 ≤ v) (h1 : v + 5 * (l.length : Int) ≤ 4611686018427387904) : Ev (fun k => laws_markKeeperS.f k l v) (v + 5 * (l.length : Int), markKeeperL v l) := by
  unfold laws_markKeeperS.f
  exact laws_markKeeperS.ev_l l [] v 0 rfl h0 h1 (by simp; omega)
theorem laws_heldKeeperS.ev_l : ∀ (q p : List S52) (v : Int) (i : Nat), i = p.length → 0 ≤ v → v + 5 * (q.length : Int) ≤ 4611686018427387904 → p.length + q.length ≤ 4611686018427387904 →
    Ev (fun k => laws_heldKeeperS.l0 k (p ++ markKeeperL v q) v (i : Int)) (v + 5 * (q.length : Int)) := by
  intro q
  induction q with
  | nil =>
    intro p v i hi h0 h1 h2
    subst hi
    refine Ev.step (fun k => by rw [laws_heldKeeperS.l0]) ?_
    exact EvKit.itf (by simp [markKeeperL]) (EvKit.ret (by simp))
  | cons x q ih =>
    intro p v i hi h0 h1 h2
    subst hi
    simp only [List.length_cons] at h1 h2
    have e1 : wrap64 (v + 1) = v + 1 := EvKit.w64 (by omega) (by omega)
    have e2 : wrap64 (v + 2) = v + 2 := EvKit.w64 (by omega) (by omega)
    have e3 : wrap64 (v + 3) = v + 3 := EvKit.w64 (by omega) (by omega)
    have e4 : wrap64 (v + 4) = v + 4 := EvKit.w64 (by omega) (by omega)
    have e5 : wrap64 (v + 5) = v + 5 := EvKit.w64 (by omega) (by omega)
    have ep : wrap64 ((p.length : Int) + 1) = (p.length : Int) + 1 := EvKit.w64 (by omega) (by omega)
    simp only [markKeeperL]
    refine Ev.step (fun k => by rw [laws_heldKeeperS.l0]) ?_
    refine EvKit.itt (by simp only [List.length_append, List.length_cons]; omega) (EvKit.itt (by omega) ?_)
    simp only [rd_T52_at, ListKit.w64w, Int.add_assoc, Int.reduceAdd, e1, e2, e3, e4, e5, ep, bne_self_eq_false, Bool.false_eq_true, ↓reduceIte]
    rw [ListKit.shift p _ (markKeeperL (v + 5) q)]
    refine EvKit.ev_to (ih (p ++ [_]) (v + 5) (p.length + 1) (by simp) (by omega) (by omega) (by simp only [List.length_append, List.length_cons, List.length_nil]; omega)) ?_
    simp only [List.length_cons]
    omega
theorem laws_heldKeeperS.ev (l : List S52) (v : Int) (h0 : 0 ≤ v) (h1 : v + 5 * (l.length : Int) ≤ 4611686018427387904) : Ev (fun k => laws_heldKeeperS.f k (markKeeperL v l) v) (v + 5 * (l.length : Int)) := by
  unfold laws_heldKeeperS.f
  exact laws_heldKeeperS.ev_l l [] v 0 rfl h0 h1 (by simp; omega)

theorem laws_markKeeperHost.ev (a b c d e : Int) (l : List S52) (m v : Int) (h0 : 0 ≤ v) (h1 : v + 5 * (l.length : Int) ≤ 4611686018427387904) : Ev (fun k => laws_markKeeperHost.f k a b c d e l m v) (v + 5 * (l.length : Int), markKeeperL v l) := by
  unfold laws_markKeeperHost.f
  exact Ev.bind (laws_markKeeperS.ev l v h0 h1) (EvKit.ret rfl)
theorem laws_heldKeeperHost.ev (a b c d e : Int) (l : List S52) (m v : Int) (h0 : 0 ≤ v) (h1 : v + 5 * (l.length : Int) ≤ 4611686018427387904) : Ev (fun k => laws_heldKeeperHost.f k a b c d e (markKeeperL v l) m v) (v + 5 * (l.length : Int)) := by
  unfold laws_heldKeeperHost.f
  exact Ev.bind (laws_heldKeeperS.ev l v h0 h1) (EvKit.itf (by omega) (EvKit.ret rfl))

def markV (epoch guesses : Int) : Int := wrap64 (wrap64 (epoch * 1000) + guesses)
theorem spec_StartHost.eq (a b c d e : Int) : spec_StartHost.f a b c d e = some (a, b, c, d, e, [], markV c d) := rfl
theorem impl_StartHost.eq (a b c d e : Int) : impl_StartHost.f a b c d e = some (a, b, c, d, e, [], markV c d) := rfl

end Go.Proofs.Ytaajgknmclpbiaa.QFnExactStartHost
