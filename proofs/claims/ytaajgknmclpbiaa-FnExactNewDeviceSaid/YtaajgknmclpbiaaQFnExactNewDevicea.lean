/- What the printed functions of FnExactNewDevice come to, in plain terms; no condition beyond those in each theorem. -/
import Derived.Test.YtaajgknmclpbiaaRFnExactNewDevice
set_option linter.unusedVariables false
set_option linter.unusedSimpArgs false
namespace Go.Proofs.Ytaajgknmclpbiaa.QFnExactNewDevice
open Go.RowKit Go.Proofs.Ytaajgknmclpbiaa.PFnExactNewDevice Go.Proofs.YtaajgknmclpbiaaW.PrintWords Go.Proofs.YtaajgknmclpbiaaW.PrintLast Go.Proofs.Ytaajgknmclpbiaa.RFnExactNewDevice
/-! ### evkit: steps for printed functions -/
namespace EvKit
theorem w64 {n : Int} (h0 : -9223372036854775808 ≤ n) (h1 : n ≤ 9223372036854775807) : wrap64 n = n := by unfold wrap64; omega
section
variable {α β : Type}
theorem ret {x r : α} (h : x = r) : Ev (fun _ => some x) r := ⟨0, fun _ _ => by rw [h]⟩
theorem eqv {x : Option α} {r : α} (h : x = some r) : Ev (fun _ => x) r := ⟨0, fun _ _ => h⟩
theorem itt {c : Prop} [Decidable c] {a b : Nat → Option α} {r : α} (hc : c) (h : Ev a r) : Ev (fun k => if c then a k else b k) r := Ev.congr (fun _ => if_pos hc) h
theorem itf {c : Prop} [Decidable c] {a b : Nat → Option α} {r : α} (hc : ¬ c) (h : Ev b r) : Ev (fun k => if c then a k else b k) r := Ev.congr (fun _ => if_neg hc) h
theorem ite {c : Prop} [Decidable c] {a b : Nat → Option α} {r : α} (h : c → Ev a r) (h' : ¬ c → Ev b r) : Ev (fun k => if c then a k else b k) r := by
  by_cases hc : c
  · exact itt hc (h hc)
  · exact itf hc (h' hc)
theorem now {x : α} {f : Nat → α → Option β} {r : β} (h : Ev (fun n => f n x) r) : Ev (fun n => (some x).bind (f n)) r := h
theorem bnd {x : Option α} {a : α} {f : Nat → α → Option β} {r : β} (hx : x = some a) (h : Ev (fun n => f n a) r) : Ev (fun n => x.bind (f n)) r := Ev.bind (eqv hx) h
theorem ev_to {g : Nat → Option α} {r q : α} (h : Ev g r) (e : r = q) : Ev g q := e ▸ h
end
end EvKit

namespace ListKit
theorem set_at {α : Type} (p : List α) (x y : α) (q : List α) : (p ++ x :: q).set (p.length : Int).toNat y = p ++ y :: q := by
  rw [Int.toNat_natCast, List.set_append_right _ _ (Nat.le_refl _), Nat.sub_self, List.set_cons_zero]
theorem shift {α : Type} (p : List α) (y : α) (q : List α) : p ++ y :: q = (p ++ [y]) ++ q := by simp
theorem w64w (a b : Int) : wrap64 (wrap64 a + b) = wrap64 (a + b) := by unfold wrap64; omega
end ListKit

/-! ### eqLogEntryS: a list and itself -/
theorem laws_eqLogEntry.refl (a0 a1 a2 a3 a4 a5 : Int) : laws_eqLogEntry.f a0 a1 a2 a3 a4 a5 a0 a1 a2 a3 a4 a5 = some true := by simp [laws_eqLogEntry.f]
theorem laws_eqLogEntryS.ev_l (l : List S109) (hl : l.length ≤ 9223372036854775806) : ∀ (d i : Nat), l.length - i = d → i ≤ l.length → Ev (fun k => laws_eqLogEntryS.l0 k l l (i : Int)) true := by
  intro d
  induction d with
  | zero =>
    intro i hd hi
    refine Ev.step (fun k => by rw [laws_eqLogEntryS.l0]) ?_
    exact EvKit.itf (by omega) (EvKit.ret rfl)
  | succ d ih =>
    intro i hd hi
    refine Ev.step (fun k => by rw [laws_eqLogEntryS.l0]) ?_
    refine EvKit.itt (by omega) (EvKit.itt (by omega) (EvKit.itt (by omega) (EvKit.bnd (laws_eqLogEntry.refl ..) (EvKit.itt rfl ?_))))
    rw [EvKit.w64 (n := (i : Int) + 1) (by omega) (by omega)]
    exact ih (i + 1) (by omega) (by omega)
theorem laws_eqLogEntryS.ev (l : List S109) (hl : l.length ≤ 9223372036854775806) : Ev (fun k => laws_eqLogEntryS.f k l l) true := by
  unfold laws_eqLogEntryS.f
  exact EvKit.itt rfl (laws_eqLogEntryS.ev_l l hl _ 0 rfl (by omega))

/-! ### eqEntryS: a list and itself -/
theorem laws_eqEntry.refl (a0 : Int) (a1 : Int) (a2 : Int) (a3 : Bool) : laws_eqEntry.f a0 a1 a2 a3 a0 a1 a2 a3 = some true := by simp [laws_eqEntry.f]
theorem laws_eqEntryS.ev_l (l : List S115) (hl : l.length ≤ 9223372036854775806) : ∀ (d i : Nat), l.length - i = d → i ≤ l.length → Ev (fun k => laws_eqEntryS.l0 k l l (i : Int)) true := by
  intro d
  induction d with
  | zero =>
    intro i hd hi
    refine Ev.step (fun k => by rw [laws_eqEntryS.l0]) ?_
    exact EvKit.itf (by omega) (EvKit.ret rfl)
  | succ d ih =>
    intro i hd hi
    refine Ev.step (fun k => by rw [laws_eqEntryS.l0]) ?_
    refine EvKit.itt (by omega) (EvKit.itt (by omega) (EvKit.itt (by omega) (EvKit.bnd (laws_eqEntry.refl ..) (EvKit.itt rfl ?_))))
    rw [EvKit.w64 (n := (i : Int) + 1) (by omega) (by omega)]
    exact ih (i + 1) (by omega) (by omega)
theorem laws_eqEntryS.ev (l : List S115) (hl : l.length ≤ 9223372036854775806) : Ev (fun k => laws_eqEntryS.f k l l) true := by
  unfold laws_eqEntryS.f
  exact EvKit.itt rfl (laws_eqEntryS.ev_l l hl _ 0 rfl (by omega))

/-! ### markLogEntryS and heldLogEntryS -/
def markLogEntryL : Int → List S109 → List S109
  | _, [] => []
  | v, _ :: l => (⟨v, v + 1, v + 2, v + 3, v + 4, v + 5⟩ : S109) :: markLogEntryL (v + 6) l
theorem markLogEntryL_len : ∀ (l : List S109) (v : Int), (markLogEntryL v l).length = l.length
  | [], _ => rfl
  | _ :: l, v => by simp [markLogEntryL, markLogEntryL_len l]
theorem rd_T109_at (p : List S109) (x : S109) (q : List S109) : rd_T109 (p ++ x :: q) (p.length : Int) = x := by simp [rd_T109]
theorem laws_markLogEntryS.ev_l : ∀ (q p : List S109) (v : Int) (i : Nat), i = p.length → 0 ≤ v → v + 6 * (q.length : Int) ≤ 4611686018427387904 → p.length + q.length ≤ 4611686018427387904 →
    Ev (fun k => laws_markLogEntryS.l0 k (p ++ q) v (i : Int)) (v + 6 * (q.length : Int), p ++ markLogEntryL v q) := by
  intro q
  induction q with
  | nil =>
    intro p v i hi h0 h1 h2
    subst hi
    refine Ev.step (fun k => by rw [laws_markLogEntryS.l0]) ?_
    exact EvKit.itf (by simp) (EvKit.ret (by simp [markLogEntryL]))
  | cons x q ih =>
    intro p v i hi h0 h1 h2
    subst hi
    simp only [List.length_cons] at h1 h2
    have e1 : wrap64 (v + 1) = v + 1 := EvKit.w64 (by omega) (by omega)
    have e2 : wrap64 (v + 2) = v + 2 := EvKit.w64 (by omega) (by omega)
    have e3 : wrap64 (v + 3) = v + 3 := EvKit.w64 (by omega) (by omega)
    have e4 : wrap64 (v + 4) = v + 4 := EvKit.w64 (by omega) (by omega)
    have e5 : wrap64 (v + 5) = v + 5 := EvKit.w64 (by omega) (by omega)
    have e6 : wrap64 (v + 6) = v + 6 := EvKit.w64 (by omega) (by omega)
    have ep : wrap64 ((p.length : Int) + 1) = (p.length : Int) + 1 := EvKit.w64 (by omega) (by omega)
    refine Ev.step (fun k => by rw [laws_markLogEntryS.l0]) ?_
    refine EvKit.itt (by simp only [List.length_append, List.length_cons]; omega) (EvKit.itt (by omega) ?_)
    simp only [Option.bind_some, ListKit.set_at, rd_T109_at, ListKit.w64w, Int.add_assoc, Int.reduceAdd, e1, e2, e3, e4, e5, e6, ep]
    rw [ListKit.shift p _ q]
    refine EvKit.ev_to (ih (p ++ [_]) (v + 6) (p.length + 1) (by simp) (by omega) (by omega) (by simp only [List.length_append, List.length_cons, List.length_nil]; omega)) ?_
    simp only [markLogEntryL, List.append_assoc, List.cons_append, List.nil_append, List.length_cons]
    refine Prod.ext ?_ rfl
    show v + 6 + 6 * (q.length : Int) = v + 6 * ((q.length + 1 : Nat) : Int)
    omega
theorem laws_markLogEntryS.ev (l : List S109) (v : Int) (h0 : 0 ≤ v) (h1 : v + 6 * (l.length : Int) ≤ 4611686018427387904) : Ev (fun k => laws_markLogEntryS.f k l v) (v + 6 * (l.length : Int), markLogEntryL v l) := by
  unfold laws_markLogEntryS.f
  exact laws_markLogEntryS.ev_l l [] v 0 rfl h0 h1 (by simp; omega)
theorem laws_heldLogEntryS.ev_l : ∀ (q p : List S109) (v : Int) (i : Nat), i = p.length → 0 ≤ v → v + 6 * (q.length : Int) ≤ 4611686018427387904 → p.length + q.length ≤ 4611686018427387904 →
    Ev (fun k => laws_heldLogEntryS.l0 k (p ++ markLogEntryL v q) v (i : Int)) (v + 6 * (q.length : Int)) := by
  intro q
  induction q with
  | nil =>
    intro p v i hi h0 h1 h2
    subst hi
    refine Ev.step (fun k => by rw [laws_heldLogEntryS.l0]) ?_
    exact EvKit.itf (by simp [markLogEntryL]) (EvKit.ret (by simp))
  | cons x q ih =>
    intro p v i hi h0 h1 h2
    subst hi
    simp only [List.length_cons] at h1 h2
    have e1 : wrap64 (v + 1) = v + 1 := EvKit.w64 (by omega) (by omega)
    have e2 : wrap64 (v + 2) = v + 2 := EvKit.w64 (by omega) (by omega)
    have e3 : wrap64 (v + 3) = v + 3 := EvKit.w64 (by omega) (by omega)
    have e4 : wrap64 (v + 4) = v + 4 := EvKit.w64 (by omega) (by omega)
    have e5 : wrap64 (v + 5) = v + 5 := EvKit.w64 (by omega) (by omega)
    have e6 : wrap64 (v + 6) = v + 6 := EvKit.w64 (by omega) (by omega)
    have ep : wrap64 ((p.length : Int) + 1) = (p.length : Int) + 1 := EvKit.w64 (by omega) (by omega)
    simp only [markLogEntryL]
    refine Ev.step (fun k => by rw [laws_heldLogEntryS.l0]) ?_
    refine EvKit.itt (by simp only [List.length_append, List.length_cons]; omega) (EvKit.itt (by omega) ?_)
    simp only [rd_T109_at, ListKit.w64w, Int.add_assoc, Int.reduceAdd, e1, e2, e3, e4, e5, e6, ep, bne_self_eq_false, Bool.false_eq_true, ↓reduceIte]
    rw [ListKit.shift p _ (markLogEntryL (v + 6) q)]
    refine EvKit.ev_to (ih (p ++ [_]) (v + 6) (p.length + 1) (by simp) (by omega) (by omega) (by simp only [List.length_append, List.length_cons, List.length_nil]; omega)) ?_
    simp only [List.length_cons]
    omega
theorem laws_heldLogEntryS.ev (l : List S109) (v : Int) (h0 : 0 ≤ v) (h1 : v + 6 * (l.length : Int) ≤ 4611686018427387904) : Ev (fun k => laws_heldLogEntryS.f k (markLogEntryL v l) v) (v + 6 * (l.length : Int)) := by
  unfold laws_heldLogEntryS.f
  exact laws_heldLogEntryS.ev_l l [] v 0 rfl h0 h1 (by simp; omega)

/-! ### markEntryS and heldEntryS -/
def markEntryL : Int → List S115 → List S115
  | _, [] => []
  | v, _ :: l => (⟨v, v + 1, v + 2, (Int.tmod (v + 3) 3 == 0)⟩ : S115) :: markEntryL (v + 4) l
theorem markEntryL_len : ∀ (l : List S115) (v : Int), (markEntryL v l).length = l.length
  | [], _ => rfl
  | _ :: l, v => by simp [markEntryL, markEntryL_len l]
theorem rd_T115_at (p : List S115) (x : S115) (q : List S115) : rd_T115 (p ++ x :: q) (p.length : Int) = x := by simp [rd_T115]
theorem laws_markEntryS.ev_l : ∀ (q p : List S115) (v : Int) (i : Nat), i = p.length → 0 ≤ v → v + 4 * (q.length : Int) ≤ 4611686018427387904 → p.length + q.length ≤ 4611686018427387904 →
    Ev (fun k => laws_markEntryS.l0 k (p ++ q) v (i : Int)) (v + 4 * (q.length : Int), p ++ markEntryL v q) := by
  intro q
  induction q with
  | nil =>
    intro p v i hi h0 h1 h2
    subst hi
    refine Ev.step (fun k => by rw [laws_markEntryS.l0]) ?_
    exact EvKit.itf (by simp) (EvKit.ret (by simp [markEntryL]))
  | cons x q ih =>
    intro p v i hi h0 h1 h2
    subst hi
    simp only [List.length_cons] at h1 h2
    have e1 : wrap64 (v + 1) = v + 1 := EvKit.w64 (by omega) (by omega)
    have e2 : wrap64 (v + 2) = v + 2 := EvKit.w64 (by omega) (by omega)
    have e3 : wrap64 (v + 3) = v + 3 := EvKit.w64 (by omega) (by omega)
    have e4 : wrap64 (v + 4) = v + 4 := EvKit.w64 (by omega) (by omega)
    have ep : wrap64 ((p.length : Int) + 1) = (p.length : Int) + 1 := EvKit.w64 (by omega) (by omega)
    refine Ev.step (fun k => by rw [laws_markEntryS.l0]) ?_
    refine EvKit.itt (by simp only [List.length_append, List.length_cons]; omega) (EvKit.itt (by omega) ?_)
    simp only [Option.bind_some, ListKit.set_at, rd_T115_at, ListKit.w64w, Int.add_assoc, Int.reduceAdd, e1, e2, e3, e4, ep]
    rw [ListKit.shift p _ q]
    refine EvKit.ev_to (ih (p ++ [_]) (v + 4) (p.length + 1) (by simp) (by omega) (by omega) (by simp only [List.length_append, List.length_cons, List.length_nil]; omega)) ?_
    simp only [markEntryL, List.append_assoc, List.cons_append, List.nil_append, List.length_cons]
    refine Prod.ext ?_ rfl
    show v + 4 + 4 * (q.length : Int) = v + 4 * ((q.length + 1 : Nat) : Int)
    omega
theorem laws_markEntryS.ev (l : List S115) (v : Int) (h0 : 0 ≤ v) (h1 : v + 4 * (l.length : Int) ≤ 4611686018427387904) : Ev (fun k => laws_markEntryS.f k l v) (v + 4 * (l.length : Int), markEntryL v l) := by
  unfold laws_markEntryS.f
  exact laws_markEntryS.ev_l l [] v 0 rfl h0 h1 (by simp; omega)
theorem laws_heldEntryS.ev_l : ∀ (q p : List S115) (v : Int) (i : Nat), i = p.length → 0 ≤ v → v + 4 * (q.length : Int) ≤ 4611686018427387904 → p.length + q.length ≤ 4611686018427387904 →
    Ev (fun k => laws_heldEntryS.l0 k (p ++ markEntryL v q) v (i : Int)) (v + 4 * (q.length : Int)) := by
  intro q
  induction q with
  | nil =>
    intro p v i hi h0 h1 h2
    subst hi
    refine Ev.step (fun k => by rw [laws_heldEntryS.l0]) ?_
    exact EvKit.itf (by simp [markEntryL]) (EvKit.ret (by simp))
  | cons x q ih =>
    intro p v i hi h0 h1 h2
    subst hi
    simp only [List.length_cons] at h1 h2
    have e1 : wrap64 (v + 1) = v + 1 := EvKit.w64 (by omega) (by omega)
    have e2 : wrap64 (v + 2) = v + 2 := EvKit.w64 (by omega) (by omega)
    have e3 : wrap64 (v + 3) = v + 3 := EvKit.w64 (by omega) (by omega)
    have e4 : wrap64 (v + 4) = v + 4 := EvKit.w64 (by omega) (by omega)
    have ep : wrap64 ((p.length : Int) + 1) = (p.length : Int) + 1 := EvKit.w64 (by omega) (by omega)
    simp only [markEntryL]
    refine Ev.step (fun k => by rw [laws_heldEntryS.l0]) ?_
    refine EvKit.itt (by simp only [List.length_append, List.length_cons]; omega) (EvKit.itt (by omega) ?_)
    simp only [rd_T115_at, ListKit.w64w, Int.add_assoc, Int.reduceAdd, e1, e2, e3, e4, ep, bne_self_eq_false, Bool.false_eq_true, ↓reduceIte]
    rw [ListKit.shift p _ (markEntryL (v + 4) q)]
    refine EvKit.ev_to (ih (p ++ [_]) (v + 4) (p.length + 1) (by simp) (by omega) (by omega) (by simp only [List.length_append, List.length_cons, List.length_nil]; omega)) ?_
    simp only [List.length_cons]
    omega
theorem laws_heldEntryS.ev (l : List S115) (v : Int) (h0 : 0 ≤ v) (h1 : v + 4 * (l.length : Int) ≤ 4611686018427387904) : Ev (fun k => laws_heldEntryS.f k (markEntryL v l) v) (v + 4 * (l.length : Int)) := by
  unfold laws_heldEntryS.f
  exact laws_heldEntryS.ev_l l [] v 0 rfl h0 h1 (by simp; omega)

theorem laws_eqKeyStore.refl (a b c d : Int) : laws_eqKeyStore.f a b c d a b c d = some true := by simp [laws_eqKeyStore.f]
theorem laws_eqBundle.ev (l : List S115) (hl : l.length ≤ 9223372036854775806) : Ev (fun k => laws_eqBundle.f k l l) true := by
  unfold laws_eqBundle.f
  exact Ev.bind (laws_eqEntryS.ev l hl) (EvKit.itt rfl (EvKit.ret rfl))
theorem laws_eqDevice.ev (a b c d : Int) (l : List S109) (e f g : Int) (m : List S115) (hl : l.length ≤ 9223372036854775806) (hm : m.length ≤ 9223372036854775806) : Ev (fun k => laws_eqDevice.f k a b c d l e f g m a b c d l e f g m) true := by
  unfold laws_eqDevice.f
  exact EvKit.bnd (laws_eqKeyStore.refl ..) (EvKit.itt rfl (Ev.bind (laws_eqLogEntryS.ev l hl) (EvKit.itt rfl (EvKit.itt rfl (EvKit.itt rfl (EvKit.itt rfl (Ev.bind (laws_eqBundle.ev m hm) (EvKit.itt rfl (EvKit.ret rfl)))))))))

theorem laws_markBundle.ev (l : List S115) (v : Int) (h0 : 0 ≤ v) (h1 : v + 4 * (l.length : Int) ≤ 4611686018427387904) : Ev (fun k => laws_markBundle.f k l v) (v + 4 * (l.length : Int), markEntryL v l) := by
  unfold laws_markBundle.f
  exact Ev.bind (laws_markEntryS.ev l v h0 h1) (EvKit.ret rfl)
theorem laws_heldBundle.ev (l : List S115) (v : Int) (h0 : 0 ≤ v) (h1 : v + 4 * (l.length : Int) ≤ 4611686018427387904) : Ev (fun k => laws_heldBundle.f k (markEntryL v l) v) (v + 4 * (l.length : Int)) := by
  unfold laws_heldBundle.f
  exact Ev.bind (laws_heldEntryS.ev l v h0 h1) (EvKit.itf (by omega) (EvKit.ret rfl))
theorem laws_markDevice.ev (a b c d : Int) (l : List S109) (e f g : Int) (m : List S115) (v : Int) (h0 : 0 ≤ v) (h1 : v + 6 * (l.length : Int) + 4 * (m.length : Int) ≤ 4611686018427387904) :
    Ev (fun k => laws_markDevice.f k a b c d l e f g m v) (v + 6 * (l.length : Int) + 4 * (m.length : Int), markLogEntryL v l, markEntryL (v + 6 * (l.length : Int)) m) := by
  unfold laws_markDevice.f
  exact Ev.bind (laws_markLogEntryS.ev l v h0 (by omega)) (Ev.bind (laws_markBundle.ev m _ (by omega) h1) (EvKit.ret rfl))
theorem laws_heldDevice.ev (a b c d : Int) (l : List S109) (e f g : Int) (m : List S115) (v : Int) (h0 : 0 ≤ v) (h1 : v + 6 * (l.length : Int) + 4 * (m.length : Int) ≤ 4611686018427387904) :
    Ev (fun k => laws_heldDevice.f k a b c d (markLogEntryL v l) e f g (markEntryL (v + 6 * (l.length : Int)) m) v) (v + 6 * (l.length : Int) + 4 * (m.length : Int)) := by
  unfold laws_heldDevice.f
  exact Ev.bind (laws_heldLogEntryS.ev l v h0 (by omega)) (EvKit.itf (by omega) (Ev.bind (laws_heldBundle.ev m _ (by omega) h1) (EvKit.itf (by omega) (EvKit.ret rfl))))

end Go.Proofs.Ytaajgknmclpbiaa.QFnExactNewDevice
