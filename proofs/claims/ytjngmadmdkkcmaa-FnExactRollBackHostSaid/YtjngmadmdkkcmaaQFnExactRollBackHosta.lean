/- What the printed functions of FnExactRollBackHost come to, in plain terms; no condition beyond those in each theorem. -/
import Derived.Test.YtjngmadmdkkcmaaRFnExactRollBackHost
set_option linter.unusedVariables false
set_option linter.unusedSimpArgs false
namespace Go.Proofs.Ytjngmadmdkkcmaa.QFnExactRollBackHost
open Go.RowKit Go.Proofs.Ytjngmadmdkkcmaa.PFnExactRollBackHost Go.Proofs.YtjngmadmdkkcmaaW.PrintWords Go.Proofs.YtjngmadmdkkcmaaW.PrintLast Go.Proofs.Ytjngmadmdkkcmaa.RFnExactRollBackHost
/-! ### evkit: steps for printed functions -/
namespace EvKit
theorem w64 {n : Int} (h0 : -9223372036854775808 ≤ n) (h1 : n ≤ 9223372036854775807) : wrap64 n = n := by unfold wrap64; omega
section
variable {α β : Type}
theorem ret {x r : α} (h : x = r) : Ev (fun _ => some x) r := ⟨0, fun _ _ => by rw [h]⟩
theorem eqv {x : Option α} {r : α} (h : x = some r) : Ev (fun _ => x) r := ⟨0, fun _ _ => h⟩
theorem itt {c : Prop} [Decidable c] {a b : Nat → Option α} {r : α} (hc : c) (h : Ev a r) : Ev (fun k => if c then a k else b k) r := Ev.congr (fun _ => if_pos hc) h
theorem itf {c : Prop} [Decidable c] {a b : Nat → Option α} {r : α} (hc : ¬ c) (h : Ev b r) : Ev (fun k => if c then a k else b k) r := Ev.congr (fun _ => if_neg hc) h
theorem ite {c : Prop} [Decidable c] {a b : Nat → Option α} {r : α} (h : c → Ev a r) (h' : ¬ c → Ev b r) : Ev (fun k => if c then a k else b k) r := by
  by_cases hc : c
  · exact itt hc (h hc)
  · exact itf hc (h' hc)
theorem now {x : α} {f : Nat → α → Option β} {r : β} (h : Ev (fun n => f n x) r) : Ev (fun n => (some x).bind (f n)) r := h
theorem bnd {x : Option α} {a : α} {f : Nat → α → Option β} {r : β} (hx : x = some a) (h : Ev (fun n => f n a) r) : Ev (fun n => x.bind (f n)) r := Ev.bind (eqv hx) h
theorem ev_to {g : Nat → Option α} {r q : α} (h : Ev g r) (e : r = q) : Ev g q := e ▸ h
end
end EvKit

theorem spec_l1In.eq (x a b : Int) : spec_l1In.f x a b = some (decide (a ≤ x ∧ x ≤ b)) := by
  unfold spec_l1In.f
  by_cases h : x ≥ a
  · rw [if_pos h]; congr 1; exact decide_eq_decide.mpr ⟨fun z => ⟨h, z⟩, fun z => z.2⟩
  · rw [if_neg h]; congr 1; exact (decide_eq_false (by omega)).symm

namespace ListKit
theorem set_at {α : Type} (p : List α) (x y : α) (q : List α) : (p ++ x :: q).set (p.length : Int).toNat y = p ++ y :: q := by
  rw [Int.toNat_natCast, List.set_append_right _ _ (Nat.le_refl _), Nat.sub_self, List.set_cons_zero]
theorem shift {α : Type} (p : List α) (y : α) (q : List α) : p ++ y :: q = (p ++ [y]) ++ q := by simp
theorem w64w (a b : Int) : wrap64 (wrap64 a + b) = wrap64 (a + b) := by unfold wrap64; omega
end ListKit

/-! ### rollback: a host's state from its saved ones -/
def rollV (a b c d e : Int) (l : List S28) (m k : Int) : Int × Int × Int × Int × Int × (List S28) × Int × Bool :=
  if 0 ≤ k ∧ k < (l.length : Int) then ((rd_T28 l ((l.length : Int) - 1 - k)).f0.f0, (rd_T28 l ((l.length : Int) - 1 - k)).f0.f1, (rd_T28 l ((l.length : Int) - 1 - k)).f1, (rd_T28 l ((l.length : Int) - 1 - k)).f2, (rd_T28 l ((l.length : Int) - 1 - k)).f3, l, m, true) else (a, b, c, d, e, l, m, false)
theorem rollV_list (a b c d e : Int) (l : List S28) (m k : Int) : (rollV a b c d e l m k).2.2.2.2.2.1 = l := by
  unfold rollV; split <;> rfl
theorem spec_RollBackHost.eq (a b c d e : Int) (l : List S28) (m k : Int) (hl : l.length ≤ 1048576) : spec_RollBackHost.f a b c d e l m k = some (rollV a b c d e l m k) := by
  unfold spec_RollBackHost.f spec_l24Copy.f rollV
  rw [EvKit.w64 (n := (l.length : Int) - 1) (by omega) (by omega), spec_l1In.eq, Option.bind_some, if_pos (by simp; omega), Option.bind_some, Option.bind_some, List.nil_append]
  by_cases h : 0 ≤ k ∧ k < (l.length : Int)
  · rw [if_pos h, if_pos (decide_eq_true (by omega)), EvKit.w64 (n := (l.length : Int) - 1 - k) (by omega) (by omega), if_pos (by omega), if_pos (by omega)]
  · rw [if_neg h, if_neg (fun z => h (by have := of_decide_eq_true z; omega))]
theorem impl_RollBackHost.eq (a b c d e : Int) (l : List S28) (m k : Int) (hl : l.length ≤ 1048576) : impl_RollBackHost.f a b c d e l m k = some (rollV a b c d e l m k) := by
  unfold impl_RollBackHost.f impl_copyHost.f rollV
  rw [EvKit.w64 (n := (l.length : Int) - 1) (by omega) (by omega), Option.bind_some, if_pos (by simp; omega), Option.bind_some, List.nil_append]
  by_cases h1 : k < 0
  · rw [if_pos h1, if_neg (by omega)]
  · rw [if_neg h1]
    by_cases h2 : k ≥ (l.length : Int)
    · rw [if_pos h2, if_neg (by omega)]
    · rw [if_neg h2, EvKit.w64 (n := (l.length : Int) - 1 - k) (by omega) (by omega), if_pos (by omega), if_pos (by omega), if_pos (by omega)]

theorem laws_szKeeperS.eq (l : List S44) (v : Int) (h0 : 0 ≤ v) (h1 : v ≤ 1048576) (hl : l.length ≤ 9223372036854775807) : laws_szKeeperS.f l v = some (if v < (l.length : Int) then -1 else v - (l.length : Int)) := by
  unfold laws_szKeeperS.f
  rw [EvKit.w64 (by omega) (by omega)]
  by_cases h : v < (l.length : Int)
  · rw [if_pos (by omega), if_pos h]
  · rw [if_neg (by omega), if_neg h]

/-! ### toKeeperS: the same list -/
def toKeeperC (x : S44) : S28 := (⟨(⟨x.f0.f0, x.f0.f1⟩ : S26), x.f1, x.f2, x.f3⟩ : S28)
theorem rd_T44_at (p : List S44) (x : S44) (q : List S44) (i : Nat) (hi : i = p.length) : rd_T44 (p ++ x :: q) (i : Int) = x := by subst hi; simp [rd_T44]
theorem laws_toKeeperS.ev_l : ∀ (q p : List S44) (i : Nat), i = p.length → p.length + q.length ≤ 4611686018427387904 →
    Ev (fun k => laws_toKeeperS.l0 k (p ++ q) (p.map toKeeperC ++ List.replicate q.length z28) (i : Int)) ((p ++ q).map toKeeperC) := by
  intro q
  induction q with
  | nil =>
    intro p i hi h
    refine Ev.step (fun k => by rw [laws_toKeeperS.l0]) ?_
    exact EvKit.itf (by simp; omega) (EvKit.ret (by simp))
  | cons x q ih =>
    intro p i hi h
    simp only [List.length_cons] at h
    refine Ev.step (fun k => by rw [laws_toKeeperS.l0]) ?_
    refine EvKit.itt (by simp only [List.length_append, List.length_cons]; omega) (EvKit.itt (by omega) ?_)
    rw [rd_T44_at p x q i hi]
    simp only [laws_toKeeper.f, laws_toShare.f, Option.bind_some]
    refine EvKit.itt (by simp only [List.length_append, List.length_map, List.length_replicate, List.length_cons]; omega) ?_
    rw [EvKit.w64 (n := (i : Int) + 1) (by omega) (by omega)]
    have e : (p.map toKeeperC ++ List.replicate (x :: q).length z28).set (i : Int).toNat (toKeeperC x) = (p ++ [x]).map toKeeperC ++ List.replicate q.length z28 := by
      rw [List.length_cons, List.replicate_succ]
      have h2 := ListKit.set_at (p.map toKeeperC) z28 (toKeeperC x) (List.replicate q.length z28)
      rw [List.length_map, ← hi] at h2
      rw [h2]
      simp
    have e2 : p ++ x :: q = (p ++ [x]) ++ q := by simp
    refine EvKit.ev_to (Ev.congr (fun k => ?_) (ih (p ++ [x]) (i + 1) (by simp; omega) (by simp only [List.length_append, List.length_cons, List.length_nil]; omega))) (by rw [e2])
    rw [← e, ← e2]
    rfl
theorem laws_toKeeperS.ev (l : List S44) (hl : l.length ≤ 1048576) : Ev (fun k => laws_toKeeperS.f k l) (l.map toKeeperC) := by
  unfold laws_toKeeperS.f
  exact EvKit.itt (by omega) (EvKit.itt (by omega) (laws_toKeeperS.ev_l l [] 0 rfl (by simp; omega)))

theorem laws_szKeeperHost.eq (a b c d e : Int) (l : List S44) (m v : Int) (h0 : 0 ≤ v) (h1 : v ≤ 1048576) (hl : l.length ≤ 9223372036854775807) : laws_szKeeperHost.f a b c d e l m v = some (if v < (l.length : Int) then -1 else v - (l.length : Int)) := by
  unfold laws_szKeeperHost.f
  rw [laws_szKeeperS.eq l v h0 h1 hl]
  simp only [Option.bind_some]
  by_cases h : v < (l.length : Int)
  · rw [if_pos h]; rfl
  · rw [if_neg h, if_neg (by omega)]
theorem laws_toKeeperHost.ev (a b c d e : Int) (l : List S44) (m : Int) (hl : l.length ≤ 1048576) : Ev (fun k => laws_toKeeperHost.f k a b c d e l m) (a, b, c, d, e, l.map toKeeperC, m) := by
  unfold laws_toKeeperHost.f laws_toKeeper.f laws_toShare.f
  exact EvKit.now (EvKit.now (Ev.bind (laws_toKeeperS.ev l hl) (EvKit.ret rfl)))

theorem laws_eqKeeper.refl (a0 a1 a2 a3 a4 : Int) : laws_eqKeeper.f a0 a1 a2 a3 a4 a0 a1 a2 a3 a4 = some true := by simp [laws_eqKeeper.f, laws_eqShare.f]

/-! ### eqKeeperS: a list and itself -/
theorem laws_eqKeeperS.ev_l (l : List S28) (hl : l.length ≤ 9223372036854775806) : ∀ (d i : Nat), l.length - i = d → i ≤ l.length → Ev (fun k => laws_eqKeeperS.l0 k l l (i : Int)) true := by
  intro d
  induction d with
  | zero =>
    intro i hd hi
    refine Ev.step (fun k => by rw [laws_eqKeeperS.l0]) ?_
    exact EvKit.itf (by omega) (EvKit.ret rfl)
  | succ d ih =>
    intro i hd hi
    refine Ev.step (fun k => by rw [laws_eqKeeperS.l0]) ?_
    refine EvKit.itt (by omega) (EvKit.itt (by omega) (EvKit.itt (by omega) (EvKit.bnd (laws_eqKeeper.refl ..) (EvKit.itt rfl ?_))))
    rw [EvKit.w64 (n := (i : Int) + 1) (by omega) (by omega)]
    exact ih (i + 1) (by omega) (by omega)
theorem laws_eqKeeperS.ev (l : List S28) (hl : l.length ≤ 9223372036854775806) : Ev (fun k => laws_eqKeeperS.f k l l) true := by
  unfold laws_eqKeeperS.f
  exact EvKit.itt rfl (laws_eqKeeperS.ev_l l hl _ 0 rfl (by omega))

theorem laws_eqKeeperHost.ev (a b c d e : Int) (l : List S28) (m : Int) (hl : l.length ≤ 9223372036854775806) : Ev (fun k => laws_eqKeeperHost.f k a b c d e l m a b c d e l m) true := by
  unfold laws_eqKeeperHost.f
  exact EvKit.bnd (laws_eqKeeper.refl ..) (EvKit.itt rfl (Ev.bind (laws_eqKeeperS.ev l hl) (EvKit.itt rfl (EvKit.itt rfl (EvKit.ret rfl)))))

/-! ### markKeeperS and heldKeeperS -/
def markKeeperL : Int → List S28 → List S28
  | _, [] => []
  | v, _ :: l => (⟨(⟨v, v + 1⟩ : S26), v + 2, v + 3, v + 4⟩ : S28) :: markKeeperL (v + 5) l
theorem markKeeperL_len : ∀ (l : List S28) (v : Int), (markKeeperL v l).length = l.length
  | [], _ => rfl
  | _ :: l, v => by simp [markKeeperL, markKeeperL_len l]
theorem rd_T28_at (p : List S28) (x : S28) (q : List S28) : rd_T28 (p ++ x :: q) (p.length : Int) = x := by simp [rd_T28]
theorem laws_markKeeperS.ev_l : ∀ (q p : List S28) (v : Int) (i : Nat), i = p.length → 0 ≤ v → v + 5 * (q.length : Int) ≤ 4611686018427387904 → p.length + q.length ≤ 4611686018427387904 →
    Ev (fun k => laws_markKeeperS.l0 k (p ++ q) v (i : Int)) (v + 5 * (q.length : Int), p ++ markKeeperL v q) := by
  intro q
  induction q with
  | nil =>
    intro p v i hi h0 h1 h2
    subst hi
    refine Ev.step (fun k => by rw [laws_markKeeperS.l0]) ?_
    exact EvKit.itf (by simp) (EvKit.ret (by simp [markKeeperL]))
  | cons x q ih =>
    intro p v i hi h0 h1 h2
    subst hi
    simp only [List.length_cons] at h1 h2
    have e1 : wrap64 (v + 1) = v + 1 := EvKit.w64 (by omega) (by omega)
    have e2 : wrap64 (v + 2) = v + 2 := EvKit.w64 (by omega) (by omega)
    have e3 : wrap64 (v + 3) = v + 3 := EvKit.w64 (by omega) (by omega)
    have e4 : wrap64 (v + 4) = v + 4 := EvKit.w64 (by omega) (by omega)
    have e5 : wrap64 (v + 5) = v + 5 := EvKit.w64 (by omega) (by omega)
    have ep : wrap64 ((p.length : Int) + 1) = (p.length : Int) + 1 := EvKit.w64 (by omega) (by omega)
    refine Ev.step (fun k => by rw [laws_markKeeperS.l0]) ?_
    refine EvKit.itt (by simp only [List.length_append, List.length_cons]; omega) (EvKit.itt (by omega) ?_)
    simp only [Option.bind_some, ListKit.set_at, rd_T28_at, ListKit.w64w, Int.add_assoc, Int.reduceAdd, e1, e2, e3, e4, e5, ep]
    rw [ListKit.shift p _ q]
    refine EvKit.ev_to (ih (p ++ [_]) (v + 5) (p.length + 1) (by simp) (by omega) (by omega) (by simp only [List.length_append, List.length_cons, List.length_nil]; omega)) ?_
    simp only [markKeeperL, List.append_assoc, List.cons_append, List.nil_append, List.length_cons]
    refine Prod.ext ?_ rfl
    show v + 5 + 5 * (q.length : Int) = v + 5 * ((q.length + 1 : Nat) : Int)
    omega
theorem laws_markKeeperS.ev (l : List S28) (v : Int) (h0 : 0 ≤ v) (h1 : v + 5 * (l.length : Int) ≤ 4611686018427387904) : Ev (fun k => laws_markKeeperS.f k l v) (v + 5 * (l.length : Int), markKeeperL v l) := by
  unfold laws_markKeeperS.f
  exact laws_markKeeperS.ev_l l [] v 0 rfl h0 h1 (by simp; omega)

theorem laws_heldKeeperS.ev_l : ∀ (q p : List S28) (v : Int) (i : Nat), i = p.length → 0 ≤ v → v + 5 * (q.length : Int) ≤ 4611686018427387904 → p.length + q.length ≤ 4611686018427387904 →
    Ev (fun k => laws_heldKeeperS.l0 k (p ++ markKeeperL v q) v (i : Int)) (v + 5 * (q.length : Int)) := by
  intro q
  induction q with
  | nil =>
    intro p v i hi h0 h1 h2
    subst hi
    refine Ev.step (fun k => by rw [laws_heldKeeperS.l0]) ?_
    exact EvKit.itf (by simp [markKeeperL]) (EvKit.ret (by simp))
  | cons x q ih =>
    intro p v i hi h0 h1 h2
    subst hi
    simp only [List.length_cons] at h1 h2
    have e1 : wrap64 (v + 1) = v + 1 := EvKit.w64 (by omega) (by omega)
    have e2 : wrap64 (v + 2) = v + 2 := EvKit.w64 (by omega) (by omega)
    have e3 : wrap64 (v + 3) = v + 3 := EvKit.w64 (by omega) (by omega)
    have e4 : wrap64 (v + 4) = v + 4 := EvKit.w64 (by omega) (by omega)
    have e5 : wrap64 (v + 5) = v + 5 := EvKit.w64 (by omega) (by omega)
    have ep : wrap64 ((p.length : Int) + 1) = (p.length : Int) + 1 := EvKit.w64 (by omega) (by omega)
    simp only [markKeeperL]
    refine Ev.step (fun k => by rw [laws_heldKeeperS.l0]) ?_
    refine EvKit.itt (by simp only [List.length_append, List.length_cons]; omega) (EvKit.itt (by omega) ?_)
    simp only [rd_T28_at, ListKit.w64w, Int.add_assoc, Int.reduceAdd, e1, e2, e3, e4, e5, ep, bne_self_eq_false, Bool.false_eq_true, ↓reduceIte]
    rw [ListKit.shift p _ (markKeeperL (v + 5) q)]
    refine EvKit.ev_to (ih (p ++ [_]) (v + 5) (p.length + 1) (by simp) (by omega) (by omega) (by simp only [List.length_append, List.length_cons, List.length_nil]; omega)) ?_
    simp only [List.length_cons]
    omega
theorem laws_heldKeeperS.ev (l : List S28) (v : Int) (h0 : 0 ≤ v) (h1 : v + 5 * (l.length : Int) ≤ 4611686018427387904) : Ev (fun k => laws_heldKeeperS.f k (markKeeperL v l) v) (v + 5 * (l.length : Int)) := by
  unfold laws_heldKeeperS.f
  exact laws_heldKeeperS.ev_l l [] v 0 rfl h0 h1 (by simp; omega)

theorem laws_markKeeperHost.ev (a b c d e : Int) (l : List S28) (m v : Int) (h0 : 0 ≤ v) (h1 : v + 5 * (l.length : Int) ≤ 4611686018427387904) : Ev (fun k => laws_markKeeperHost.f k a b c d e l m v) (v + 5 * (l.length : Int), markKeeperL v l) := by
  unfold laws_markKeeperHost.f
  exact Ev.bind (laws_markKeeperS.ev l v h0 h1) (EvKit.ret rfl)
theorem laws_heldKeeperHost.ev (a b c d e : Int) (l : List S28) (m v : Int) (h0 : 0 ≤ v) (h1 : v + 5 * (l.length : Int) ≤ 4611686018427387904) : Ev (fun k => laws_heldKeeperHost.f k a b c d e (markKeeperL v l) m v) (v + 5 * (l.length : Int)) := by
  unfold laws_heldKeeperHost.f
  exact Ev.bind (laws_heldKeeperS.ev l v h0 h1) (EvKit.itf (by omega) (EvKit.ret rfl))

end Go.Proofs.Ytjngmadmdkkcmaa.QFnExactRollBackHost
